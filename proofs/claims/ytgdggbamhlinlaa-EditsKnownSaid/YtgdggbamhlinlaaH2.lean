/- YtgdggbamhlinlaaH2: Clone (31) of one document, the closure of Whole (33), IndexFunc (38), ContainsFunc (32) at no edit and at one. -/
import Derived.Test.YtgdggbamhlinlaaH1
namespace Go.Proofs.Ytgdggbamhlinlaa.PEditsFlat
open Go.RowKit Go.Shelf Go.Proofs.YtgdggbamhlinlaaW.PrintWords Go.Proofs.YtgdggbamhlinlaaW.PrintLast Go.Proofs.YtgdggbamhlinlaaW.PrintMore
set_option linter.unusedVariables false
set_option linter.unusedSimpArgs false

theorem cells_doc {w : World} {ad : Addr} {x : S56} (h : Kd.C k56 w (some ad) 1 [x]) :
    ∀ j u, [Value.string x.f0, .string x.f1, .int .i64 x.f2][j]? = some u → w.cell? (ad.add j) = some u := by
  obtain ⟨_, _, h2⟩ := h
  obtain ⟨ad', e, hc⟩ := h2 (by decide)
  cases e
  obtain ⟨c0, _, k0, g0⟩ := hc 0 x rfl
  obtain rfl := k56_open k0
  intro j u hj
  match j, hj with
  | 0, hj => exact g0 0 u hj
  | 1, hj => exact g0 1 u hj
  | 2, hj => exact g0 2 u hj

set_option maxRecDepth 100000 in
set_option maxHeartbeats 8000000 in
theorem clone_doc (ad : Addr) (c : Nat) (w : World) (x : S56) (hr : Kd.C k56 w (some ad) 1 [x]) :
    Calls Try.prog 31 #[.slice (some ad) 1 c] w fun e w' => ∃ (g cap : Nat) (tl : List Value), e = .returned (.slice (some ⟨g, 0, none⟩) 1 cap) ∧ w'.heap[g]? = some (.cells (.string x.f0 :: .string x.f1 :: .int .i64 x.f2 :: tl).toArray 56 (0, 0)) ∧ w.heap.size ≤ g ∧ 1 ≤ cap ∧ cap ≤ maxLen ∧ 3 + tl.length = cap * 3 ∧ Below w.heap.size w w' := by
  have HR := Aside0.mk hr
  clear hr
  have heq : ∀ W : World, (binOp .eql 57 (.slice (some ad) 1 c) (.slice none 0 0)).run Try.prog W = .ok (.bool false) W := fun W => Lib.run_eql_slice_nil W 57 56 (some ad) 1 c 0 0 Try.underlying57
  obtain ⟨i0, hi, hz0, hz1, hz2⟩ := info_parts info56
  go_enter Try.func31, Try.ntmps31
  go_wp2_with (at_builtin; refine wpList_append_grows _ rfl (.tmp 5) (.tmp 6) 57 rfl 56 i0 (.agg #[.string ⟨#[]⟩, .string ⟨#[]⟩, .int .i64 0]) 3 40 Try.underlying57 hi hz0 hz1 hz2 rfl (by decide) (some ⟨w.heap.size, 0, none⟩) 0 0 [] rfl (fun h => by cases h) rfl (by intro b hb j u hj; simp at hj) ad 1 c [.string x.f0, .string x.f1, .int .i64 x.f2] rfl rfl (cells_doc (Kd.C_alloc HR.out _)) ?c3 (by decide) (by unfold maxLen; omega) (by decide) ?hk)
  case c3 =>
    intro u hu
    simp only [List.mem_cons, List.not_mem_nil, or_false] at hu
    rcases hu with rfl | rfl | rfl <;> rfl
  case hk =>
    intro v' w2 hown hgrow
    have hb : Below w.heap.size w w2 := ((Below.refl _ _).alloc (Nat.le_refl _) _).grown hgrow (by simp) (fun k h => by cases h)
    obtain ⟨g, cap, tl, rfl, hg, hh, hc, hm, hl⟩ := own_block hown (by decide)
    have HH := Aside0.mk hh
    have HG := Aside0.mk hg
    have HL := Aside0.mk hl
    have HB := Aside0.mk hb
    have HC := Aside0.mk hc
    have HM := Aside0.mk hm
    clear hown hgrow hh hg hl hb hc hm
    go_wp2
    go_ret
    refine ⟨g, cap, tl, rfl, HH.out, ?_, HC.out, HM.out, ?_, HB.out⟩
    · have := HG.out
      first | omega | (simp only [World.size_alloc] at this; omega)
    · have := HL.out
      simp at this
      omega

set_option maxRecDepth 100000 in
set_option maxHeartbeats 8000000 in
theorem closure_calls (y0 : ByteArray) (y1 : Int) (y2 : Value) (b : Nat) (u : ByteArray) (w : World) (hc : w.cell? ⟨b, 0, none⟩ = some (.string u)) :
    Calls Try.prog 33 #[.agg #[.string y0, .int .i64 y1, y2], .pointer (some ⟨b, 0, none⟩)] w fun e w' => e = .returned (.bool (y0.toList == u.toList)) ∧ Below w.heap.size w w' := by
  have hlt : b < w.heap.size := World.block_lt_of_cell? _ _ hc
  have hne : b ≠ w.heap.size := by omega
  have hc2 : ∀ o : Obj, (w.alloc o).cell? ⟨b, 0, none⟩ = some (.string u) := fun o => Lib.cell?_alloc_some o hc
  go_enter Try.func33, Try.ntmps33
  go_wp2
  go_ret
  exact ⟨rfl, (Below.refl _ _).alloc (Nat.le_refl _) _⟩

/-- The closure of Whole over the edit in block b. -/
abbrev clo (b : Nat) : Value := .func (.func 33) #[] #[.pointer (some ⟨b, 0, none⟩)]

set_option maxRecDepth 100000 in
set_option maxHeartbeats 8000000 in
theorem index_none (A : Option Addr) (c b : Nat) (w : World) :
    Calls Try.prog 38 #[.slice A 0 c, clo b] w fun e w' => e = .returned (.int .i64 (-1)) ∧ Below w.heap.size w w' := by
  go_enter Try.func38, Try.ntmps38
  go_wp2
  refine wp_loop_rounds 1 ?_
  rw [rounds_succ]
  go_wp2
  go_ret
  exact ⟨rfl, Below.refl _ _⟩

set_option maxRecDepth 100000 in
set_option maxHeartbeats 8000000 in
theorem index_one (ad : Addr) (c b : Nat) (y0 u : ByteArray) (y1 : Int) (y2 : Value) (w : World) (hb : w.cell? ⟨b, 0, none⟩ = some (.string u)) (h0 : w.cell? ad = some (.string y0)) (h1 : w.cell? ⟨ad.block, ad.off + 1, none⟩ = some (.int .i64 y1)) (h2 : w.cell? ⟨ad.block, ad.off + 2, none⟩ = some y2) (hy : y0.toList = u.toList) :
    Calls Try.prog 38 #[.slice (some ad) 1 c, clo b] w fun e w' => e = .returned (.int .i64 0) ∧ Below w.heap.size w w' := by
  have HB := Aside0.mk hb
  have HY : Aside0 ((y0.toList == u.toList) = true) := ⟨beq_iff_eq.2 hy⟩
  clear hb hy
  go_enter Try.func38, Try.ntmps38
  go_wp2
  refine wp_loop_rounds 1 ?_
  rw [rounds_succ]
  go_wp2_with (go_at_call 33; (with_reducible refine (closure_calls y0 y1 y2 b u _ HB.out).mono ?_); rintro e w1 ⟨rfl, hb1⟩; rw [HY.out]; have HB1 := Aside0.mk hb1; clear hb1)
  go_ret
  exact ⟨rfl, HB1.out⟩

set_option maxRecDepth 100000 in
set_option maxHeartbeats 8000000 in
theorem contains_none (A : Option Addr) (c b : Nat) (w : World) :
    Calls Try.prog 32 #[.slice A 0 c, clo b] w fun e w' => e = .returned (.bool false) ∧ Below w.heap.size w w' := by
  go_enter Try.func32, Try.ntmps32
  go_wp2_with (go_at_call 38; (with_reducible refine (index_none A c b _).mono ?_); rintro e w1 ⟨rfl, hb1⟩; have HB1 := Aside0.mk hb1; clear hb1)
  go_ret
  exact ⟨rfl, HB1.out⟩

set_option maxRecDepth 100000 in
set_option maxHeartbeats 8000000 in
theorem contains_one (ad : Addr) (c b : Nat) (y0 u : ByteArray) (y1 : Int) (y2 : Value) (w : World) (hb : w.cell? ⟨b, 0, none⟩ = some (.string u)) (h0 : w.cell? ad = some (.string y0)) (h1 : w.cell? ⟨ad.block, ad.off + 1, none⟩ = some (.int .i64 y1)) (h2 : w.cell? ⟨ad.block, ad.off + 2, none⟩ = some y2) (hy : y0.toList = u.toList) :
    Calls Try.prog 32 #[.slice (some ad) 1 c, clo b] w fun e w' => e = .returned (.bool true) ∧ Below w.heap.size w w' := by
  have HB := Aside0.mk hb
  have H0 := Aside0.mk h0
  have H1 := Aside0.mk h1
  have H2 := Aside0.mk h2
  have HY := Aside0.mk hy
  clear hb h0 h1 h2 hy
  go_enter Try.func32, Try.ntmps32
  go_wp2_with (go_at_call 38; (with_reducible refine (index_one ad c b y0 u y1 y2 _ HB.out H0.out H1.out H2.out HY.out).mono ?_); rintro e w1 ⟨rfl, hb1⟩; have HB1 := Aside0.mk hb1; clear hb1)
  go_ret
  exact ⟨rfl, HB1.out⟩
end Go.Proofs.Ytgdggbamhlinlaa.PEditsFlat

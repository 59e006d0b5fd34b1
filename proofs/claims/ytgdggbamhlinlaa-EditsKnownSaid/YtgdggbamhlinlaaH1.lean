/- YtgdggbamhlinlaaH1: Clone (26) of three splices, Sort (18) of EditsKnown's. -/
import Derived.Test.YtgdggbamhlinlaaH0
import Derived.WalkSpells
import Derived.ArgAppend
namespace Go.Proofs.Ytgdggbamhlinlaa.PEditsFlat
open Go.RowKit Go.Shelf Go.Proofs.YtgdggbamhlinlaaW.PrintWords Go.Proofs.YtgdggbamhlinlaaW.PrintLast Go.Proofs.YtgdggbamhlinlaaW.PrintMore
set_option linter.unusedVariables false
set_option linter.unusedSimpArgs false

/-- A row of the call's own that is not nil, as its block. -/
theorem own_block {w : World} {base : Nat} {e : TypeId} {size n : Nat} {v : Value} {xs : List Value} (h : w.ownsRow base e size v n xs) (hn : 0 < n) :
    ∃ (g cap : Nat) (tl : List Value), v = .slice (some ⟨g, 0, none⟩) n cap ∧ base ≤ g ∧ w.heap[g]? = some (.cells (xs ++ tl).toArray e (0, 0)) ∧ n ≤ cap ∧ cap ≤ maxLen ∧ (xs ++ tl).length = cap * size := by
  rcases h.2 with ⟨_, h0⟩ | ⟨g, cap, cur, hv, hg, hh, hc, hm, hs, ht⟩
  · omega
  · have e : (xs ++ cur.toList.drop (n * size)) = cur.toList := by rw [← ht, List.take_append_drop]
    refine ⟨g, cap, cur.toList.drop (n * size), hv, hg, ?_, hc, hm, ?_⟩
    · rw [e, hh]
    · rw [e, Array.length_toList, hs]
/-- The other way round. -/
theorem own_of_block {w : World} {base : Nat} {e : TypeId} {size n g cap : Nat} {xs tl : List Value} (hg : base ≤ g) (hh : w.heap[g]? = some (.cells (xs ++ tl).toArray e (0, 0))) (hc : n ≤ cap) (hm : cap ≤ maxLen) (hl : (xs ++ tl).length = cap * size) (hx : xs.length = n * size) :
    w.ownsRow base e size (.slice (some ⟨g, 0, none⟩) n cap) n xs :=
  ⟨hx, .inr ⟨g, cap, _, rfl, hg, hh, hc, hm, by simpa using hl, by simp [← hx]⟩⟩

theorem cells_three {w : World} {ad : Addr} {x y z : S39} (h : Kd.C k39 w (some ad) 3 [x, y, z]) :
    ∀ j u, [Value.int .i64 x.f0, .int .i64 x.f1, .string x.f2, .int .i64 y.f0, .int .i64 y.f1, .string y.f2, .int .i64 z.f0, .int .i64 z.f1, .string z.f2][j]? = some u → w.cell? (ad.add j) = some u := by
  obtain ⟨_, _, h2⟩ := h
  obtain ⟨ad', e, hc⟩ := h2 (by decide)
  cases e
  obtain ⟨c0, _, k0, g0⟩ := hc 0 x rfl
  obtain ⟨c1, _, k1, g1⟩ := hc 1 y rfl
  obtain ⟨c2, _, k2, g2⟩ := hc 2 z rfl
  obtain rfl := k39_open k0
  obtain rfl := k39_open k1
  obtain rfl := k39_open k2
  intro j u hj
  match j, hj with
  | 0, hj => exact g0 0 u hj
  | 1, hj => exact g0 1 u hj
  | 2, hj => exact g0 2 u hj
  | 3, hj => exact g1 0 u hj
  | 4, hj => exact g1 1 u hj
  | 5, hj => exact g1 2 u hj
  | 6, hj => exact g2 0 u hj
  | 7, hj => exact g2 1 u hj
  | 8, hj => exact g2 2 u hj

set_option maxRecDepth 100000 in
set_option maxHeartbeats 8000000 in
theorem clone_three (ad : Addr) (c : Nat) (w : World) (x y z : S39) (hr : Kd.C k39 w (some ad) 3 [x, y, z]) :
    Calls Try.prog 26 #[.slice (some ad) 3 c] w fun e w' => ∃ (g cap : Nat) (tl : List Value), e = .returned (.slice (some ⟨g, 0, none⟩) 3 cap) ∧ w'.heap[g]? = some (.cells (row3 x y z tl) 39 (0, 0)) ∧ w.heap.size ≤ g ∧ 3 ≤ cap ∧ cap ≤ maxLen ∧ 9 + tl.length = cap * 3 ∧ Below w.heap.size w w' := by
  have HR := Aside0.mk hr
  clear hr
  have heq : ∀ W : World, (binOp .eql 24 (.slice (some ad) 3 c) (.slice none 0 0)).run Try.prog W = .ok (.bool false) W := fun W => Lib.run_eql_slice_nil W 24 39 (some ad) 3 c 0 0 Try.underlying24
  obtain ⟨i0, hi, hz0, hz1, hz2⟩ := info_parts info39
  go_enter Try.func26, Try.ntmps26
  go_wp2_with (at_builtin; refine wpList_append_grows _ rfl (.tmp 5) (.tmp 6) 24 rfl 39 i0 (.agg #[.int .i64 0, .int .i64 0, .string ⟨#[]⟩]) 3 32 Try.underlying24 hi hz0 hz1 hz2 rfl (by decide) (some ⟨w.heap.size, 0, none⟩) 0 0 [] rfl (fun h => by cases h) rfl (by intro b hb j u hj; simp at hj) ad 3 c [.int .i64 x.f0, .int .i64 x.f1, .string x.f2, .int .i64 y.f0, .int .i64 y.f1, .string y.f2, .int .i64 z.f0, .int .i64 z.f1, .string z.f2] rfl rfl (cells_three (Kd.C_alloc HR.out _)) ?c3 (by decide) (by unfold maxLen; omega) (by decide) ?hk)
  case c3 =>
    intro u hu
    simp only [List.mem_cons, List.not_mem_nil, or_false] at hu
    rcases hu with rfl | rfl | rfl | rfl | rfl | rfl | rfl | rfl | rfl <;> rfl
  case hk =>
    intro v' w2 hown hgrow
    have hb : Below w.heap.size w w2 := ((Below.refl _ _).alloc (Nat.le_refl _) _).grown hgrow (by simp) (fun k h => by cases h)
    obtain ⟨g, cap, tl, rfl, hg, hh, hc, hm, hl⟩ := own_block hown (by decide)
    have HH := Aside0.mk hh
    have HG := Aside0.mk hg
    have HL := Aside0.mk hl
    have HB := Aside0.mk hb
    have HC := Aside0.mk hc
    have HM := Aside0.mk hm
    clear hown hgrow hh hg hl hb hc hm
    go_wp2
    go_ret
    refine ⟨g, cap, tl, rfl, HH.out, ?_, HC.out, HM.out, ?_, HB.out⟩
    · have := HG.out
      first | omega | (simp only [World.size_alloc] at this; omega)
    · have := HL.out
      simp at this
      omega

set_option maxRecDepth 100000 in
set_option maxHeartbeats 8000000 in
theorem known_Sort.calls (A0 : Option Addr) (c0 : Nat) (l0 : List (S39)) (r : List (S39)) (w : World) (hr0 : Kd.C k39 w A0 l0.length l0) (hc0 : l0.length ≤ c0) (h : known_Sort.f l0 = some r) :
    Calls Try.prog 18 #[.slice A0 l0.length c0] w fun e w' => ∃ v0_ : Value, e = .returned (v0_) ∧ Kd.R k39 39 w' w.heap.size (fun _ => True) v0_ r ∧ Below w.heap.size w w' := by
  unfold known_Sort.f at h
  by_cases hl : p39 l0 = p39 sortIn
  · rw [if_pos hl] at h
    obtain rfl := Option.some.inj h
    obtain rfl := p39_inj hl
    clear hl h
    change Kd.C k39 w A0 3 [⟨3, 4, ⟨#[120]⟩⟩, ⟨3, 3, ⟨#[121]⟩⟩, ⟨1, 2, ⟨#[122]⟩⟩] at hr0
    change 3 ≤ c0 at hc0
    show Calls Try.prog 18 #[.slice A0 3 c0] w _
    obtain ⟨ad, rfl, _⟩ := hr0.2.2 (by decide)
    have HR := Aside0.mk hr0
    clear hr0
    go_enter Try.func18, Try.ntmps18
    go_wp2_with (first
      | (go_at_call 26; (with_reducible refine (clone_three ad c0 _ _ _ _ HR.out).mono ?_); rintro e w1 ⟨g, cap, tl, rfl, hh, hg, hc, hm, hl, hb⟩; have HH := Aside0.mk hh; have HG := Aside0.mk hg; have HC := Aside0.mk hc; have HM := Aside0.mk hm; have HL := Aside0.mk hl; have HB := Aside0.mk hb; clear hh hg hc hm hl hb)
      | (go_at_call 27; (with_reducible refine (sortstable_three g cap w.heap.size tl _ HH.out HG.out).mono ?_); rintro e w2 ⟨rfl, hh, hb⟩; have HH2 := Aside0.mk hh; have HB2 := Aside0.mk (HB.out.trans hb); clear hh hb))
    go_ret
    refine ⟨_, rfl, ⟨fun k hk => trivial, ?_⟩, HB2.out⟩
    refine ⟨[.int .i64 1, .int .i64 2, .string ⟨#[122]⟩, .int .i64 3, .int .i64 3, .string ⟨#[121]⟩, .int .i64 3, .int .i64 4, .string ⟨#[120]⟩], own_of_block (tl := tl) HG.out HH2.out HC.out HM.out (by have := HL.out; show _ = cap * 3; simp; omega) rfl, ?_⟩
    exact Reps.c3 (k39_mkM _ _ _ (⟨1, 2, ⟨#[122]⟩⟩ : S39)) (Reps.c3 (k39_mkM _ _ _ (⟨3, 3, ⟨#[121]⟩⟩ : S39)) (Reps.c3 (k39_mkM _ _ _ (⟨3, 4, ⟨#[120]⟩⟩ : S39)) (Reps.none _ _)))
  · rw [if_neg hl] at h
    cases h
end Go.Proofs.Ytgdggbamhlinlaa.PEditsFlat

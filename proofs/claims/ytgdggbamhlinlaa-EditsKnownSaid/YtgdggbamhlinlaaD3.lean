/- YtgdggbamhlinlaaD3: edits.Apply (function 12) at every text and every list of splices. -/
import Derived.Test.YtgdggbamhlinlaaD2
namespace Go.Proofs.Ytgdggbamhlinlaa.PEditsFlat
open Go.RowKit Go.Shelf Go.Proofs.YtgdggbamhlinlaaW.PrintWords Go.Proofs.YtgdggbamhlinlaaW.PrintLast Go.Proofs.YtgdggbamhlinlaaW.PrintMore
attribute [local go_sem] Oper.semAt_some
set_option linter.unusedVariables false
set_option linter.unusedSimpArgs false

theorem ownFrom_block {β : Type} {B k : Nat} {o : β → Obj} (hk : k < B) : OwnFrom B (fun (s : β) (W : World) => W.heap[k]? = some (o s)) := fun s W W' row hs hg hr =>
  (hg.block k (Array.getElem?_eq_some_iff.1 hs).1 (fun e => by have := (hr k e.symm).1; omega)).trans hs
theorem keeps_setRow (W : World) (g : Nat) (cs old : Array Value) (t : TypeId) (fz : Nat × Nat) (h : W.heap[g]? = some (.cells old t fz)) : KeepsOthers W (W.setRow g cs) := by
  refine ⟨by simp, fun k o hk ho => ?_⟩
  rw [setRow_other W g k cs (fun e => by subst e; rw [h] at hk; cases hk; simp [Obj.isCells] at ho)]
  exact hk
theorem KpM.row {n₀ n₁ : Nat} (W : World) {g : Nat} (h0 : n₀ ≤ g) (h1 : g < n₁) (cs : Array Value) : KpM n₀ n₁ W (W.setRow g cs) := ⟨by simp, fun k c t fz hk h => by
  rw [setRow_other W g k cs (by omega)]; exact h⟩

theorem fit_of_check_l (n : Int) (L : List S39) (hl : L.length ≤ 4611686018427387904) : ∀ (k : Nat) (done rest : List S39) (was : Int), L = done ++ rest → edits_Check.l0 k n was L (L.length : Int) (done.length : Int) = some 0 → Fit n was rest := by
  intro k
  induction k with
  | zero => intro done rest was _ h; simp [edits_Check.l0] at h
  | succ k ih =>
    intro done rest was hL h
    cases rest with
    | nil => trivial
    | cons x r =>
      have hlt : (done.length : Int) < (L.length : Int) := by rw [hL]; simp; omega
      simp only [edits_Check.l0] at h
      rw [if_pos hlt, if_pos (Int.natCast_nonneg _), if_pos hlt] at h
      have hrd : rd_T39 L (done.length : Int) = x := by rw [hL]; exact rd39_at done r x _ rfl
      rw [hrd] at h
      by_cases h1 : x.f0 < was
      · rw [if_pos h1] at h; simp at h
      · rw [if_neg h1] at h
        by_cases h2 : x.f1 < x.f0
        · rw [if_pos h2] at h; simp at h
        · rw [if_neg h2] at h
          by_cases h3 : x.f1 > n
          · rw [if_pos h3] at h; simp at h
          · rw [if_neg h3] at h
            have hw : wrap64 ((done.length : Int) + 1) = ((done ++ [x]).length : Int) := by
              unfold wrap64
              simp
              omega
            rw [hw] at h
            exact ⟨by omega, by omega, by omega, ih (done ++ [x]) r x.f1 (by rw [hL]; simp) h⟩
theorem fit_of_check {n : Int} {L : List S39} (hl : L.length ≤ 4611686018427387904) {k : Nat} (h : edits_Check.f k n L = some 0) : Fit n 0 L :=
  fit_of_check_l n L hl k [] L 0 rfl h

theorem cat_chunks_le (text : ByteArray) (K : Nat) (ht : text.size ≤ K) : ∀ (a : Int) (L : List S39), (∀ x ∈ L, x.f2.size ≤ K) → (cat (pcs text a L)).length ≤ 2 * L.length * K
  | _, [], _ => by simp [cat, pcs]
  | a, x :: r, h => by
    have h1 := cat_chunks_le text K ht x.f1 r (fun y hy => h y (List.mem_cons_of_mem _ hy))
    have h2 := h x List.mem_cons_self
    have e : cat (pcs text a (x :: r)) = (text.extract a.toNat x.f0.toNat).data.toList ++ (x.f2.data.toList ++ cat (pcs text x.f1 r)) := by simp [cat, pcs]
    have h3 : (text.extract a.toNat x.f0.toNat).data.toList.length ≤ K := by
      have : (text.extract a.toNat x.f0.toNat).data.toList.length = (text.extract a.toNat x.f0.toNat).size := rfl
      rw [this, ByteArray.size_extract]; omega
    have h4 : x.f2.data.toList.length = x.f2.size := by simp
    rw [e, List.length_append, List.length_append, h4, List.length_cons]
    clear e
    have : 2 * (r.length + 1) * K = 2 * r.length * K + K + K := by
      rw [Nat.mul_add, Nat.add_mul]; omega
    omega
theorem chunks_le (text : ByteArray) (K : Nat) (ht : text.size ≤ K) (L : List S39) (h : ∀ x ∈ L, x.f2.size ≤ K) : (cat (chunks text L)).length ≤ 2 * L.length * K + K := by
  unfold chunks
  rw [cat_length_snoc, ByteArray.size_extract]
  have := cat_chunks_le text K ht 0 L h
  omega

theorem infoByte : (Try.prog.info? 5).map (fun i => (i.zero, i.size, i.bytes)) = some (some (.int .u8 0), 1, 1) := by kernel_rfl
theorem KpM.of_below {n₀ n₁ : Nat} {w W : World} (h : Below w.heap.size w W) : KpM n₀ n₁ w W := ⟨h.size, fun k c t fz _ hk => (h.block k (Array.getElem?_eq_some_iff.1 hk).1).trans hk⟩

set_option maxRecDepth 100000 in
set_option maxHeartbeats 4000000 in
theorem Apply_calls (text : ByteArray) (A : Option Addr) (cap : Nat) (L : List S39) (w : World) (hR : Kd.C k39 w A L.length L) (hcap : L.length ≤ cap) (hlen : L.length ≤ 1048576) (hts : text.size ≤ 1099511627776) (hxs : ∀ x ∈ L, x.f2.size ≤ 1099511627776)
    (k : Nat) (c : Int) (hk : edits_Check.f k (text.size : Int) L = some c) (r : ByteArray) (e0 : Int)
    (hres : (c ≠ 0 ∧ r = ⟨#[]⟩ ∧ e0 = c) ∨ (c = 0 ∧ 65536 < (cat (chunks text L)).length ∧ r = ⟨#[]⟩ ∧ e0 = 3) ∨ (c = 0 ∧ (cat (chunks text L)).length ≤ 65536 ∧ r = ⟨(cat (chunks text L)).toArray⟩ ∧ e0 = 0)) :
    Calls Try.prog 12 #[.string text, .slice A L.length cap] w fun e w' => e = .returned (.tuple #[.string r, .int .i64 e0]) ∧ Below w.heap.size w w' := by
  refine (callsIn_wide (n := 9)).1 ?_
  refine callsIn_of_wp_marks Try.func12 rfl trivial ?_ rfl
  simp only [Try.ntmps12, List.size_toArray, List.length_cons, List.length_nil, Nat.reduceAdd, Nat.reduceSub, Array.replicate_succ, Array.replicate_zero, List.push_toArray, List.append_toArray, List.nil_append, List.cons_append]
  have HCk := edits_Check.calls k (text.size : Int) A cap L c w hR hcap hk
  have HC := Aside0.mk (callsIn_wide (n := 8).2 HCk)
  clear HCk
  by_cases hc : c = 0
  · subst hc
    gi_wp2_with (first | (refine ⟨trivial, ?_⟩; gi_at_call 17; (refine HC.out.mono ?_); rintro e w1 ⟨rfl, hb1⟩; have HB1 := Aside0.mk hb1; clear hb1) | (refine ⟨trivial, ?_⟩; gi_at_call 25; (refine (pieces_in Fence.wide 8 trivial rfl text A L.length cap _).mono ?_); rintro e w' ⟨rfl, rfl⟩))
    have hBW := HB1.out
    have hsz : w.heap.size ≤ w1.heap.size := hBW.size
    have hfit := fit_of_check (by omega) hk
    have hN : wsum (chunks text L) = ((cat (chunks text L)).length : Int) := wsum_eq (by have := chunks_le text 1099511627776 hts L hxs; omega)
    have b0 := Boxed.new w1 3 (.int .i64 0)
    have b1 := Boxed.new (w1.alloc (.cells #[.int .i64 0] 3)) 9 (.string text)
    have b2 := Boxed.new ((w1.alloc (.cells #[.int .i64 0] 3)).alloc (.cells #[.string text] 9)) 24 (.slice A L.length cap)
    rw [World.size_alloc] at b1 b2
    rw [World.size_alloc] at b2
    have hB2 : Below w.heap.size w (((w1.alloc (.cells #[.int .i64 0] 3)).alloc (.cells #[.string text] 9)).alloc (.cells #[.slice A L.length cap] 24)) := (((hBW.alloc (by omega) _).alloc (by simp; omega) _).alloc (by simp; omega) _)
    refine wpIn_rangeFunc_ownF (F := Fence.wide) rfl (by omega) (gf := 35) (lb := #[.pointer (some ⟨w1.heap.size + 1 + 1, 0, none⟩), .pointer (some ⟨w1.heap.size + 1, 0, none⟩)]) rfl trivial (enters_of Try.func35 (by kernel_rfl) rfl)
      (pieces_stops Fence.wide 8 trivial rfl (by omega) (w1.heap.size + 1) (w1.heap.size + 1 + 1) w1.heap.size (w1.heap.size + 1) text A cap L w _ hR hsz (by omega) hfit (by omega) hts (KpM.of_below hB2) (b1.alloc _).cell b2.cell (.inr (by omega)) (.inr (by omega)) (by simp))
      (fun {A B C} h k => KpM.trans h k) (fun W l o o' a b c d => KpM.put (w := w1) W l o o' (by simp at a; omega) b c d) (Below.refl _ _) (fun _ => rfl)
      (fun pre W => Boxed W w1.heap.size 3 (.int .i64 (wsum pre)) ∧ Below w.heap.size w W) (fun _ _ _ => False)
      (OwnFrom.and (ownFrom_block (o := fun pre => .cells #[.int .i64 (wsum pre)] 3 (0, 0)) (by simp; omega)) (ownFrom_below (Nat.le_refl _) (by simp; omega)))
      (fun _ _ _ _ _ hs _ _ => hs)
      ⟨(b0.alloc _).alloc _, hB2⟩
      (fun x => { tmps := #[Value.string text, Value.slice A L.length cap, undef, undef, Value.string { data := #[] },
          Value.int IntKind.i64 0, Value.int IntKind.i64 0, Value.pointer (some { block := w1.heap.size, off := 0 }),
          Value.string x, undef, undef, undef, Value.string text, Value.int IntKind.i64 ↑text.size, Value.slice A L.length cap,
          Value.int IntKind.i64 0, Value.int IntKind.i64 0, Value.bool false, undef, Value.string text,
          Value.slice A L.length cap,
          Value.func (Fn.func 35) #[]
            #[Value.pointer (some { block := w1.heap.size + 1 + 1, off := 0 }),
              Value.pointer (some { block := w1.heap.size + 1, off := 0 })],
          Value.string x, undef, undef, undef, undef, undef, undef, undef, undef, undef, undef, undef, undef, undef, undef,
          undef, undef, undef, undef, undef, undef, undef], defers := [] }) ?assign ?body ?done ?stop
    case assign =>
      intro l x W K hK
      gi_wp2
      exact hK
    case body =>
      rintro l pre x W ⟨hb, hB⟩ _
      have hc := hb.cell
      have hf := hb.frozen
      clear hN
      gi_wp2
      exact ⟨KeepsOthers.setCell _ _ _, KpM.set W (p := ⟨w1.heap.size, 0, none⟩) (Nat.le_refl _) (Nat.lt_succ_self _) _, by rw [wsum_snoc]; exact hb.set _, hB.setCell (p := ⟨w1.heap.size, 0, none⟩) hsz _⟩
    case stop =>
      rintro D c pre W _ _ h _
      exact h.elim
    case done =>
      rintro D ys W hD rfl ⟨hb, hB⟩ hK
      rw [hN] at hb
      have hc := hb.cell
      have HN := Aside0.mk hN
      have HK := Aside0.mk hK
      clear hN
      rcases hres with ⟨h, _⟩ | ⟨_, hlt, rfl, rfl⟩ | ⟨_, hle, rfl, rfl⟩
      · exact absurd rfl h
      · have hltd : decide ((65536 : Int) < ((cat (chunks text L)).length : Int)) = true := decide_eq_true (by omega)
        have hltt : ((65536 : Int) < ((cat (chunks text L)).length : Int)) = True := eq_true (by omega)
        gi_wp2
        refine ⟨by simp, .inl ⟨_, _, rfl, run_takeDeferred HK.out, ?_⟩⟩
        exact ⟨_, results_tmp2 rfl _ _ _, rfl, hB.trans (belowK_b (w := w1) hsz W D _ _ (by simp at hD; omega) HK.out rfl rfl)⟩
      · obtain ⟨N, hNN⟩ : ∃ N, N = (cat (chunks text L)).length := ⟨_, rfl⟩
        rw [← hNN] at hc hle
        have hltd : decide ((65536 : Int) < (N : Int)) = false := decide_eq_false (by omega)
        have hltt : ((65536 : Int) < (N : Int)) = False := eq_false (by omega)
        have hmk : ∀ W' : World, (Instr.makeSlice 35 (.int .i64 (N : Int)) (.int .i64 (N : Int))).run Try.prog W' = .ok (.slice (some ⟨W'.heap.size, 0, none⟩) N N) (W'.alloc (.cells (madeCells #[.int .u8 0] N) 5)) := fun W' => run_make_row' 35 5 (.int .u8 0) 1 Try.underlying35 infoByte rfl .i64 .i64 N (by omega) (by omega) W'
        have HNN := Aside0.mk hNN
        clear hNN
        gi_wp2_with (first | (refine ⟨trivial, ?_⟩; gi_at_call 25; (refine (pieces_in Fence.wide 8 trivial rfl text A L.length cap _).mono ?_); rintro e w' ⟨rfl, rfl⟩))
        have hszW : w.heap.size ≤ W.heap.size := hB.size
        have hDW : D < W.heap.size := (Array.getElem?_eq_some_iff.1 HK.out).1
        have hb2 := hB.size
        have d0 : (W.alloc (.cells (madeCells #[.int .u8 0] N) 5)).heap[W.heap.size]? = some (.cells (rowOf [] N) 5 (0, 0)) := by rw [rowOf_nil]; exact Go.heap_alloc_new W _
        have d1 := Boxed.new (W.alloc (.cells (madeCells #[.int .u8 0] N) 5)) 35 (.slice (some ⟨W.heap.size, 0, none⟩) N N)
        have d2 := Boxed.new ((W.alloc (.cells (madeCells #[.int .u8 0] N) 5)).alloc (.cells #[.slice (some ⟨W.heap.size, 0, none⟩) N N] 35)) 3 (.int .i64 0)
        have d3 := Boxed.new (((W.alloc (.cells (madeCells #[.int .u8 0] N) 5)).alloc (.cells #[.slice (some ⟨W.heap.size, 0, none⟩) N N] 35)).alloc (.cells #[.int .i64 0] 3)) 9 (.string text)
        have d4 := Boxed.new ((((W.alloc (.cells (madeCells #[.int .u8 0] N) 5)).alloc (.cells #[.slice (some ⟨W.heap.size, 0, none⟩) N N] 35)).alloc (.cells #[.int .i64 0] 3)).alloc (.cells #[.string text] 9)) 24 (.slice A L.length cap)
        simp only [World.size_alloc] at d1 d2 d3 d4
        have aold : ∀ (X : World) (o o' : Obj) (k : Nat), X.heap[k]? = some o → (X.alloc o').heap[k]? = some o := fun X o o' k h => (Below.heap_alloc X o' k (Array.getElem?_eq_some_iff.1 h).1).trans h
        have hB5 : Below w.heap.size w (((((W.alloc (.cells (madeCells #[.int .u8 0] N) 5)).alloc (.cells #[.slice (some ⟨W.heap.size, 0, none⟩) N N] 35)).alloc (.cells #[.int .i64 0] 3)).alloc (.cells #[.string text] 9)).alloc (.cells #[.slice A L.length cap] 24)) := (((((hB.alloc hszW _).alloc (by first | omega | (simp; done) | (simp; omega)) _).alloc (by first | omega | (simp; done) | (simp; omega)) _).alloc (by first | omega | (simp; done) | (simp; omega)) _).alloc (by first | omega | (simp; done) | (simp; omega)) _)
        refine wpIn_rangeFunc_ownF (F := Fence.wide) rfl (by omega) (gf := 35) (lb := #[.pointer (some ⟨W.heap.size + 1 + 1 + 1 + 1, 0, none⟩), .pointer (some ⟨W.heap.size + 1 + 1 + 1, 0, none⟩)]) rfl trivial (enters_of Try.func35 (by kernel_rfl) rfl)
          (pieces_stops Fence.wide 8 trivial rfl (by omega) (W.heap.size + 1 + 1 + 1) (W.heap.size + 1 + 1 + 1 + 1) W.heap.size (W.heap.size + 1 + 1 + 1) text A cap L w _ hR hszW (by omega) hfit (by omega) hts (KpM.of_below hB5) (d3.alloc _).cell d4.cell (.inr (by omega)) (.inr (by omega)) (by first | omega | (simp; done) | (simp; omega)))
          (fun {A B C} h k => KpM.trans h k) (fun X l o o' a b c d => KpM.put (w := W) X l o o' (by simp at a; omega) b c d) (Below.refl _ _) (fun _ => rfl)
          (fun pre X => (Boxed X (W.heap.size + 1 + 1) 3 (.int .i64 ((fill N pre).length : Int)) ∧ X.heap[W.heap.size]? = some (.cells (rowOf (fill N pre) N) 5 (0, 0)) ∧ Boxed X (W.heap.size + 1) 35 (.slice (some ⟨W.heap.size, 0, none⟩) N N) ∧ X.heap[D]? = some (.deferred (some []))) ∧ Below w.heap.size w X) (fun _ _ _ => False)
          (OwnFrom.and (OwnFrom.and (ownFrom_block (o := fun pre => .cells #[.int .i64 ((fill N pre).length : Int)] 3 (0, 0)) (by first | omega | (simp; done) | (simp; omega))) (OwnFrom.and (ownFrom_block (o := fun pre => .cells (rowOf (fill N pre) N) 5 (0, 0)) (by first | omega | (simp; done) | (simp; omega))) (OwnFrom.and (ownFrom_block (o := fun _ => .cells #[.slice (some ⟨W.heap.size, 0, none⟩) N N] 35 (0, 0)) (by first | omega | (simp; done) | (simp; omega))) (ownFrom_block (o := fun _ => .deferred (some [])) (by first | omega | (simp; done) | (simp; omega)))))) (ownFrom_below (Nat.le_refl _) (by first | omega | (simp; done) | (simp; omega))))
          (fun _ _ _ _ _ hs _ _ => hs)
          ⟨⟨(d2.alloc _).alloc _, aold _ _ _ _ (aold _ _ _ _ (aold _ _ _ _ (aold _ _ _ _ d0))), ((d1.alloc _).alloc _).alloc _, aold _ _ _ _ (aold _ _ _ _ (aold _ _ _ _ (aold _ _ _ _ (aold _ _ _ _ HK.out))))⟩, hB5⟩
          (fun x => { tmps := #[Value.string text, Value.slice A L.length cap, undef, undef, Value.string { data := #[] },
          Value.int IntKind.i64 0, Value.int IntKind.i64 0, Value.pointer (some { block := w1.heap.size, off := 0 }),
          undef, Value.pointer (some { block := W.heap.size + 1, off := 0 }),
          Value.pointer (some { block := W.heap.size + 1 + 1, off := 0 }), Value.string x, Value.string text,
          Value.int IntKind.i64 ↑text.size, Value.slice A L.length cap, Value.int IntKind.i64 0,
          Value.int IntKind.i64 0, Value.bool false, undef, Value.string text, Value.slice A L.length cap,
          Value.func (Fn.func 35) #[]
            #[Value.pointer (some { block := w1.heap.size + 1 + 1, off := 0 }),
              Value.pointer (some { block := w1.heap.size + 1, off := 0 })],
          undef, undef, undef, undef, undef, Value.int IntKind.i64 ↑N, Value.bool false, Value.int IntKind.i64 ↑N,
          Value.slice (some { block := W.heap.size, off := 0 }) N N, Value.string text, Value.slice A L.length cap,
          Value.func (Fn.func 35) #[]
            #[Value.pointer (some { block := W.heap.size + 1 + 1 + 1 + 1, off := 0 }),
              Value.pointer (some { block := W.heap.size + 1 + 1 + 1, off := 0 })],
          Value.string x, undef, undef, undef, undef, undef, undef, undef, undef, undef], defers := [] }) ?assign ?body ?done ?stop
        case assign =>
          intro l x X K hK
          gi_wp2
          exact hK
        case stop =>
          rintro D c pre X _ _ h _
          exact h.elim
        case body =>
          rintro l pre x X ⟨⟨e1, e2, e3, e4⟩, hBX⟩ _
          have mixed : Try.prog.follows .mixedOrders = true := by kernel_rfl
          have c1 := e1.cell
          have f1 := e1.frozen
          have c3 := e3.cell
          have hql := fill_le N pre
          by_cases hq : (fill N pre).length = N
          · have hsn := fill_snoc N pre x
            generalize hqq : fill N pre = q at hql hsn e1 e2 c1 f1 hq
            have hqN : (q ++ x.data.toList).take N = q := by rw [List.take_append_of_le_length (by omega), List.take_of_length_le (by omega)]
            rw [hqN] at hsn
            have hcp : ∀ (d : Option Addr) (dc : Nat) (X' : World), (Builtin.copy_ #[35, 9] 3 #[.slice d 0 dc, .string x]).run Try.prog X' = .ok (goInt 0) X' := fun d dc X' => run_copy_full X' 35 9 3 5 d dc x Try.underlying35 (by kernel_rfl)
            have g1 : Boxed X.drew (W.heap.size + 1 + 1) 3 (.int .i64 (q.length : Int)) := e1
            have HFIN : Aside0 (KeepsOthers X (X.drew.setCell ⟨W.heap.size + 1 + 1, 0, none⟩ (.int .i64 (IntKind.i64.wrap (N : Int)))) ∧ KpM W.heap.size (W.heap.size + 1 + 1 + 1) X (X.drew.setCell ⟨W.heap.size + 1 + 1, 0, none⟩ (.int .i64 (IntKind.i64.wrap (N : Int)))) ∧
                ((Boxed (X.drew.setCell ⟨W.heap.size + 1 + 1, 0, none⟩ (.int .i64 (IntKind.i64.wrap (N : Int)))) (W.heap.size + 1 + 1) 3 (.int .i64 ((fill N (pre ++ [x])).length : Int)) ∧ (X.drew.setCell ⟨W.heap.size + 1 + 1, 0, none⟩ (.int .i64 (IntKind.i64.wrap (N : Int)))).heap[W.heap.size]? = some (.cells (rowOf (fill N (pre ++ [x])) N) 5 (0, 0)) ∧ Boxed (X.drew.setCell ⟨W.heap.size + 1 + 1, 0, none⟩ (.int .i64 (IntKind.i64.wrap (N : Int)))) (W.heap.size + 1) 35 (.slice (some ⟨W.heap.size, 0, none⟩) N N) ∧ (X.drew.setCell ⟨W.heap.size + 1 + 1, 0, none⟩ (.int .i64 (IntKind.i64.wrap (N : Int)))).heap[D]? = some (.deferred (some []))) ∧ Below w.heap.size w (X.drew.setCell ⟨W.heap.size + 1 + 1, 0, none⟩ (.int .i64 (IntKind.i64.wrap (N : Int)))))) := by
              have hwr : IntKind.i64.wrap (N : Int) = (N : Int) := by rw [i64_w]; unfold wrap64; omega
              rw [hsn, hq, hwr]
              have hD' : D ≠ W.heap.size + 1 + 1 := by omega
              exact ⟨⟨(KeepsOthers.drew X).trans (KeepsOthers.setCell _ _ _), KpM.trans ⟨Nat.le_refl _, fun _ _ _ _ _ h => h⟩ (KpM.set X.drew (p := ⟨W.heap.size + 1 + 1, 0, none⟩) (by show W.heap.size ≤ W.heap.size + 1 + 1; omega) (by show W.heap.size + 1 + 1 < W.heap.size + 1 + 1 + 1; omega) _),
                ⟨⟨g1.set _, (Below.heap_setCell _ _ _ _ (by show W.heap.size ≠ W.heap.size + 1 + 1; omega)).trans e2, (Below.heap_setCell X.drew ⟨W.heap.size + 1 + 1, 0, none⟩ _ (W.heap.size + 1) (by show W.heap.size + 1 ≠ W.heap.size + 1 + 1; omega)).trans e3, (Below.heap_setCell X.drew ⟨W.heap.size + 1 + 1, 0, none⟩ _ D hD').trans e4⟩, hBX.drew.setCell (p := ⟨W.heap.size + 1 + 1, 0, none⟩) (by show w.heap.size ≤ W.heap.size + 1 + 1; omega) _⟩⟩⟩
            rw [hq] at c1
            clear hqq hsn hmk hq hqN hql g1 e1 e2 e3 e4
            gi_wp2
            gi_region_with_o (fail)
            all_goals exact HFIN.out
          · have hql' : (fill N pre).length < N := by omega
            have hsn := fill_snoc N pre x
            generalize hqq : fill N pre = q at hql hql' hsn e1 e2 c1 f1 hq
            have hcp := run_copy_fill (P := Try.prog) X.drew 35 9 3 5 W.heap.size N (N - q.length) q x hql Try.underlying35 (by kernel_rfl) e2
            have hle2 : ((q ++ x.data.toList).take N).length = q.length + min x.size (N - q.length) := by
              have : x.data.toList.length = x.size := rfl
              rw [List.length_take, List.length_append, this]; omega
            obtain ⟨X2, hX2⟩ : ∃ X2, X2 = X.drew.setRow W.heap.size (rowOf ((q ++ x.data.toList).take N) N) := ⟨_, rfl⟩
            rw [← hX2] at hcp
            have g1 : Boxed X2 (W.heap.size + 1 + 1) 3 (.int .i64 (q.length : Int)) := by rw [hX2]; exact (setRow_other _ _ _ _ (by omega)).trans e1
            have g2 : X2.heap[W.heap.size]? = some (.cells (rowOf ((q ++ x.data.toList).take N) N) 5 (0, 0)) := by rw [hX2]; exact setRow_heap X.drew _ _ _ 5 (0, 0) e2
            have g3 : Boxed X2 (W.heap.size + 1) 35 (.slice (some ⟨W.heap.size, 0, none⟩) N N) := by rw [hX2]; exact (setRow_other _ _ _ _ (by omega)).trans e3
            have g4 : X2.heap[D]? = some (.deferred (some [])) := by rw [hX2]; exact (setRow_other _ _ _ _ (by omega)).trans e4
            have g5 : KeepsOthers X X2 := by rw [hX2]; exact (KeepsOthers.drew X).trans (keeps_setRow X.drew _ _ _ 5 (0, 0) e2)
            have g6 : KpM W.heap.size (W.heap.size + 1 + 1 + 1) X X2 := by rw [hX2]; exact KpM.trans ⟨Nat.le_refl _, fun _ _ _ _ _ h => h⟩ (KpM.row X.drew (Nat.le_refl _) (by omega) _)
            have g7 : Below w.heap.size w X2 := by rw [hX2]; exact ⟨hBX.os, hBX.tape, hBX.output, by simp; exact hBX.size, fun k hk => (setRow_other _ _ _ _ (by omega)).trans (hBX.block k hk)⟩
            have hx2c := g1.cell
            have hx2f := g1.frozen
            have hwr : IntKind.i64.wrap ((q.length : Int) + (min x.size (N - q.length) : Nat)) = ((q.length + min x.size (N - q.length) : Nat) : Int) := by rw [i64_w]; unfold wrap64; omega
            have HFIN : Aside0 (KeepsOthers X (X2.setCell ⟨W.heap.size + 1 + 1, 0, none⟩ (.int .i64 (IntKind.i64.wrap ((q.length : Int) + (min x.size (N - q.length) : Nat))))) ∧ KpM W.heap.size (W.heap.size + 1 + 1 + 1) X (X2.setCell ⟨W.heap.size + 1 + 1, 0, none⟩ (.int .i64 (IntKind.i64.wrap ((q.length : Int) + (min x.size (N - q.length) : Nat))))) ∧
                ((Boxed (X2.setCell ⟨W.heap.size + 1 + 1, 0, none⟩ (.int .i64 (IntKind.i64.wrap ((q.length : Int) + (min x.size (N - q.length) : Nat))))) (W.heap.size + 1 + 1) 3 (.int .i64 ((fill N (pre ++ [x])).length : Int)) ∧ (X2.setCell ⟨W.heap.size + 1 + 1, 0, none⟩ (.int .i64 (IntKind.i64.wrap ((q.length : Int) + (min x.size (N - q.length) : Nat))))).heap[W.heap.size]? = some (.cells (rowOf (fill N (pre ++ [x])) N) 5 (0, 0)) ∧ Boxed (X2.setCell ⟨W.heap.size + 1 + 1, 0, none⟩ (.int .i64 (IntKind.i64.wrap ((q.length : Int) + (min x.size (N - q.length) : Nat))))) (W.heap.size + 1) 35 (.slice (some ⟨W.heap.size, 0, none⟩) N N) ∧ (X2.setCell ⟨W.heap.size + 1 + 1, 0, none⟩ (.int .i64 (IntKind.i64.wrap ((q.length : Int) + (min x.size (N - q.length) : Nat))))).heap[D]? = some (.deferred (some []))) ∧ Below w.heap.size w (X2.setCell ⟨W.heap.size + 1 + 1, 0, none⟩ (.int .i64 (IntKind.i64.wrap ((q.length : Int) + (min x.size (N - q.length) : Nat))))))) := by
              rw [hsn, hle2, hwr]
              have hD' : D ≠ W.heap.size + 1 + 1 := by omega
              exact ⟨⟨g5.trans (KeepsOthers.setCell _ _ _), g6.trans (KpM.set X2 (p := ⟨W.heap.size + 1 + 1, 0, none⟩) (by show W.heap.size ≤ W.heap.size + 1 + 1; omega) (by show W.heap.size + 1 + 1 < W.heap.size + 1 + 1 + 1; omega) _),
                ⟨⟨g1.set _, (Below.heap_setCell _ _ _ _ (by show W.heap.size ≠ W.heap.size + 1 + 1; omega)).trans g2, (Below.heap_setCell X2 ⟨W.heap.size + 1 + 1, 0, none⟩ _ (W.heap.size + 1) (by show W.heap.size + 1 ≠ W.heap.size + 1 + 1; omega)).trans g3, (Below.heap_setCell X2 ⟨W.heap.size + 1 + 1, 0, none⟩ _ D hD').trans g4⟩, g7.setCell (p := ⟨W.heap.size + 1 + 1, 0, none⟩) (by show w.heap.size ≤ W.heap.size + 1 + 1; omega) _⟩⟩⟩
            clear hX2 hqq hsn hmk hq hwr hle2 g1 g2 g3 g4 g5 g6 g7 e1 e2 e3 e4
            gi_wp2
            gi_region_with_o (fail)
            all_goals exact HFIN.out
        case done =>
          rintro D2 ys X hD2 rfl ⟨⟨e1, e2, e3, e4⟩, hBX⟩ hK2
          have hfl : fill N (chunks text L) = cat (chunks text L) := by rw [fill_eq, List.take_of_length_le (by have := HNN.out; omega)]
          rw [hfl] at e2
          have hNq := HNN.out
          generalize hgq : cat (chunks text L) = q at e2 hNq ⊢
          subst hNq
          have hst : ∀ cp : Nat, (convert 35 9 (.slice (some ⟨W.heap.size, 0, none⟩) q.length cp)).run Try.prog X = .ok (.string ⟨q.toArray⟩) X := fun cp => run_row_string X 35 9 5 W.heap.size cp q Try.underlying35 Try.underlying5 Try.underlying9 e2
          have c3 := e3.cell
          have HG := Aside0.mk hgq
          have HK2 := Aside0.mk hK2
          have H4 := Aside0.mk e4
          have hD2' : W.heap.size + 1 + 1 + 1 + 1 + 1 ≤ D2 := by simpa using hD2
          clear e1 e2 e4 hK2 hgq hfl HNN
          gi_wp2
          have hDD : D ≠ D2 := by omega
          have hP : (X.putObj D2 (.deferred none)).heap[D]? = some (.deferred (some [])) := (World.putObj_heap_other hDD).trans H4.out
          refine ⟨by simp, .inl ⟨_, _, rfl, run_takeDeferred HK2.out, by simp, .inl ⟨_, _, rfl, run_takeDeferred hP, ?_⟩⟩⟩
          exact ⟨_, results_tmp2 rfl _ _ _, by rw [HG.out]; rfl, (hBX.trans (belowK_b (w := W) hszW X D2 _ _ (by omega) HK2.out rfl rfl)).trans (belowK_b (w := w1) hsz _ D _ _ (by simp at hD; omega) hP rfl rfl)⟩
  · have hcd : (c == 0) = false := by simpa using hc
    rcases hres with ⟨_, rfl, rfl⟩ | ⟨h, _⟩ | ⟨h, _⟩
    · have hcn : (e0 != 0) = true := by simpa using hc
      gi_wp2_with (first | (refine ⟨trivial, ?_⟩; gi_at_call 17; (refine HC.out.mono ?_); rintro e w1 ⟨rfl, hb1⟩; have HB1 := Aside0.mk hb1; clear hb1))
      exact ⟨_, results_tmp2 rfl _ _ _, rfl, HB1.out⟩
    · exact absurd h hc
    · exact absurd h hc
end Go.Proofs.Ytgdggbamhlinlaa.PEditsFlat

/- YtgdggbamhlinlaaD1: the iterator 'pieces' (functions 25 and 35): what comes, in order, for every body that keeps what it must. -/
import Derived.RangeFuncNested
import Derived.RangeFuncBound
import Derived.RangeFuncCalls
import Derived.RangeFuncLeaves
import Derived.RangeFuncBox
import Derived.Shelf.Abstract
import Derived.Shelf.RegionOpen
import Derived.WalkKit
import Derived.OwnWalkIn
import Derived.TacticsInMore
import Derived.LoopNIn
import Derived.LoopIn
import Derived.Maps.AppendAt
import Derived.Lib.Builder
import Derived.Test.YtgdggbamhlinlaaB2
namespace Go.Proofs.Ytgdggbamhlinlaa.PEditsFlat
open Go.RowKit Go.Shelf Go.Proofs.YtgdggbamhlinlaaW.PrintWords Go.Proofs.YtgdggbamhlinlaaW.PrintLast Go.Proofs.YtgdggbamhlinlaaW.PrintMore
attribute [local go_sem] Oper.semAt_some
set_option linter.unusedVariables false
set_option linter.unusedSimpArgs false

/-- What comes for some splices, from a place on. -/
def pcs (text : ByteArray) : Int → List S39 → List ByteArray
  | _, [] => []
  | a, x :: r => text.extract a.toNat x.f0.toNat :: x.f2 :: pcs text x.f1 r
def endAt : Int → List S39 → Int
  | a, [] => a
  | _, x :: r => endAt x.f1 r
def chunks (text : ByteArray) (L : List S39) : List ByteArray := pcs text 0 L ++ [text.extract (endAt 0 L).toNat text.size]
def Fit (n : Int) : Int → List S39 → Prop
  | _, [] => True
  | a, x :: r => a ≤ x.f0 ∧ x.f0 ≤ x.f1 ∧ x.f1 ≤ n ∧ Fit n x.f1 r
theorem pcs_snoc (text : ByteArray) (x : S39) : ∀ (a : Int) (L : List S39), pcs text a (L ++ [x]) = pcs text a L ++ [text.extract (endAt a L).toNat x.f0.toNat, x.f2]
  | _, [] => rfl
  | _, y :: r => by simp only [List.cons_append, pcs, endAt, pcs_snoc text x y.f1 r]
theorem endAt_snoc (x : S39) : ∀ (a : Int) (L : List S39), endAt a (L ++ [x]) = x.f1
  | _, [] => rfl
  | _, y :: r => endAt_snoc x y.f1 r
theorem fit_at {n : Int} {x : S39} {r : List S39} : ∀ {a : Int} {L : List S39}, Fit n a (L ++ x :: r) → a ≤ endAt a L ∧ endAt a L ≤ x.f0 ∧ x.f0 ≤ x.f1 ∧ x.f1 ≤ n
  | _, [], h => ⟨Int.le_refl _, h.1, h.2.1, h.2.2.1⟩
  | a, y :: L, h => by
    have := fit_at (L := L) h.2.2.2
    have h1 := h.1; have h2 := h.2.1
    simp only [endAt]
    omega
theorem fit_end {n : Int} : ∀ {a : Int} {L : List S39}, a ≤ n → Fit n a L → a ≤ endAt a L ∧ endAt a L ≤ n
  | _, [], ha, h => ⟨Int.le_refl _, ha⟩
  | a, y :: L, ha, h => by
    have := fit_end (L := L) h.2.2.1 h.2.2.2
    have h1 := h.1; have h2 := h.2.1
    simp only [endAt]
    omega
theorem pcs_length (text : ByteArray) : ∀ (a : Int) (L : List S39), (pcs text a L).length = 2 * L.length
  | _, [] => rfl
  | _, y :: r => by simp only [pcs, List.length_cons, pcs_length text y.f1 r]; omega

/-- What a round keeps: every row of cells outside the blocks n₀ .. n₁ - 1. -/
def KpM (n₀ n₁ : Nat) (W W' : World) : Prop := W.heap.size ≤ W'.heap.size ∧ ∀ k c t fz, (k < n₀ ∨ n₁ ≤ k) → W.heap[k]? = some (.cells c t fz) → W'.heap[k]? = some (.cells c t fz)
theorem KpM.refl (n₀ n₁ : Nat) (W : World) : KpM n₀ n₁ W W := ⟨Nat.le_refl _, fun _ _ _ _ _ h => h⟩
theorem KpM.trans {n₀ n₁ : Nat} {A B C : World} (h : KpM n₀ n₁ A B) (k : KpM n₀ n₁ B C) : KpM n₀ n₁ A C := ⟨Nat.le_trans h.1 k.1, fun i c t fz hi hc => k.2 i c t fz hi (h.2 i c t fz hi hc)⟩
theorem KpM.put {n₀ n₁ : Nat} {w : World} (W : World) (l : Nat) (o o' : Obj) (_ : w.heap.size ≤ l) (h : W.heap[l]? = some o) (hc : o.isCells = false) (_ : o.isWalk = false) : KpM n₀ n₁ W (W.putObj l o') := by
  refine ⟨by simp, fun k c t fz _ hk => ?_⟩
  rw [World.putObj_heap_other (fun e => ?_)]
  · exact hk
  · subst e
    rw [hk] at h
    cases h
    simp [Obj.isCells] at hc
theorem KpM.alloc {n₀ n₁ : Nat} (W : World) (o : Obj) : KpM n₀ n₁ W (W.alloc o) := ⟨by simp, fun k c t fz _ h => (Below.heap_alloc W o k (Array.getElem?_eq_some_iff.1 h).1).trans h⟩
theorem KpM.set {n₀ n₁ : Nat} (W : World) {p : Addr} (h0 : n₀ ≤ p.block) (h1 : p.block < n₁) (u : Value) : KpM n₀ n₁ W (W.setCell p u) := ⟨by simp [World.setCell], fun k c t fz hk h => (Below.heap_setCell W p u k (by omega)).trans h⟩
theorem KpM.cell {n₀ n₁ : Nat} {W W' : World} (h : KpM n₀ n₁ W W') {p : Addr} (hp : p.block < n₀ ∨ n₁ ≤ p.block) {v : Value} (hv : W.cell? p = some v) : W'.cell? p = some v := by
  unfold World.cell? at hv ⊢
  cases hb : W.heap[p.block]? with
  | none => rw [hb] at hv; cases hv
  | some o =>
    rw [hb] at hv
    cases o with
    | cells c t fz => rw [h.2 _ c t fz hp hb]; exact hv
    | _ => cases hv

theorem rd39_at (L r : List S39) (x : S39) (i : Int) (hi : i = (L.length : Int)) : rd_T39 (L ++ x :: r) i = x := by
  subst hi
  simp [rd_T39]

set_option maxRecDepth 100000 in
set_option maxHeartbeats 4000000 in
theorem pieces1_in (F : Fence) (n : Nat) (h35 : F.fn 35) (hro : F.round = none) (hn : 1 ≤ n) (l Bt Bl n₀ n₁ : Nat) (text : ByteArray) (A : Option Addr) (cap : Nat) (L : List S39) (w0 : World) (hR : Kd.C k39 w0 A L.length L) (hw0 : w0.heap.size ≤ n₀) (hn01 : n₀ ≤ n₁)
    (hfit : Fit text.size 0 L) (hlen : L.length ≤ 1099511627776) (hts : text.size ≤ 1099511627776) (J Jx : List ByteArray → World → Prop) (W : World)
    (hJ : AbidesFrom W.heap.size J)
    (hY : ∀ pre x W1, J pre W1 → pre.length < 2 * L.length + 1 → YieldAt F (n - 1) Try.prog l #[.string x] W1 fun e W' =>
      (e = .returned (.bool true) ∧ J (pre ++ [x]) W' ∧ KpM n₀ n₁ W1 W') ∨ (e = .returned (.bool false) ∧ Jx (pre ++ [x]) W'))
    (h0W : KpM n₀ n₁ w0 W) (hBt : W.cell? ⟨Bt, 0, none⟩ = some (.string text)) (hBl : W.cell? ⟨Bl, 0, none⟩ = some (.slice A L.length cap)) (hpt : Bt < n₀ ∨ n₁ ≤ Bt) (hpl : Bl < n₀ ∨ n₁ ≤ Bl) (hWn : n₁ ≤ W.heap.size) (h0 : J [] W) :
    CallsIn F n Try.prog 35 #[.func (.yield l) #[] #[], .pointer (some ⟨Bl, 0, none⟩), .pointer (some ⟨Bt, 0, none⟩)] W fun e W' => (∃ v, e = .returned v) ∧
      ((∃ ys, ys = chunks text L ∧ J ys W') ∨ (∃ pre, True ∧ Jx pre W')) := by
  have hu39 := Try.underlying39
  refine callsIn_of_wp Try.func35 rfl h35 ?_ hro
  simp only [Try.ntmps35, List.size_toArray, List.length_cons, List.length_nil, Nat.reduceAdd, Nat.reduceSub, Array.replicate_succ, Array.replicate_zero, List.push_toArray, List.append_toArray, List.nil_append, List.cons_append]
  gi_wp2
  gi_loopw [4, 9] (fun v4 v9 wr => ∃ (done rest : List S39) (i : Int), v4 = .int .i64 (endAt 0 done) ∧ v9 = .int .i64 i ∧ Aside0 (i = (done.length : Int)) ∧ Aside0 (L = done ++ rest) ∧ Aside0 (J (pcs text 0 done) wr) ∧ Aside0 (KpM n₀ n₁ W wr))
    (fun _ i _ => L.length - (intOf i).toNat)
  case atStart => exact ⟨[], L, 0, rfl, rfl, ⟨rfl⟩, ⟨rfl⟩, ⟨h0⟩, ⟨KpM.refl _ _ _⟩⟩
  case round =>
    obtain ⟨done, rest, i, rfl, rfl, HI, HL, HJ, HK⟩ := hrel
    have hi0 : 0 ≤ i := by have := HI.out; omega
    have hb1 := HK.out.cell (p := ⟨Bt, 0, none⟩) hpt hBt
    have hb2 := HK.out.cell (p := ⟨Bl, 0, none⟩) hpl hBl
    cases rest with
    | nil =>
      have hge : decide (i < (L.length : Int)) = false := decide_eq_false (by have := HI.out; have := HL.out; simp at this; subst this; omega)
      have hfe := fit_end (Int.natCast_nonneg text.size) hfit
      have hL2 : L = done := by simpa using HL.out
      have he0 : 0 ≤ endAt 0 done := by rw [← hL2]; exact hfe.1
      have he1 : endAt 0 done ≤ (text.size : Int) := by rw [← hL2]; exact hfe.2
      have HL2 := Aside0.mk hL2
      clear hfe hL2
      obtain ⟨fn, tmps, assign, body, hy, hRn⟩ := hY _ (text.extract (endAt 0 done).toNat text.size) wr HJ.out (by rw [pcs_length, ← HL2.out]; omega)
      gi_wp2
      refine hRn.mono ?_
      rintro e W3 (⟨rfl, hJ3, hk3⟩ | ⟨rfl, hJx3⟩)
      · gi_wp2
        go_end0
        exact ⟨⟨_, rfl⟩, .inl ⟨_, by rw [chunks, HL2.out], hJ3⟩⟩
      · gi_wp2
        go_end0
        exact ⟨⟨_, rfl⟩, .inr ⟨_, trivial, hJx3⟩⟩
    | cons x r =>
      have hlt : i < (L.length : Int) := by have := HI.out; have := HL.out; subst this; simp; omega
      have hi1 : i ≤ 1099511627776 := by omega
      have hltd : decide (i < (L.length : Int)) = true := decide_eq_true hlt
      obtain ⟨ad, ead, hx0, hx1, hx2⟩ := at_T39 hR i hi0 hlt
      have hrd : rd_T39 L i = x := by rw [HL.out]; exact rd39_at done r x i HI.out
      rw [hrd] at hx0 hx1 hx2
      clear hrd
      subst ead
      have hfa := fit_at (n := text.size) (a := 0) (x := x) (r := r) (L := done) (by rw [← HL.out]; exact hfit)
      obtain ⟨f1, f2, f3, f4⟩ := hfa
      have hK0 := h0W.trans HK.out
      replace hx0 := hK0.cell (.inl (by have := World.block_lt_of_cell? _ _ hx0; omega)) hx0
      replace hx1 := hK0.cell (.inl (by have := World.block_lt_of_cell? _ _ hx1; omega)) hx1
      replace hx2 := hK0.cell (.inl (by have := World.block_lt_of_cell? _ _ hx2; omega)) hx2
      have hltt := eq_true hlt
      clear hlt hK0
      have f5 : x.f0 ≤ (text.size : Int) := by omega
      have f6 : 0 ≤ x.f0 := by omega
      have hns : n₁ ≤ wr.heap.size := by have := HK.out.1; omega
      have HNS := Aside0.mk hns
      clear hns
      have HBK : Aside0 ((wr.alloc (.cells #[.int .i64 x.f0, .int .i64 x.f1, .string x.f2] 39)).heap[wr.heap.size]? = some (.cells #[.int .i64 x.f0, .int .i64 x.f1, .string x.f2] 39 (0, 0))) := ⟨Go.heap_alloc_new wr _⟩
      have hLL := congrArg List.length HL.out
      obtain ⟨fn, tmps, assign, body, hy, hRn⟩ := hY _ (text.extract (endAt 0 done).toNat x.f0.toNat) (wr.alloc (.cells #[.int .i64 x.f0, .int .i64 x.f1, .string x.f2] 39)) (hJ _ _ _ none HJ.out (World.grownBy_alloc wr _ none) (by simp)) (by rw [pcs_length, hLL]; simp; omega)
      have HLL := Aside0.mk hLL
      clear hLL
      have hba : ∀ o : Obj, (wr.alloc o).cell? ⟨Bt, 0, none⟩ = some (.string text) := fun o => (KpM.alloc wr o).cell hpt hb1
      gi_wp2
      refine hRn.mono ?_
      rintro e W3 (⟨rfl, hJ3, hk3⟩ | ⟨rfl, hJx3⟩)
      · have hb3 := hk3.2 _ _ _ _ (.inr HNS.out) HBK.out
        have hq2 : W3.cell? ⟨wr.heap.size, 2, none⟩ = some (.string x.f2) := Lib.cell_of_heap hb3 2
        obtain ⟨fn2, tmps2, assign2, body2, hy2, hRn2⟩ := hY _ x.f2 W3 hJ3 (by rw [List.length_append, pcs_length, HLL.out]; simp)
        have HB3 := Aside0.mk hb3
        clear hb3 hy
        gi_wp2
        refine hRn2.mono ?_
        rintro e W4 (⟨rfl, hJ4, hk4⟩ | ⟨rfl, hJx4⟩)
        · have hq1 : W4.cell? ⟨wr.heap.size, 1, none⟩ = some (.int .i64 x.f1) := Lib.cell_of_heap (hk4.2 _ _ _ _ (.inr HNS.out) HB3.out) 1
          clear hy2
          gi_wp2
          go_roundw
          case rel => exact ⟨done ++ [x], r, i + 1, by rw [endAt_snoc], rfl, ⟨by have := HI.out; simp; omega⟩, ⟨by rw [HL.out]; simp⟩, ⟨by rw [pcs_snoc]; simpa using hJ4⟩, ⟨((HK.out.trans (KpM.alloc _ _)).trans hk3).trans hk4⟩⟩
          case measure => have := of_eq_true hltt; simp [intOf]; omega
        · gi_wp2
          refine bodyPost_ret (results_none rfl _ _ _) rfl ?_
          exact ⟨⟨_, rfl⟩, .inr ⟨_, trivial, hJx4⟩⟩
      · gi_wp2
        refine ⟨(fun f hf => by cases hf), ?_⟩
        gi_wp2
        refine bodyPost_ret (results_none rfl _ _ _) rfl ?_
        exact ⟨⟨_, rfl⟩, .inr ⟨_, trivial, hJx3⟩⟩

set_option maxHeartbeats 1000000 in
theorem pieces_in (F : Fence) (n : Nat) (h25 : F.fn 25) (hro : F.round = none) (text : ByteArray) (A : Option Addr) (len cap : Nat) (w : World) :
    CallsIn F n Try.prog 25 #[.string text, .slice A len cap] w fun e w' => e = .returned (.func (.func 35) #[] #[.pointer (some ⟨w.heap.size + 1, 0, none⟩), .pointer (some ⟨w.heap.size, 0, none⟩)]) ∧ w' = (w.alloc (.cells #[.string text] 9)).alloc (.cells #[.slice A len cap] 24) := by
  refine callsIn_of_wp Try.func25 rfl h25 ?_ hro
  simp only [Try.ntmps25, List.size_toArray, List.length_cons, List.length_nil, Nat.reduceAdd, Nat.reduceSub, Array.replicate_succ, Array.replicate_zero, List.push_toArray, List.append_toArray, List.nil_append, List.cons_append]
  gi_wp2
  go_ret
  exact ⟨rfl, rfl⟩

theorem pieces_stops (F : Fence) (n : Nat) (h35 : F.fn 35) (hro : F.round = none) (hn : 1 ≤ n) (Bt Bl n₀ n₁ : Nat) (text : ByteArray) (A : Option Addr) (cap : Nat) (L : List S39) (w0 w : World) (hR : Kd.C k39 w0 A L.length L) (hw0 : w0.heap.size ≤ n₀) (hn01 : n₀ ≤ n₁)
    (hfit : Fit text.size 0 L) (hlen : L.length ≤ 1099511627776) (hts : text.size ≤ 1099511627776) (h0w : KpM n₀ n₁ w0 w) (hBt : w.cell? ⟨Bt, 0, none⟩ = some (.string text)) (hBl : w.cell? ⟨Bl, 0, none⟩ = some (.slice A L.length cap)) (hpt : Bt < n₀ ∨ n₁ ≤ Bt) (hpl : Bl < n₀ ∨ n₁ ≤ Bl) (hWn : n₁ ≤ w.heap.size) :
    SeqStopsK F n Try.prog 35 #[.pointer (some ⟨Bl, 0, none⟩), .pointer (some ⟨Bt, 0, none⟩)] (fun x : ByteArray => #[Value.string x]) (KpM n₀ n₁) (fun ys => ys = chunks text L) (fun _ => True) (2 * L.length + 1) w := fun l J Jx W hW hJ _ hY h0 =>
  pieces1_in F n h35 hro hn l Bt Bl n₀ n₁ text A cap L w0 hR hw0 hn01 hfit hlen hts J Jx W hJ hY
    (h0w.trans ⟨hW.size, fun k c t fz _ hk => (hW.block k (Array.getElem?_eq_some_iff.1 hk).1).trans hk⟩)
    ((hW.cell (p := ⟨Bt, 0, none⟩) (World.block_lt_of_cell? _ _ hBt)).trans hBt) ((hW.cell (p := ⟨Bl, 0, none⟩) (World.block_lt_of_cell? _ _ hBl)).trans hBl) hpt hpl (Nat.le_trans hWn hW.size) h0
end Go.Proofs.Ytgdggbamhlinlaa.PEditsFlat

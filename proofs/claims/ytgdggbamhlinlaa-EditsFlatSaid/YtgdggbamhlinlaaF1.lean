/- YtgdggbamhlinlaaF1: EditsFlat (function 3): its walk. -/
import Derived.Test.YtgdggbamhlinlaaE0
import Derived.Test.YtgdggbamhlinlaaB5
namespace Go.Proofs.Ytgdggbamhlinlaa.PEditsFlat
open Go.RowKit Go.Shelf Go.Proofs.YtgdggbamhlinlaaW.PrintWords Go.Proofs.YtgdggbamhlinlaaW.PrintLast Go.Proofs.YtgdggbamhlinlaaW.PrintMore
set_option linter.unusedVariables false
set_option linter.unusedSimpArgs false

set_option maxRecDepth 100000 in
set_option maxHeartbeats 8000000 in
theorem EditsFlat_walk (a0 : ByteArray) (A : Option Addr) (c : Nat) (l : List S45) (w : World) (hr : Kd.C k45 w A l.length l) (hc : l.length ≤ c)
    (t : ByteArray) (k1 k2 k3 : Nat) (L : List S45) (G : List S39) (g : Int) (hcut : emendlaw07_cut.f a0 = some t) (hp : emendlaw07_pieces.f k1 l = some L) (hf : emendref07_Flat.f k2 t L = some (G, g)) (hs : emendref07_Same.f k3 G G = some true)
    (ht : t.size ≤ 1099511627776) (hln : L.length ≤ 1099511627776) (hlp : ∀ c ∈ L, c.f2.length ≤ 1099511627776 ∧ ∀ p ∈ c.f2, p.f2.size ≤ 1099511627776) :
    Calls Try.prog 3 #[.string a0, .slice A l.length c] w fun e w' => e = .returned (.bool true) ∧ Below w.heap.size w w' := by
  have HR := Aside0.mk hr
  have HC := Aside0.mk hc
  have HCUT := Aside0.mk hcut
  have HP := Aside0.mk hp
  have HF := Aside0.mk hf
  have HS := Aside0.mk hs
  have HTS := Aside0.mk ht
  have HLn := Aside0.mk hln
  have HLp := Aside0.mk hlp
  clear hr hc hcut hp hf hs ht hln hlp
  have HB := Aside0.mk (Below.refl w.heap.size w)
  go_enter Try.func3, Try.ntmps3
  go_wp2_with (first 
    | (go_at_call 6; (with_reducible refine (emendlaw07_cut.calls a0 t _ HCUT.out).mono ?_); rintro e w6 ⟨rfl, hb⟩; have n0 := Aside0.mk (below_step (by repeat (first | (with_reducible first | exact HB.out | apply below_alloc | apply pw_below_drewN | apply below_drew1) | exact HB.out)) hb); clear HB; have HB := n0; clear n0; clear hb)
    | (go_at_call 8; (with_reducible refine (emendlaw07_pieces.calls k1 _ _ l L _ (Kd.C_below HR.out (by repeat (first | (with_reducible first | exact HB.out | apply below_alloc | apply pw_below_drewN | apply below_drew1) | exact HB.out))) HC.out HP.out).mono ?_); rintro e w8 ⟨v8, rfl, ho, hb⟩; replace ho := Kd.S_R ho; obtain ⟨A8, c8, rfl⟩ := Kd.R_slice ho; have n0 := Aside0.mk (below_step (by repeat (first | (with_reducible first | exact HB.out | apply below_alloc | apply pw_below_drewN | apply below_drew1) | exact HB.out)) hb); clear HB; have HB := n0; clear n0; (try (have n1 := Aside0.mk (Kd.C_below HA.out hb); clear HA; have HA := n1; clear n1)); (try clear H8); have H8 := Aside0.mk (Kd.R_reads' ho).2.2; have H8c := Aside0.mk (Kd.R_reads' ho).2.1; clear ho hb)
    | (go_at_call 7; (with_reducible refine (edits_Flat.calls k2 t _ _ L G g _ H8.out H8c.out HLn.out HTS.out HLp.out HF.out).mono ?_); rintro e w7 ⟨v7, rfl, ho, hb⟩; obtain ⟨A7, c7, rfl⟩ := Kd.R_slice ho; have n0 := Aside0.mk (below_step (by repeat (first | (with_reducible first | exact HB.out | apply below_alloc | apply pw_below_drewN | apply below_drew1) | exact HB.out)) hb); clear HB; have HB := n0; clear n0; have HA := Aside0.mk (Kd.R_reads' ho).2.2; have HAc := Aside0.mk (Kd.R_reads' ho).2.1; clear ho hb)
    | (go_at_call 9; (with_reducible refine (emendref07_Flat.calls k2 t _ _ L G g _ H8.out H8c.out HF.out).mono ?_); rintro e w9 ⟨v9, rfl, ho, hb⟩; obtain ⟨A9, c9, rfl⟩ := Kd.R_slice ho; have n0 := Aside0.mk (below_step (by repeat (first | (with_reducible first | exact HB.out | apply below_alloc | apply pw_below_drewN | apply below_drew1) | exact HB.out)) hb); clear HB; have HB := n0; clear n0; (try (have n1 := Aside0.mk (Kd.C_below HA.out hb); clear HA; have HA := n1; clear n1)); have H9 := Aside0.mk (Kd.R_reads' ho).2.2; have H9c := Aside0.mk (Kd.R_reads' ho).2.1; clear ho hb)
    | (go_at_call 10; (with_reducible refine (emendref07_Same.calls k3 _ _ G _ _ G true _ HA.out HAc.out H9.out H9c.out HS.out).mono ?_); rintro e w10 ⟨rfl, hd⟩; have hb := hd.below; have n0 := Aside0.mk (below_step (by repeat (first | (with_reducible first | exact HB.out | apply below_alloc | apply pw_below_drewN | apply below_drew1) | exact HB.out)) hb); clear HB; have HB := n0; clear n0; clear hd hb)
    | (go_at_call 11; (with_reducible refine (awake_calls _).mono ?_); rintro e w11 ⟨rfl, hb⟩; have n0 := Aside0.mk (below_step (by repeat (first | (with_reducible first | exact HB.out | apply below_alloc | apply pw_below_drewN | apply below_drew1) | exact HB.out)) hb); clear HB; have HB := n0; clear n0; clear hb))
  go_ret
  exact ⟨rfl, HB.out⟩
end Go.Proofs.Ytgdggbamhlinlaa.PEditsFlat

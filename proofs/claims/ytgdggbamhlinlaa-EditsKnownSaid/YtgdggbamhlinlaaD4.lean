/- YtgdggbamhlinlaaD4: awake (function 11) answers true, in whatever memory. -/
import Derived.Test.YtgdggbamhlinlaaD3
namespace Go.Proofs.Ytgdggbamhlinlaa.PEditsFlat
open Go.RowKit Go.Shelf Go.Proofs.YtgdggbamhlinlaaW.PrintWords Go.Proofs.YtgdggbamhlinlaaW.PrintLast Go.Proofs.YtgdggbamhlinlaaW.PrintMore
set_option linter.unusedVariables false
set_option linter.unusedSimpArgs false

def theSome : List S39 := [⟨1, 3, ⟨#[88]⟩⟩, ⟨3, 3, ⟨#[89]⟩⟩, ⟨3, 3, ⟨#[90]⟩⟩]
abbrev abcdef : ByteArray := ⟨#[97, 98, 99, 100, 101, 102]⟩
theorem some_f : emendlaw07_some.f = some theSome := rfl
theorem check_some : edits_Check.f 10 (abcdef.size : Int) theSome = some 0 := by kernel_rfl
theorem check_some6 : edits_Check.f 10 6 theSome = some 0 := by kernel_rfl
theorem moved_some : edits_Moved.f 10 theSome 3 = some (4, true) := by kernel_rfl
theorem cat_some : (cat (chunks abcdef theSome)).toArray = #[97, 88, 89, 90, 100, 101, 102] := by rfl

/-- What Apply answers, as one word. -/
def ApplyRes (text : ByteArray) (L : List S39) (c : Int) (r : ByteArray) (e0 : Int) : Prop :=
  (c ≠ 0 ∧ r = ⟨#[]⟩ ∧ e0 = c) ∨ (c = 0 ∧ 65536 < (cat (chunks text L)).length ∧ r = ⟨#[]⟩ ∧ e0 = 3) ∨ (c = 0 ∧ (cat (chunks text L)).length ≤ 65536 ∧ r = ⟨(cat (chunks text L)).toArray⟩ ∧ e0 = 0)

theorem Apply_says (text : ByteArray) (A : Option Addr) (cap : Nat) (L : List S39) (w : World) (hR : Kd.C k39 w A L.length L) (hcap : L.length ≤ cap) (hlen : L.length ≤ 1048576) (hts : text.size ≤ 1099511627776) (hxs : ∀ x ∈ L, x.f2.size ≤ 1099511627776)
    (k : Nat) (c : Int) (hk : edits_Check.f k (text.size : Int) L = some c) (r : ByteArray) (e0 : Int) (hres : ApplyRes text L c r e0) :
    Calls Try.prog 12 #[.string text, .slice A L.length cap] w fun e w' => e = .returned (.tuple #[.string r, .int .i64 e0]) ∧ Below w.heap.size w w' :=
  Apply_calls text A cap L w hR hcap hlen hts hxs k c hk r e0 hres

set_option maxRecDepth 100000 in
set_option maxHeartbeats 4000000 in
theorem awake_calls (w : World) : Calls Try.prog 11 #[] w fun e w' => e = .returned (.bool true) ∧ Below w.heap.size w w' := by
  obtain ⟨L, hL⟩ : ∃ L, L = theSome := ⟨_, rfl⟩
  have HF : Aside0 (emendlaw07_some.f = some L) := ⟨by rw [hL]; exact some_f⟩
  have HC1 : Aside0 (edits_Check.f 10 (abcdef.size : Int) L = some 0) := ⟨by rw [hL]; exact check_some⟩
  have HC2 : Aside0 (edits_Check.f 10 6 L = some 0) := ⟨by rw [hL]; exact check_some6⟩
  have HM : Aside0 (edits_Moved.f 10 L 3 = some (4, true)) := ⟨by rw [hL]; exact moved_some⟩
  have HX : Aside0 (∀ x ∈ L, x.f2.size ≤ 1099511627776) := ⟨by rw [hL]; intro x hx; simp [theSome] at hx; rcases hx with rfl | rfl | rfl <;> decide⟩
  have HN : Aside0 (L.length ≤ 1048576) := ⟨by rw [hL]; decide⟩
  have HR : Aside0 (ApplyRes abcdef L 0 ⟨#[97, 88, 89, 90, 100, 101, 102]⟩ 0) := ⟨by rw [hL]; exact .inr (.inr ⟨rfl, by decide, by rw [cat_some], rfl⟩)⟩
  clear hL
  have HB := Aside0.mk (Below.refl w.heap.size w)
  go_enter Try.func11, Try.ntmps11
  go_wp2_with (first
    | (go_at_call 15; (with_reducible refine (emendlaw07_some.calls L _ HF.out).mono ?_); rintro e w1 ⟨v, rfl, ho, hb⟩; obtain ⟨Ao, co, rfl⟩ := Kd.R_slice ho; have HO := Aside0.mk ho; have n0 := Aside0.mk (below_step HB.out hb); clear HB ho hb; have HB := n0; clear n0)
    | (go_at_call 12; (with_reducible refine (Apply_says abcdef _ _ L _ (Kd.R_reads' HO.out).2.2 (Kd.R_reads' HO.out).2.1 HN.out (by decide) HX.out 10 0 HC1.out ⟨#[97, 88, 89, 90, 100, 101, 102]⟩ 0 HR.out).mono ?_); rintro e w2 ⟨rfl, hb⟩; have n0 := Aside0.mk (below_step HB.out hb); clear HB hb; have HB := n0; clear n0)
    | (go_at_call 16; (refine (edits_Moved.calls 10 _ _ L 3 4 true _ (Kd.R_reads' HO.out).2.2 (Kd.R_reads' HO.out).2.1 HM.out).mono ?_); rintro e w2 ⟨rfl, hb⟩; have n0 := Aside0.mk (below_step HB.out hb); clear HB hb; have HB := n0; clear n0)
    | (go_at_call 17; (refine (edits_Check.calls 10 6 _ _ L 0 _ (Kd.R_reads' HO.out).2.2 (Kd.R_reads' HO.out).2.1 HC2.out).mono ?_); rintro e w2 ⟨rfl, hb⟩; have n0 := Aside0.mk (below_step HB.out hb); clear HB hb; have HB := n0; clear n0))
  go_ret
  exact ⟨rfl, HB.out⟩
end Go.Proofs.Ytgdggbamhlinlaa.PEditsFlat

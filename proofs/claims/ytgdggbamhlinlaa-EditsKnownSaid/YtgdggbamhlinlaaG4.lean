/- YtgdggbamhlinlaaG4: stableCmpFunc (36), SortStableFunc (27) at EditsKnown's three splices. -/
import Derived.Test.YtgdggbamhlinlaaG3
namespace Go.Proofs.Ytgdggbamhlinlaa.PEditsFlat
open Go.RowKit Go.Shelf Go.Proofs.YtgdggbamhlinlaaW.PrintWords Go.Proofs.YtgdggbamhlinlaaW.PrintLast Go.Proofs.YtgdggbamhlinlaaW.PrintMore
set_option linter.unusedVariables false
set_option linter.unusedSimpArgs false
set_option maxRecDepth 100000 in
set_option maxHeartbeats 8000000 in
theorem stable_three (g cap base : Nat) (tl : List Value) (w : World) (hg : w.heap[g]? = some (.cells (row3 ⟨3, 4, ⟨#[120]⟩⟩ ⟨3, 3, ⟨#[121]⟩⟩ ⟨1, 2, ⟨#[122]⟩⟩ tl) 39 (0, 0))) (hge : base ≤ g) :
    Calls Try.prog 36 #[.slice (some ⟨g, 0, none⟩) 3 cap, .int .i64 3, .func (.func 28) #[] #[]] w fun e w' => e = .returned (.tuple #[]) ∧ w'.heap[g]? = some (.cells (row3 ⟨1, 2, ⟨#[122]⟩⟩ ⟨3, 3, ⟨#[121]⟩⟩ ⟨3, 4, ⟨#[120]⟩⟩ tl) 39 (0, 0)) ∧ Below base w w' := by
  have HG := Aside0.mk hg
  have HGE := Aside0.mk hge
  clear hg hge
  go_enter Try.func36, Try.ntmps36
  go_wp2
  refine wp_loop_rounds 1 ?_
  rw [rounds_succ]
  go_wp2_with (first
    | (go_at_call 40; (with_reducible refine (sort_three g cap base tl _ HG.out HGE.out).mono ?_); rintro e w1 ⟨rfl, hg1, hb1⟩; have HG1 := Aside0.mk hg1; have HB1 := Aside0.mk hb1; clear hg1 hb1))
  refine wp_loop_rounds 1 ?_
  rw [rounds_succ]
  go_wp2
  first | go_end0 | ((try simp only [Exit.inBlock, Exit.then]); refine bodyPost_ret (results_none rfl _ _ _) rfl ?_)
  exact ⟨rfl, HG1.out, HB1.out⟩

set_option maxRecDepth 100000 in
set_option maxHeartbeats 8000000 in
theorem sortstable_three (g cap base : Nat) (tl : List Value) (w : World) (hg : w.heap[g]? = some (.cells (row3 ⟨3, 4, ⟨#[120]⟩⟩ ⟨3, 3, ⟨#[121]⟩⟩ ⟨1, 2, ⟨#[122]⟩⟩ tl) 39 (0, 0))) (hge : base ≤ g) :
    Calls Try.prog 27 #[.slice (some ⟨g, 0, none⟩) 3 cap, .func (.func 28) #[] #[]] w fun e w' => e = .returned (.tuple #[]) ∧ w'.heap[g]? = some (.cells (row3 ⟨1, 2, ⟨#[122]⟩⟩ ⟨3, 3, ⟨#[121]⟩⟩ ⟨3, 4, ⟨#[120]⟩⟩ tl) 39 (0, 0)) ∧ Below base w w' := by
  have HG := Aside0.mk hg
  have HGE := Aside0.mk hge
  clear hg hge
  go_enter Try.func27, Try.ntmps27
  go_wp2_with (first
    | (go_at_call 36; (with_reducible refine (stable_three g cap base tl _ HG.out HGE.out).mono ?_); rintro e w1 ⟨rfl, hg1, hb1⟩; have HG1 := Aside0.mk hg1; have HB1 := Aside0.mk hb1; clear hg1 hb1))
  first | go_end0 | ((try simp only [Exit.inBlock, Exit.then]); refine bodyPost_ret (results_none rfl _ _ _) rfl ?_)
  exact ⟨rfl, HG1.out, HB1.out⟩
end Go.Proofs.Ytgdggbamhlinlaa.PEditsFlat

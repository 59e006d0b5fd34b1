/- YtgdggbamhlinlaaK7: EditsKnown (function 5) answers true, in whatever memory: its six pieces joined. -/
import Derived.Test.YtgdggbamhlinlaaK1
import Derived.Test.YtgdggbamhlinlaaK2
import Derived.Test.YtgdggbamhlinlaaK3
import Derived.Test.YtgdggbamhlinlaaK4
import Derived.Test.YtgdggbamhlinlaaK5
import Derived.Test.YtgdggbamhlinlaaK6
namespace Go.Proofs.Ytgdggbamhlinlaa.PEditsFlat
open Go.RowKit
theorem known_pure : ek.f 60 = some true := by kernel_rfl
theorem EditsKnown_walk (w : World) : Calls Try.prog 5 #[] w fun e w' => e = .returned (.bool true) ∧ Below w.heap.size w w' :=
  ek.calls (ek.piece3 (ek.piece6 (ek.piece8 (ek.piece10 ek.piece15)))) 60 w known_pure
end Go.Proofs.Ytgdggbamhlinlaa.PEditsFlat

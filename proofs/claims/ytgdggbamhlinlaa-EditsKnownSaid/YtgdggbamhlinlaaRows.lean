/-
  No cell of these rows narrows 'for every input' (looked for: loops, veiled, ifaces, maps, wideKeys, modest, calm, conditions, laid).
  DERIVED. THE GIVEN ROWS OF THIS SEAT. 3 by the template 'for every input the law returns true; each argument reads behind the call as it read before'; 0 by the template 'total and deterministic' (their statements: YtgdggbamhlinlaaTotals.lean).
  GIVEN WITH THE SEED: the statements are not yours to turn. If you find one false, say at which input.
  Laid BY PROGRAM, IN A SANDBOX (cutbox-rows.mjs): the forced cells as the released guide's own fill.sh prints them over the translation e59f86980bb9dd61… (all of the seat's roots in one cut). By AI agents, Wed Nov 11 2026. No macro, syntax, notation, axiom, sorry.
-/
import Derived.Test.YtgdggbamhlinlaaChecked
import GoSem.Claim
import GoSem.ClaimJoined
import GoSem.ClaimMapViews
import Derived.JoinedTies
import Derived.KernelRfl
namespace Go.Proofs.Ytgdggbamhlinlaa
/- THE CELL 'sum', in the pinned program and in every row, IS THE sha256 OF THE DUMP (.gsa) THAT YtgdggbamhlinlaaProg.lean LOADS. Nothing in Lean hashes anything: it is a label: what it is worth is what the hold of that sum in a sandbox is worth. -/
noncomputable def Try.pinned : Pinned := { name := "ytgdggbamhlinlaa", sum := "e59f86980bb9dd613ecc8eaafbd62e15f3c38bac0ff92633a837d1ba9ffb6a20", checked := Try.checked }
namespace Rows
def none {H : Type} : Left H := { results := [], args := [] }

/-- 'emendlaw07.EditsFlat': WHATEVER THE INPUT: true; the input reads as it did. -/
def editsFlatSpec : ChangeSpec := { name := "editsFlat", fn := fun _ => fun
  | [d1, d2] => { results := [.lit (.bool true)], args := [d1, d2] }
  | _ => none }
def editsFlatRow : OpenClaim := { program := "ytgdggbamhlinlaa", sum := "e59f86980bb9dd613ecc8eaafbd62e15f3c38bac0ff92633a837d1ba9ffb6a20", func := "emend/emendlaw07.EditsFlat", spec := "editsFlat", inPlace := ["internal/abi.NoEscape"], unfollowed := true, recurses := true, apart := false }
def EditsFlatSaid : Prop := editsFlatRow.holds Try.pinned (OpenSpec.ofChange editsFlatSpec)

/-- ITS FALSE NEIGHBOUR: 'it returns false'. Refute it at one input. -/
def editsFlatWrong : ChangeSpec := { name := "editsFlat", fn := fun _ => fun
  | [d1, d2] => { results := [.lit (.bool false)], args := [d1, d2] }
  | _ => none }
def EditsFlatWrongFalsely : Prop := editsFlatRow.holds Try.pinned (OpenSpec.ofChange editsFlatWrong)

/-- 'emendlaw07.EditsLong': WHATEVER THE INPUT: true; the input reads as it did. -/
def editsLongSpec : ChangeSpec := { name := "editsLong", fn := fun _ => fun
  | [d1, d2] => { results := [.lit (.bool true)], args := [d1, d2] }
  | _ => none }
def editsLongRow : OpenClaim := { program := "ytgdggbamhlinlaa", sum := "e59f86980bb9dd613ecc8eaafbd62e15f3c38bac0ff92633a837d1ba9ffb6a20", func := "emend/emendlaw07.EditsLong", spec := "editsLong", inPlace := ["internal/abi.NoEscape"], unfollowed := true, recurses := true, apart := false }
def EditsLongSaid : Prop := editsLongRow.holds Try.pinned (OpenSpec.ofChange editsLongSpec)

/-- ITS FALSE NEIGHBOUR: 'it returns false'. Refute it at one input. -/
def editsLongWrong : ChangeSpec := { name := "editsLong", fn := fun _ => fun
  | [d1, d2] => { results := [.lit (.bool false)], args := [d1, d2] }
  | _ => none }
def EditsLongWrongFalsely : Prop := editsLongRow.holds Try.pinned (OpenSpec.ofChange editsLongWrong)

/-- 'emendlaw07.EditsKnown': WHATEVER THE INPUT: true; the input reads as it did. -/
def editsKnownSpec : ChangeSpec := { name := "editsKnown", fn := fun _ => fun
  | [] => { results := [.lit (.bool true)], args := [] }
  | _ => none }
def editsKnownRow : OpenClaim := { program := "ytgdggbamhlinlaa", sum := "e59f86980bb9dd613ecc8eaafbd62e15f3c38bac0ff92633a837d1ba9ffb6a20", func := "emend/emendlaw07.EditsKnown", spec := "editsKnown", inPlace := ["internal/abi.NoEscape"], unfollowed := true, recurses := true, apart := false }
def EditsKnownSaid : Prop := editsKnownRow.holds Try.pinned (OpenSpec.ofChange editsKnownSpec)

/-- ITS FALSE NEIGHBOUR: 'it returns false'. Refute it at one input. -/
def editsKnownWrong : ChangeSpec := { name := "editsKnown", fn := fun _ => fun
  | [] => { results := [.lit (.bool false)], args := [] }
  | _ => none }
def EditsKnownWrongFalsely : Prop := editsKnownRow.holds Try.pinned (OpenSpec.ofChange editsKnownWrong)

/- THE SECOND FORM. 'bulk': how many values and letters a reading holds, each counted each time it is reached (what is shared counts as often as it is met; a slice's spare places count too). A statement '..UptoSaid' is the law's where the arguments, and the package variables that the reading takes, are together of bulk at most 1048576: NARROWER than '..Said'. Prove '..Said' where nothing that the law and all that it calls make is longer than what came in: it says more and counts as full. Else prove '..UptoSaid'. A law counts once. -/
mutual
def uptoBulk {H : Type} : DataW H → Nat
  | .lit (.string bytes) => bytes.length + 1
  | .lit _ => 1
  | .nil => 1
  | .ptr d => uptoBulk d + 1
  | .slice elems spare => uptoBulkAll elems + uptoBulkAll spare + 1
  | .agg parts => uptoBulkAll parts + 1
  | .iface _ d => uptoBulk d + 1
  | .map entries => uptoBulkEntries entries + 1
  | .held _ => 1
def uptoBulkAll {H : Type} : List (DataW H) → Nat
  | [] => 0
  | d :: r => uptoBulk d + uptoBulkAll r
def uptoBulkEntries {H : Type} : List (Lit × DataW H) → Nat
  | [] => 0
  | x :: r => uptoBulkEntry x + uptoBulkEntries r
def uptoBulkEntry {H : Type} : Lit × DataW H → Nat
  | (.string bytes, d) => bytes.length + uptoBulk d + 1
  | (_, d) => uptoBulk d + 1
 end
def uptoSmall : (H : Type) → List (DataW H) → Bool := fun _ ds => decide (uptoBulkAll ds ≤ 1048576)
def OpenSpec.upto (s : _root_.Go.ChangeSpec) : _root_.Go.OpenSpec := { _root_.Go.OpenSpec.ofChange s with cond := some uptoSmall }

/-- 'emendlaw07.EditsFlat', WHERE WHAT IT READS IS OF BULK AT MOST 1048576: true; the input reads as it did. -/
def editsFlatUptoRow : OpenClaim := { program := "ytgdggbamhlinlaa", sum := "e59f86980bb9dd613ecc8eaafbd62e15f3c38bac0ff92633a837d1ba9ffb6a20", func := "emend/emendlaw07.EditsFlat", spec := "editsFlat", inPlace := ["internal/abi.NoEscape"], unfollowed := true, recurses := true, apart := false, narrowed := true }
def EditsFlatUptoSaid : Prop := editsFlatUptoRow.holds Try.pinned (OpenSpec.upto editsFlatSpec)

/-- 'emendlaw07.EditsLong', WHERE WHAT IT READS IS OF BULK AT MOST 1048576: true; the input reads as it did. -/
def editsLongUptoRow : OpenClaim := { program := "ytgdggbamhlinlaa", sum := "e59f86980bb9dd613ecc8eaafbd62e15f3c38bac0ff92633a837d1ba9ffb6a20", func := "emend/emendlaw07.EditsLong", spec := "editsLong", inPlace := ["internal/abi.NoEscape"], unfollowed := true, recurses := true, apart := false, narrowed := true }
def EditsLongUptoSaid : Prop := editsLongUptoRow.holds Try.pinned (OpenSpec.upto editsLongSpec)

/-- 'emendlaw07.EditsKnown', WHERE WHAT IT READS IS OF BULK AT MOST 1048576: true; the input reads as it did. -/
def editsKnownUptoRow : OpenClaim := { program := "ytgdggbamhlinlaa", sum := "e59f86980bb9dd613ecc8eaafbd62e15f3c38bac0ff92633a837d1ba9ffb6a20", func := "emend/emendlaw07.EditsKnown", spec := "editsKnown", inPlace := ["internal/abi.NoEscape"], unfollowed := true, recurses := true, apart := false, narrowed := true }
def EditsKnownUptoSaid : Prop := editsKnownUptoRow.holds Try.pinned (OpenSpec.upto editsKnownSpec)

end Rows
end Go.Proofs.Ytgdggbamhlinlaa

/-
  No cell of these rows narrows 'for every input' (looked for: loops, veiled, ifaces, maps, wideKeys, modest, calm, conditions, laid).
  DERIVED. THE GIVEN ROWS OF THIS SEAT. 12 by the template 'for every input the law returns true; each argument reads behind the call as it read before'; 0 by the template 'total and deterministic' (their statements: YtihplpffmdeldaaGreatTotals.lean).
  GIVEN WITH THE SEED: the statements are not yours to turn. If you find one false, say at which input.
  Laid BY PROGRAM, IN A SANDBOX (cutbox-rows.mjs): the forced cells as the released guide's own fill.sh prints them over the translation 3fc22d022d6cd90f… (all of the seat's roots in one cut). By AI agents, Wed Nov 11 2026. No macro, syntax, notation, axiom, sorry.
-/
import Derived.Test.YtihplpffmdeldaaGreatChecked
import GoSem.Claim
import GoSem.ClaimJoined
import GoSem.ClaimMapViews
import Derived.JoinedTies
import Derived.KernelRfl
namespace Go.Proofs.YtihplpffmdeldaaGreat
/- THE CELL 'sum', in the pinned program and in every row, IS THE sha256 OF THE DUMP (.gsa) THAT YtihplpffmdeldaaGreatProg.lean LOADS. Nothing in Lean hashes anything: it is a label: what it is worth is what the hold of that sum in a sandbox is worth. -/
noncomputable def Tryz.pinned : Pinned := { name := "ytihplpffmdeldaagreat", sum := "3fc22d022d6cd90f0095fa4fd31a28fa8bcb0c91286b107212c5e3ab3876959c", checked := Tryz.checked }
namespace Rows
def none {H : Type} : Left H := { results := [], args := [] }

/-- 'laws.FnExactEndLoads': WHATEVER THE INPUT: true; the input reads as it did. -/
def fnExactEndLoadsSpec : ChangeSpec := { name := "fnExactEndLoads", fn := fun _ => fun
  | [d1, d2] => { results := [.lit (.bool true)], args := [d1, d2] }
  | _ => none }
def fnExactEndLoadsRow : OpenClaim := { program := "ytihplpffmdeldaagreat", sum := "3fc22d022d6cd90f0095fa4fd31a28fa8bcb0c91286b107212c5e3ab3876959c", func := "loop.example/tabularium/laws.FnExactEndLoads", spec := "fnExactEndLoads", unfollowed := true, recurses := true, apart := false }
def FnExactEndLoadsSaid : Prop := fnExactEndLoadsRow.holds Tryz.pinned (OpenSpec.ofChange fnExactEndLoadsSpec)

/-- ITS FALSE NEIGHBOUR: 'it returns false'. Refute it at one input. -/
def fnExactEndLoadsWrong : ChangeSpec := { name := "fnExactEndLoads", fn := fun _ => fun
  | [d1, d2] => { results := [.lit (.bool false)], args := [d1, d2] }
  | _ => none }
def FnExactEndLoadsWrongFalsely : Prop := fnExactEndLoadsRow.holds Tryz.pinned (OpenSpec.ofChange fnExactEndLoadsWrong)

/-- 'laws.FnExactEngineForce': WHATEVER THE INPUT: true; the input reads as it did. -/
def fnExactEngineForceSpec : ChangeSpec := { name := "fnExactEngineForce", fn := fun _ => fun
  | [d] => { results := [.lit (.bool true)], args := [d] }
  | _ => none }
def fnExactEngineForceRow : OpenClaim := { program := "ytihplpffmdeldaagreat", sum := "3fc22d022d6cd90f0095fa4fd31a28fa8bcb0c91286b107212c5e3ab3876959c", func := "loop.example/tabularium/laws.FnExactEngineForce", spec := "fnExactEngineForce", unfollowed := true, recurses := true, apart := false }
def FnExactEngineForceSaid : Prop := fnExactEngineForceRow.holds Tryz.pinned (OpenSpec.ofChange fnExactEngineForceSpec)

/-- ITS FALSE NEIGHBOUR: 'it returns false'. Refute it at one input. -/
def fnExactEngineForceWrong : ChangeSpec := { name := "fnExactEngineForce", fn := fun _ => fun
  | [d] => { results := [.lit (.bool false)], args := [d] }
  | _ => none }
def FnExactEngineForceWrongFalsely : Prop := fnExactEngineForceRow.holds Tryz.pinned (OpenSpec.ofChange fnExactEngineForceWrong)

/-- 'laws.FnLogFirst': WHATEVER THE INPUT: true; the input reads as it did. -/
def fnLogFirstSpec : ChangeSpec := { name := "fnLogFirst", fn := fun _ => fun
  | [d] => { results := [.lit (.bool true)], args := [d] }
  | _ => none }
def fnLogFirstRow : OpenClaim := { program := "ytihplpffmdeldaagreat", sum := "3fc22d022d6cd90f0095fa4fd31a28fa8bcb0c91286b107212c5e3ab3876959c", func := "loop.example/tabularium/laws.FnLogFirst", spec := "fnLogFirst", unfollowed := true, recurses := true, apart := false }
def FnLogFirstSaid : Prop := fnLogFirstRow.holds Tryz.pinned (OpenSpec.ofChange fnLogFirstSpec)

/-- ITS FALSE NEIGHBOUR: 'it returns false'. Refute it at one input. -/
def fnLogFirstWrong : ChangeSpec := { name := "fnLogFirst", fn := fun _ => fun
  | [d] => { results := [.lit (.bool false)], args := [d] }
  | _ => none }
def FnLogFirstWrongFalsely : Prop := fnLogFirstRow.holds Tryz.pinned (OpenSpec.ofChange fnLogFirstWrong)

/-- 'laws.FnExactEngineWrite': WHATEVER THE INPUT: true; the input reads as it did. -/
def fnExactEngineWriteSpec : ChangeSpec := { name := "fnExactEngineWrite", fn := fun _ => fun
  | [d1, d2] => { results := [.lit (.bool true)], args := [d1, d2] }
  | _ => none }
def fnExactEngineWriteRow : OpenClaim := { program := "ytihplpffmdeldaagreat", sum := "3fc22d022d6cd90f0095fa4fd31a28fa8bcb0c91286b107212c5e3ab3876959c", func := "loop.example/tabularium/laws.FnExactEngineWrite", spec := "fnExactEngineWrite", unfollowed := true, recurses := true, apart := false }
def FnExactEngineWriteSaid : Prop := fnExactEngineWriteRow.holds Tryz.pinned (OpenSpec.ofChange fnExactEngineWriteSpec)

/-- ITS FALSE NEIGHBOUR: 'it returns false'. Refute it at one input. -/
def fnExactEngineWriteWrong : ChangeSpec := { name := "fnExactEngineWrite", fn := fun _ => fun
  | [d1, d2] => { results := [.lit (.bool false)], args := [d1, d2] }
  | _ => none }
def FnExactEngineWriteWrongFalsely : Prop := fnExactEngineWriteRow.holds Tryz.pinned (OpenSpec.ofChange fnExactEngineWriteWrong)

/-- 'laws.FnPutHeld': WHATEVER THE INPUT: true; the input reads as it did. -/
def fnPutHeldSpec : ChangeSpec := { name := "fnPutHeld", fn := fun _ => fun
  | [d1, d2] => { results := [.lit (.bool true)], args := [d1, d2] }
  | _ => none }
def fnPutHeldRow : OpenClaim := { program := "ytihplpffmdeldaagreat", sum := "3fc22d022d6cd90f0095fa4fd31a28fa8bcb0c91286b107212c5e3ab3876959c", func := "loop.example/tabularium/laws.FnPutHeld", spec := "fnPutHeld", unfollowed := true, recurses := true, apart := false }
def FnPutHeldSaid : Prop := fnPutHeldRow.holds Tryz.pinned (OpenSpec.ofChange fnPutHeldSpec)

/-- ITS FALSE NEIGHBOUR: 'it returns false'. Refute it at one input. -/
def fnPutHeldWrong : ChangeSpec := { name := "fnPutHeld", fn := fun _ => fun
  | [d1, d2] => { results := [.lit (.bool false)], args := [d1, d2] }
  | _ => none }
def FnPutHeldWrongFalsely : Prop := fnPutHeldRow.holds Tryz.pinned (OpenSpec.ofChange fnPutHeldWrong)

/-- 'laws.FnEngineBad': WHATEVER THE INPUT: true; the input reads as it did. -/
def fnEngineBadSpec : ChangeSpec := { name := "fnEngineBad", fn := fun _ => fun
  | [d1, d2] => { results := [.lit (.bool true)], args := [d1, d2] }
  | _ => none }
def fnEngineBadRow : OpenClaim := { program := "ytihplpffmdeldaagreat", sum := "3fc22d022d6cd90f0095fa4fd31a28fa8bcb0c91286b107212c5e3ab3876959c", func := "loop.example/tabularium/laws.FnEngineBad", spec := "fnEngineBad", unfollowed := true, recurses := true, apart := false }
def FnEngineBadSaid : Prop := fnEngineBadRow.holds Tryz.pinned (OpenSpec.ofChange fnEngineBadSpec)

/-- ITS FALSE NEIGHBOUR: 'it returns false'. Refute it at one input. -/
def fnEngineBadWrong : ChangeSpec := { name := "fnEngineBad", fn := fun _ => fun
  | [d1, d2] => { results := [.lit (.bool false)], args := [d1, d2] }
  | _ => none }
def FnEngineBadWrongFalsely : Prop := fnEngineBadRow.holds Tryz.pinned (OpenSpec.ofChange fnEngineBadWrong)

/-- 'laws.FnEngineNew': WHATEVER THE INPUT: true; the input reads as it did. -/
def fnEngineNewSpec : ChangeSpec := { name := "fnEngineNew", fn := fun _ => fun
  | [d] => { results := [.lit (.bool true)], args := [d] }
  | _ => none }
def fnEngineNewRow : OpenClaim := { program := "ytihplpffmdeldaagreat", sum := "3fc22d022d6cd90f0095fa4fd31a28fa8bcb0c91286b107212c5e3ab3876959c", func := "loop.example/tabularium/laws.FnEngineNew", spec := "fnEngineNew", unfollowed := true, recurses := true, apart := false }
def FnEngineNewSaid : Prop := fnEngineNewRow.holds Tryz.pinned (OpenSpec.ofChange fnEngineNewSpec)

/-- ITS FALSE NEIGHBOUR: 'it returns false'. Refute it at one input. -/
def fnEngineNewWrong : ChangeSpec := { name := "fnEngineNew", fn := fun _ => fun
  | [d] => { results := [.lit (.bool false)], args := [d] }
  | _ => none }
def FnEngineNewWrongFalsely : Prop := fnEngineNewRow.holds Tryz.pinned (OpenSpec.ofChange fnEngineNewWrong)

/-- 'laws.FnSum': WHATEVER THE INPUT: true; the input reads as it did. -/
def fnSumSpec : ChangeSpec := { name := "fnSum", fn := fun _ => fun
  | [d] => { results := [.lit (.bool true)], args := [d] }
  | _ => none }
def fnSumRow : OpenClaim := { program := "ytihplpffmdeldaagreat", sum := "3fc22d022d6cd90f0095fa4fd31a28fa8bcb0c91286b107212c5e3ab3876959c", func := "loop.example/tabularium/laws.FnSum", spec := "fnSum", unfollowed := true, recurses := true, apart := false }
def FnSumSaid : Prop := fnSumRow.holds Tryz.pinned (OpenSpec.ofChange fnSumSpec)

/-- ITS FALSE NEIGHBOUR: 'it returns false'. Refute it at one input. -/
def fnSumWrong : ChangeSpec := { name := "fnSum", fn := fun _ => fun
  | [d] => { results := [.lit (.bool false)], args := [d] }
  | _ => none }
def FnSumWrongFalsely : Prop := fnSumRow.holds Tryz.pinned (OpenSpec.ofChange fnSumWrong)

/-- 'laws.FnExactEndDone': WHATEVER THE INPUT: true; the input reads as it did. -/
def fnExactEndDoneSpec : ChangeSpec := { name := "fnExactEndDone", fn := fun _ => fun
  | [d1, d2] => { results := [.lit (.bool true)], args := [d1, d2] }
  | _ => none }
def fnExactEndDoneRow : OpenClaim := { program := "ytihplpffmdeldaagreat", sum := "3fc22d022d6cd90f0095fa4fd31a28fa8bcb0c91286b107212c5e3ab3876959c", func := "loop.example/tabularium/laws.FnExactEndDone", spec := "fnExactEndDone", unfollowed := true, recurses := true, apart := false }
def FnExactEndDoneSaid : Prop := fnExactEndDoneRow.holds Tryz.pinned (OpenSpec.ofChange fnExactEndDoneSpec)

/-- ITS FALSE NEIGHBOUR: 'it returns false'. Refute it at one input. -/
def fnExactEndDoneWrong : ChangeSpec := { name := "fnExactEndDone", fn := fun _ => fun
  | [d1, d2] => { results := [.lit (.bool false)], args := [d1, d2] }
  | _ => none }
def FnExactEndDoneWrongFalsely : Prop := fnExactEndDoneRow.holds Tryz.pinned (OpenSpec.ofChange fnExactEndDoneWrong)

/-- 'laws.FnUndoBack': WHATEVER THE INPUT: true; the input reads as it did. -/
def fnUndoBackSpec : ChangeSpec := { name := "fnUndoBack", fn := fun _ => fun
  | [d] => { results := [.lit (.bool true)], args := [d] }
  | _ => none }
def fnUndoBackRow : OpenClaim := { program := "ytihplpffmdeldaagreat", sum := "3fc22d022d6cd90f0095fa4fd31a28fa8bcb0c91286b107212c5e3ab3876959c", func := "loop.example/tabularium/laws.FnUndoBack", spec := "fnUndoBack", unfollowed := true, recurses := true, apart := false }
def FnUndoBackSaid : Prop := fnUndoBackRow.holds Tryz.pinned (OpenSpec.ofChange fnUndoBackSpec)

/-- ITS FALSE NEIGHBOUR: 'it returns false'. Refute it at one input. -/
def fnUndoBackWrong : ChangeSpec := { name := "fnUndoBack", fn := fun _ => fun
  | [d] => { results := [.lit (.bool false)], args := [d] }
  | _ => none }
def FnUndoBackWrongFalsely : Prop := fnUndoBackRow.holds Tryz.pinned (OpenSpec.ofChange fnUndoBackWrong)

/-- 'laws.FnRedo': WHATEVER THE INPUT: true; the input reads as it did. -/
def fnRedoSpec : ChangeSpec := { name := "fnRedo", fn := fun _ => fun
  | [d] => { results := [.lit (.bool true)], args := [d] }
  | _ => none }
def fnRedoRow : OpenClaim := { program := "ytihplpffmdeldaagreat", sum := "3fc22d022d6cd90f0095fa4fd31a28fa8bcb0c91286b107212c5e3ab3876959c", func := "loop.example/tabularium/laws.FnRedo", spec := "fnRedo", unfollowed := true, recurses := true, apart := false }
def FnRedoSaid : Prop := fnRedoRow.holds Tryz.pinned (OpenSpec.ofChange fnRedoSpec)

/-- ITS FALSE NEIGHBOUR: 'it returns false'. Refute it at one input. -/
def fnRedoWrong : ChangeSpec := { name := "fnRedo", fn := fun _ => fun
  | [d] => { results := [.lit (.bool false)], args := [d] }
  | _ => none }
def FnRedoWrongFalsely : Prop := fnRedoRow.holds Tryz.pinned (OpenSpec.ofChange fnRedoWrong)

/-- 'laws.FnRedoSteps': WHATEVER THE INPUT: true; the input reads as it did. -/
def fnRedoStepsSpec : ChangeSpec := { name := "fnRedoSteps", fn := fun _ => fun
  | [d] => { results := [.lit (.bool true)], args := [d] }
  | _ => none }
def fnRedoStepsRow : OpenClaim := { program := "ytihplpffmdeldaagreat", sum := "3fc22d022d6cd90f0095fa4fd31a28fa8bcb0c91286b107212c5e3ab3876959c", func := "loop.example/tabularium/laws.FnRedoSteps", spec := "fnRedoSteps", unfollowed := true, recurses := true, apart := false }
def FnRedoStepsSaid : Prop := fnRedoStepsRow.holds Tryz.pinned (OpenSpec.ofChange fnRedoStepsSpec)

/-- ITS FALSE NEIGHBOUR: 'it returns false'. Refute it at one input. -/
def fnRedoStepsWrong : ChangeSpec := { name := "fnRedoSteps", fn := fun _ => fun
  | [d] => { results := [.lit (.bool false)], args := [d] }
  | _ => none }
def FnRedoStepsWrongFalsely : Prop := fnRedoStepsRow.holds Tryz.pinned (OpenSpec.ofChange fnRedoStepsWrong)

/- THE SECOND FORM. 'bulk': how many values and letters a reading holds, each counted each time it is reached (what is shared counts as often as it is met; a slice's spare places count too). A statement '..UptoSaid' is the law's where the arguments, and the package variables that the reading takes, are together of bulk at most 1048576: NARROWER than '..Said'. Prove '..Said' where nothing that the law and all that it calls make is longer than what came in: it says more and counts as full. Else prove '..UptoSaid'. A law counts once. -/
mutual
def uptoBulk {H : Type} : DataW H → Nat
  | .lit (.string bytes) => bytes.length + 1
  | .lit _ => 1
  | .nil => 1
  | .ptr d => uptoBulk d + 1
  | .slice elems spare => uptoBulkAll elems + uptoBulkAll spare + 1
  | .agg parts => uptoBulkAll parts + 1
  | .iface _ d => uptoBulk d + 1
  | .map entries => uptoBulkEntries entries + 1
  | .held _ => 1
def uptoBulkAll {H : Type} : List (DataW H) → Nat
  | [] => 0
  | d :: r => uptoBulk d + uptoBulkAll r
def uptoBulkEntries {H : Type} : List (Lit × DataW H) → Nat
  | [] => 0
  | x :: r => uptoBulkEntry x + uptoBulkEntries r
def uptoBulkEntry {H : Type} : Lit × DataW H → Nat
  | (.string bytes, d) => bytes.length + uptoBulk d + 1
  | (_, d) => uptoBulk d + 1
 end
def uptoSmall : (H : Type) → List (DataW H) → Bool := fun _ ds => decide (uptoBulkAll ds ≤ 1048576)
def OpenSpec.upto (s : _root_.Go.ChangeSpec) : _root_.Go.OpenSpec := { _root_.Go.OpenSpec.ofChange s with cond := some uptoSmall }

/-- 'laws.FnExactEndLoads', WHERE WHAT IT READS IS OF BULK AT MOST 1048576: true; the input reads as it did. -/
def fnExactEndLoadsUptoRow : OpenClaim := { program := "ytihplpffmdeldaagreat", sum := "3fc22d022d6cd90f0095fa4fd31a28fa8bcb0c91286b107212c5e3ab3876959c", func := "loop.example/tabularium/laws.FnExactEndLoads", spec := "fnExactEndLoads", unfollowed := true, recurses := true, apart := false, narrowed := true }
def FnExactEndLoadsUptoSaid : Prop := fnExactEndLoadsUptoRow.holds Tryz.pinned (OpenSpec.upto fnExactEndLoadsSpec)

/-- 'laws.FnExactEngineForce', WHERE WHAT IT READS IS OF BULK AT MOST 1048576: true; the input reads as it did. -/
def fnExactEngineForceUptoRow : OpenClaim := { program := "ytihplpffmdeldaagreat", sum := "3fc22d022d6cd90f0095fa4fd31a28fa8bcb0c91286b107212c5e3ab3876959c", func := "loop.example/tabularium/laws.FnExactEngineForce", spec := "fnExactEngineForce", unfollowed := true, recurses := true, apart := false, narrowed := true }
def FnExactEngineForceUptoSaid : Prop := fnExactEngineForceUptoRow.holds Tryz.pinned (OpenSpec.upto fnExactEngineForceSpec)

/-- 'laws.FnLogFirst', WHERE WHAT IT READS IS OF BULK AT MOST 1048576: true; the input reads as it did. -/
def fnLogFirstUptoRow : OpenClaim := { program := "ytihplpffmdeldaagreat", sum := "3fc22d022d6cd90f0095fa4fd31a28fa8bcb0c91286b107212c5e3ab3876959c", func := "loop.example/tabularium/laws.FnLogFirst", spec := "fnLogFirst", unfollowed := true, recurses := true, apart := false, narrowed := true }
def FnLogFirstUptoSaid : Prop := fnLogFirstUptoRow.holds Tryz.pinned (OpenSpec.upto fnLogFirstSpec)

/-- 'laws.FnExactEngineWrite', WHERE WHAT IT READS IS OF BULK AT MOST 1048576: true; the input reads as it did. -/
def fnExactEngineWriteUptoRow : OpenClaim := { program := "ytihplpffmdeldaagreat", sum := "3fc22d022d6cd90f0095fa4fd31a28fa8bcb0c91286b107212c5e3ab3876959c", func := "loop.example/tabularium/laws.FnExactEngineWrite", spec := "fnExactEngineWrite", unfollowed := true, recurses := true, apart := false, narrowed := true }
def FnExactEngineWriteUptoSaid : Prop := fnExactEngineWriteUptoRow.holds Tryz.pinned (OpenSpec.upto fnExactEngineWriteSpec)

/-- 'laws.FnPutHeld', WHERE WHAT IT READS IS OF BULK AT MOST 1048576: true; the input reads as it did. -/
def fnPutHeldUptoRow : OpenClaim := { program := "ytihplpffmdeldaagreat", sum := "3fc22d022d6cd90f0095fa4fd31a28fa8bcb0c91286b107212c5e3ab3876959c", func := "loop.example/tabularium/laws.FnPutHeld", spec := "fnPutHeld", unfollowed := true, recurses := true, apart := false, narrowed := true }
def FnPutHeldUptoSaid : Prop := fnPutHeldUptoRow.holds Tryz.pinned (OpenSpec.upto fnPutHeldSpec)

/-- 'laws.FnEngineBad', WHERE WHAT IT READS IS OF BULK AT MOST 1048576: true; the input reads as it did. -/
def fnEngineBadUptoRow : OpenClaim := { program := "ytihplpffmdeldaagreat", sum := "3fc22d022d6cd90f0095fa4fd31a28fa8bcb0c91286b107212c5e3ab3876959c", func := "loop.example/tabularium/laws.FnEngineBad", spec := "fnEngineBad", unfollowed := true, recurses := true, apart := false, narrowed := true }
def FnEngineBadUptoSaid : Prop := fnEngineBadUptoRow.holds Tryz.pinned (OpenSpec.upto fnEngineBadSpec)

/-- 'laws.FnEngineNew', WHERE WHAT IT READS IS OF BULK AT MOST 1048576: true; the input reads as it did. -/
def fnEngineNewUptoRow : OpenClaim := { program := "ytihplpffmdeldaagreat", sum := "3fc22d022d6cd90f0095fa4fd31a28fa8bcb0c91286b107212c5e3ab3876959c", func := "loop.example/tabularium/laws.FnEngineNew", spec := "fnEngineNew", unfollowed := true, recurses := true, apart := false, narrowed := true }
def FnEngineNewUptoSaid : Prop := fnEngineNewUptoRow.holds Tryz.pinned (OpenSpec.upto fnEngineNewSpec)

/-- 'laws.FnSum', WHERE WHAT IT READS IS OF BULK AT MOST 1048576: true; the input reads as it did. -/
def fnSumUptoRow : OpenClaim := { program := "ytihplpffmdeldaagreat", sum := "3fc22d022d6cd90f0095fa4fd31a28fa8bcb0c91286b107212c5e3ab3876959c", func := "loop.example/tabularium/laws.FnSum", spec := "fnSum", unfollowed := true, recurses := true, apart := false, narrowed := true }
def FnSumUptoSaid : Prop := fnSumUptoRow.holds Tryz.pinned (OpenSpec.upto fnSumSpec)

/-- 'laws.FnExactEndDone', WHERE WHAT IT READS IS OF BULK AT MOST 1048576: true; the input reads as it did. -/
def fnExactEndDoneUptoRow : OpenClaim := { program := "ytihplpffmdeldaagreat", sum := "3fc22d022d6cd90f0095fa4fd31a28fa8bcb0c91286b107212c5e3ab3876959c", func := "loop.example/tabularium/laws.FnExactEndDone", spec := "fnExactEndDone", unfollowed := true, recurses := true, apart := false, narrowed := true }
def FnExactEndDoneUptoSaid : Prop := fnExactEndDoneUptoRow.holds Tryz.pinned (OpenSpec.upto fnExactEndDoneSpec)

/-- 'laws.FnUndoBack', WHERE WHAT IT READS IS OF BULK AT MOST 1048576: true; the input reads as it did. -/
def fnUndoBackUptoRow : OpenClaim := { program := "ytihplpffmdeldaagreat", sum := "3fc22d022d6cd90f0095fa4fd31a28fa8bcb0c91286b107212c5e3ab3876959c", func := "loop.example/tabularium/laws.FnUndoBack", spec := "fnUndoBack", unfollowed := true, recurses := true, apart := false, narrowed := true }
def FnUndoBackUptoSaid : Prop := fnUndoBackUptoRow.holds Tryz.pinned (OpenSpec.upto fnUndoBackSpec)

/-- 'laws.FnRedo', WHERE WHAT IT READS IS OF BULK AT MOST 1048576: true; the input reads as it did. -/
def fnRedoUptoRow : OpenClaim := { program := "ytihplpffmdeldaagreat", sum := "3fc22d022d6cd90f0095fa4fd31a28fa8bcb0c91286b107212c5e3ab3876959c", func := "loop.example/tabularium/laws.FnRedo", spec := "fnRedo", unfollowed := true, recurses := true, apart := false, narrowed := true }
def FnRedoUptoSaid : Prop := fnRedoUptoRow.holds Tryz.pinned (OpenSpec.upto fnRedoSpec)

/-- 'laws.FnRedoSteps', WHERE WHAT IT READS IS OF BULK AT MOST 1048576: true; the input reads as it did. -/
def fnRedoStepsUptoRow : OpenClaim := { program := "ytihplpffmdeldaagreat", sum := "3fc22d022d6cd90f0095fa4fd31a28fa8bcb0c91286b107212c5e3ab3876959c", func := "loop.example/tabularium/laws.FnRedoSteps", spec := "fnRedoSteps", unfollowed := true, recurses := true, apart := false, narrowed := true }
def FnRedoStepsUptoSaid : Prop := fnRedoStepsUptoRow.holds Tryz.pinned (OpenSpec.upto fnRedoStepsSpec)

end Rows
end Go.Proofs.YtihplpffmdeldaaGreat

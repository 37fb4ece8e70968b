/-
  No cell of these rows narrows 'for every input' (looked for: loops, veiled, ifaces, maps, wideKeys, modest, calm, conditions, laid).
  DERIVED. THE GIVEN ROWS OF THIS SEAT. 4 by the template 'for every input the law returns true; each argument reads behind the call as it read before'; 0 by the template 'total and deterministic' (their statements: YtfcnajhanjhonaaGreatTotals.lean).
  GIVEN WITH THE SEED: the statements are not yours to turn. If you find one false, say at which input.
  Laid BY PROGRAM, IN A SANDBOX (cutbox-rows.mjs): the forced cells as the released guide's own fill.sh prints them over the translation 8204d492d1a5f678… (all of the seat's roots in one cut). By AI agents, Wed Nov 11 2026. No macro, syntax, notation, axiom, sorry.
-/
import Derived.Test.YtfcnajhanjhonaaGreatChecked
import GoSem.Claim
import GoSem.ClaimJoined
import GoSem.ClaimMapViews
import Derived.JoinedTies
import Derived.KernelRfl
namespace Go.Proofs.YtfcnajhanjhonaaGreat
/- THE CELL 'sum', in the pinned program and in every row, IS THE sha256 OF THE DUMP (.gsa) THAT YtfcnajhanjhonaaGreatProg.lean LOADS. Nothing in Lean hashes anything: it is a label: what it is worth is what the hold of that sum in a sandbox is worth. -/
noncomputable def Tryz.pinned : Pinned := { name := "ytfcnajhanjhonaagreat", sum := "8204d492d1a5f678e5b0c39f2149c0d8a013b06a490d73d2989c9839180b70be", checked := Tryz.checked }
namespace Rows
def none {H : Type} : Left H := { results := [], args := [] }

/-- 'laws.FnExactChangeLoad': WHATEVER THE INPUT: true; the input reads as it did. -/
def fnExactChangeLoadSpec : ChangeSpec := { name := "fnExactChangeLoad", fn := fun _ => fun
  | [d1, d2, d3, d4] => { results := [.lit (.bool true)], args := [d1, d2, d3, d4] }
  | _ => none }
def fnExactChangeLoadRow : OpenClaim := { program := "ytfcnajhanjhonaagreat", sum := "8204d492d1a5f678e5b0c39f2149c0d8a013b06a490d73d2989c9839180b70be", func := "loop.example/tabularium/laws.FnExactChangeLoad", spec := "fnExactChangeLoad", unfollowed := true, recurses := true, apart := false }
def FnExactChangeLoadSaid : Prop := fnExactChangeLoadRow.holds Tryz.pinned (OpenSpec.ofChange fnExactChangeLoadSpec)

/-- ITS FALSE NEIGHBOUR: 'it returns false'. Refute it at one input. -/
def fnExactChangeLoadWrong : ChangeSpec := { name := "fnExactChangeLoad", fn := fun _ => fun
  | [d1, d2, d3, d4] => { results := [.lit (.bool false)], args := [d1, d2, d3, d4] }
  | _ => none }
def FnExactChangeLoadWrongFalsely : Prop := fnExactChangeLoadRow.holds Tryz.pinned (OpenSpec.ofChange fnExactChangeLoadWrong)

/-- 'laws.FnLoads': WHATEVER THE INPUT: true; the input reads as it did. -/
def fnLoadsSpec : ChangeSpec := { name := "fnLoads", fn := fun _ => fun
  | [d] => { results := [.lit (.bool true)], args := [d] }
  | _ => none }
def fnLoadsRow : OpenClaim := { program := "ytfcnajhanjhonaagreat", sum := "8204d492d1a5f678e5b0c39f2149c0d8a013b06a490d73d2989c9839180b70be", func := "loop.example/tabularium/laws.FnLoads", spec := "fnLoads", unfollowed := true, recurses := true, apart := false }
def FnLoadsSaid : Prop := fnLoadsRow.holds Tryz.pinned (OpenSpec.ofChange fnLoadsSpec)

/-- ITS FALSE NEIGHBOUR: 'it returns false'. Refute it at one input. -/
def fnLoadsWrong : ChangeSpec := { name := "fnLoads", fn := fun _ => fun
  | [d] => { results := [.lit (.bool false)], args := [d] }
  | _ => none }
def FnLoadsWrongFalsely : Prop := fnLoadsRow.holds Tryz.pinned (OpenSpec.ofChange fnLoadsWrong)

/-- 'laws.FnPutNot': WHATEVER THE INPUT: true; the input reads as it did. -/
def fnPutNotSpec : ChangeSpec := { name := "fnPutNot", fn := fun _ => fun
  | [d] => { results := [.lit (.bool true)], args := [d] }
  | _ => none }
def fnPutNotRow : OpenClaim := { program := "ytfcnajhanjhonaagreat", sum := "8204d492d1a5f678e5b0c39f2149c0d8a013b06a490d73d2989c9839180b70be", func := "loop.example/tabularium/laws.FnPutNot", spec := "fnPutNot", unfollowed := true, recurses := true, apart := false }
def FnPutNotSaid : Prop := fnPutNotRow.holds Tryz.pinned (OpenSpec.ofChange fnPutNotSpec)

/-- ITS FALSE NEIGHBOUR: 'it returns false'. Refute it at one input. -/
def fnPutNotWrong : ChangeSpec := { name := "fnPutNot", fn := fun _ => fun
  | [d] => { results := [.lit (.bool false)], args := [d] }
  | _ => none }
def FnPutNotWrongFalsely : Prop := fnPutNotRow.holds Tryz.pinned (OpenSpec.ofChange fnPutNotWrong)

/-- 'laws.FnLoad': WHATEVER THE INPUT: true; the input reads as it did. -/
def fnLoadSpec : ChangeSpec := { name := "fnLoad", fn := fun _ => fun
  | [d] => { results := [.lit (.bool true)], args := [d] }
  | _ => none }
def fnLoadRow : OpenClaim := { program := "ytfcnajhanjhonaagreat", sum := "8204d492d1a5f678e5b0c39f2149c0d8a013b06a490d73d2989c9839180b70be", func := "loop.example/tabularium/laws.FnLoad", spec := "fnLoad", unfollowed := true, recurses := true, apart := false }
def FnLoadSaid : Prop := fnLoadRow.holds Tryz.pinned (OpenSpec.ofChange fnLoadSpec)

/-- ITS FALSE NEIGHBOUR: 'it returns false'. Refute it at one input. -/
def fnLoadWrong : ChangeSpec := { name := "fnLoad", fn := fun _ => fun
  | [d] => { results := [.lit (.bool false)], args := [d] }
  | _ => none }
def FnLoadWrongFalsely : Prop := fnLoadRow.holds Tryz.pinned (OpenSpec.ofChange fnLoadWrong)

/- THE SECOND FORM. 'bulk': how many values and letters a reading holds, each counted each time it is reached (what is shared counts as often as it is met; a slice's spare places count too). A statement '..UptoSaid' is the law's where the arguments, and the package variables that the reading takes, are together of bulk at most 1048576: NARROWER than '..Said'. Prove '..Said' where nothing that the law and all that it calls make is longer than what came in: it says more and counts as full. Else prove '..UptoSaid'. A law counts once. -/
mutual
def uptoBulk {H : Type} : DataW H → Nat
  | .lit (.string bytes) => bytes.length + 1
  | .lit _ => 1
  | .nil => 1
  | .ptr d => uptoBulk d + 1
  | .slice elems spare => uptoBulkAll elems + uptoBulkAll spare + 1
  | .agg parts => uptoBulkAll parts + 1
  | .iface _ d => uptoBulk d + 1
  | .map entries => uptoBulkEntries entries + 1
  | .held _ => 1
def uptoBulkAll {H : Type} : List (DataW H) → Nat
  | [] => 0
  | d :: r => uptoBulk d + uptoBulkAll r
def uptoBulkEntries {H : Type} : List (Lit × DataW H) → Nat
  | [] => 0
  | x :: r => uptoBulkEntry x + uptoBulkEntries r
def uptoBulkEntry {H : Type} : Lit × DataW H → Nat
  | (.string bytes, d) => bytes.length + uptoBulk d + 1
  | (_, d) => uptoBulk d + 1
 end
def uptoSmall : (H : Type) → List (DataW H) → Bool := fun _ ds => decide (uptoBulkAll ds ≤ 1048576)
def OpenSpec.upto (s : _root_.Go.ChangeSpec) : _root_.Go.OpenSpec := { _root_.Go.OpenSpec.ofChange s with cond := some uptoSmall }

/-- 'laws.FnExactChangeLoad', WHERE WHAT IT READS IS OF BULK AT MOST 1048576: true; the input reads as it did. -/
def fnExactChangeLoadUptoRow : OpenClaim := { program := "ytfcnajhanjhonaagreat", sum := "8204d492d1a5f678e5b0c39f2149c0d8a013b06a490d73d2989c9839180b70be", func := "loop.example/tabularium/laws.FnExactChangeLoad", spec := "fnExactChangeLoad", unfollowed := true, recurses := true, apart := false, narrowed := true }
def FnExactChangeLoadUptoSaid : Prop := fnExactChangeLoadUptoRow.holds Tryz.pinned (OpenSpec.upto fnExactChangeLoadSpec)

/-- 'laws.FnLoads', WHERE WHAT IT READS IS OF BULK AT MOST 1048576: true; the input reads as it did. -/
def fnLoadsUptoRow : OpenClaim := { program := "ytfcnajhanjhonaagreat", sum := "8204d492d1a5f678e5b0c39f2149c0d8a013b06a490d73d2989c9839180b70be", func := "loop.example/tabularium/laws.FnLoads", spec := "fnLoads", unfollowed := true, recurses := true, apart := false, narrowed := true }
def FnLoadsUptoSaid : Prop := fnLoadsUptoRow.holds Tryz.pinned (OpenSpec.upto fnLoadsSpec)

/-- 'laws.FnPutNot', WHERE WHAT IT READS IS OF BULK AT MOST 1048576: true; the input reads as it did. -/
def fnPutNotUptoRow : OpenClaim := { program := "ytfcnajhanjhonaagreat", sum := "8204d492d1a5f678e5b0c39f2149c0d8a013b06a490d73d2989c9839180b70be", func := "loop.example/tabularium/laws.FnPutNot", spec := "fnPutNot", unfollowed := true, recurses := true, apart := false, narrowed := true }
def FnPutNotUptoSaid : Prop := fnPutNotUptoRow.holds Tryz.pinned (OpenSpec.upto fnPutNotSpec)

/-- 'laws.FnLoad', WHERE WHAT IT READS IS OF BULK AT MOST 1048576: true; the input reads as it did. -/
def fnLoadUptoRow : OpenClaim := { program := "ytfcnajhanjhonaagreat", sum := "8204d492d1a5f678e5b0c39f2149c0d8a013b06a490d73d2989c9839180b70be", func := "loop.example/tabularium/laws.FnLoad", spec := "fnLoad", unfollowed := true, recurses := true, apart := false, narrowed := true }
def FnLoadUptoSaid : Prop := fnLoadUptoRow.holds Tryz.pinned (OpenSpec.upto fnLoadSpec)

end Rows
end Go.Proofs.YtfcnajhanjhonaaGreat

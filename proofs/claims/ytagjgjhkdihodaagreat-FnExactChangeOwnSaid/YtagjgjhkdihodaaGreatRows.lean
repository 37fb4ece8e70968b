/-
  No cell of these rows narrows 'for every input' (looked for: loops, veiled, ifaces, maps, wideKeys, modest, calm, conditions, laid).
  DERIVED. THE GIVEN ROWS OF THIS SEAT. 12 by the template 'for every input the law returns true; each argument reads behind the call as it read before'; 0 by the template 'total and deterministic' (their statements: YtagjgjhkdihodaaGreatTotals.lean).
  GIVEN WITH THE SEED: the statements are not yours to turn. If you find one false, say at which input.
  Laid BY PROGRAM, IN A SANDBOX (cutbox-rows.mjs): the forced cells as the released guide's own fill.sh prints them over the translation 4e19cca03e5306d5… (all of the seat's roots in one cut). By AI agents, Wed Nov 11 2026. No macro, syntax, notation, axiom, sorry.
-/
import Derived.Test.YtagjgjhkdihodaaGreatChecked
import GoSem.Claim
import GoSem.ClaimJoined
import GoSem.ClaimMapViews
import Derived.JoinedTies
import Derived.KernelRfl
namespace Go.Proofs.YtagjgjhkdihodaaGreat
/- THE CELL 'sum', in the pinned program and in every row, IS THE sha256 OF THE DUMP (.gsa) THAT YtagjgjhkdihodaaGreatProg.lean LOADS. Nothing in Lean hashes anything: it is a label: what it is worth is what the hold of that sum in a sandbox is worth. -/
noncomputable def Tryz.pinned : Pinned := { name := "ytagjgjhkdihodaagreat", sum := "4e19cca03e5306d562b0e12d72cc9fb0f7326d36598e520cc0aab89f9f8adbd8", checked := Tryz.checked }
namespace Rows
def none {H : Type} : Left H := { results := [], args := [] }

/-- 'laws.FnWrite': WHATEVER THE INPUT: true; the input reads as it did. -/
def fnWriteSpec : ChangeSpec := { name := "fnWrite", fn := fun _ => fun
  | [d] => { results := [.lit (.bool true)], args := [d] }
  | _ => none }
def fnWriteRow : OpenClaim := { program := "ytagjgjhkdihodaagreat", sum := "4e19cca03e5306d562b0e12d72cc9fb0f7326d36598e520cc0aab89f9f8adbd8", func := "loop.example/tabularium/laws.FnWrite", spec := "fnWrite", unfollowed := true, recurses := true, apart := false }
def FnWriteSaid : Prop := fnWriteRow.holds Tryz.pinned (OpenSpec.ofChange fnWriteSpec)

/-- ITS FALSE NEIGHBOUR: 'it returns false'. Refute it at one input. -/
def fnWriteWrong : ChangeSpec := { name := "fnWrite", fn := fun _ => fun
  | [d] => { results := [.lit (.bool false)], args := [d] }
  | _ => none }
def FnWriteWrongFalsely : Prop := fnWriteRow.holds Tryz.pinned (OpenSpec.ofChange fnWriteWrong)

/-- 'laws.FnWriteTwice': WHATEVER THE INPUT: true; the input reads as it did. -/
def fnWriteTwiceSpec : ChangeSpec := { name := "fnWriteTwice", fn := fun _ => fun
  | [d1, d2] => { results := [.lit (.bool true)], args := [d1, d2] }
  | _ => none }
def fnWriteTwiceRow : OpenClaim := { program := "ytagjgjhkdihodaagreat", sum := "4e19cca03e5306d562b0e12d72cc9fb0f7326d36598e520cc0aab89f9f8adbd8", func := "loop.example/tabularium/laws.FnWriteTwice", spec := "fnWriteTwice", unfollowed := true, recurses := true, apart := false }
def FnWriteTwiceSaid : Prop := fnWriteTwiceRow.holds Tryz.pinned (OpenSpec.ofChange fnWriteTwiceSpec)

/-- ITS FALSE NEIGHBOUR: 'it returns false'. Refute it at one input. -/
def fnWriteTwiceWrong : ChangeSpec := { name := "fnWriteTwice", fn := fun _ => fun
  | [d1, d2] => { results := [.lit (.bool false)], args := [d1, d2] }
  | _ => none }
def FnWriteTwiceWrongFalsely : Prop := fnWriteTwiceRow.holds Tryz.pinned (OpenSpec.ofChange fnWriteTwiceWrong)

/-- 'laws.FnDirty': WHATEVER THE INPUT: true; the input reads as it did. -/
def fnDirtySpec : ChangeSpec := { name := "fnDirty", fn := fun _ => fun
  | [d] => { results := [.lit (.bool true)], args := [d] }
  | _ => none }
def fnDirtyRow : OpenClaim := { program := "ytagjgjhkdihodaagreat", sum := "4e19cca03e5306d562b0e12d72cc9fb0f7326d36598e520cc0aab89f9f8adbd8", func := "loop.example/tabularium/laws.FnDirty", spec := "fnDirty", unfollowed := true, recurses := true, apart := false }
def FnDirtySaid : Prop := fnDirtyRow.holds Tryz.pinned (OpenSpec.ofChange fnDirtySpec)

/-- ITS FALSE NEIGHBOUR: 'it returns false'. Refute it at one input. -/
def fnDirtyWrong : ChangeSpec := { name := "fnDirty", fn := fun _ => fun
  | [d] => { results := [.lit (.bool false)], args := [d] }
  | _ => none }
def FnDirtyWrongFalsely : Prop := fnDirtyRow.holds Tryz.pinned (OpenSpec.ofChange fnDirtyWrong)

/-- 'laws.FnLoads': WHATEVER THE INPUT: true; the input reads as it did. -/
def fnLoadsSpec : ChangeSpec := { name := "fnLoads", fn := fun _ => fun
  | [d] => { results := [.lit (.bool true)], args := [d] }
  | _ => none }
def fnLoadsRow : OpenClaim := { program := "ytagjgjhkdihodaagreat", sum := "4e19cca03e5306d562b0e12d72cc9fb0f7326d36598e520cc0aab89f9f8adbd8", func := "loop.example/tabularium/laws.FnLoads", spec := "fnLoads", unfollowed := true, recurses := true, apart := false }
def FnLoadsSaid : Prop := fnLoadsRow.holds Tryz.pinned (OpenSpec.ofChange fnLoadsSpec)

/-- ITS FALSE NEIGHBOUR: 'it returns false'. Refute it at one input. -/
def fnLoadsWrong : ChangeSpec := { name := "fnLoads", fn := fun _ => fun
  | [d] => { results := [.lit (.bool false)], args := [d] }
  | _ => none }
def FnLoadsWrongFalsely : Prop := fnLoadsRow.holds Tryz.pinned (OpenSpec.ofChange fnLoadsWrong)

/-- 'laws.FnExactEndLoads': WHATEVER THE INPUT: true; the input reads as it did. -/
def fnExactEndLoadsSpec : ChangeSpec := { name := "fnExactEndLoads", fn := fun _ => fun
  | [d1, d2] => { results := [.lit (.bool true)], args := [d1, d2] }
  | _ => none }
def fnExactEndLoadsRow : OpenClaim := { program := "ytagjgjhkdihodaagreat", sum := "4e19cca03e5306d562b0e12d72cc9fb0f7326d36598e520cc0aab89f9f8adbd8", func := "loop.example/tabularium/laws.FnExactEndLoads", spec := "fnExactEndLoads", unfollowed := true, recurses := true, apart := false }
def FnExactEndLoadsSaid : Prop := fnExactEndLoadsRow.holds Tryz.pinned (OpenSpec.ofChange fnExactEndLoadsSpec)

/-- ITS FALSE NEIGHBOUR: 'it returns false'. Refute it at one input. -/
def fnExactEndLoadsWrong : ChangeSpec := { name := "fnExactEndLoads", fn := fun _ => fun
  | [d1, d2] => { results := [.lit (.bool false)], args := [d1, d2] }
  | _ => none }
def FnExactEndLoadsWrongFalsely : Prop := fnExactEndLoadsRow.holds Tryz.pinned (OpenSpec.ofChange fnExactEndLoadsWrong)

/-- 'laws.FnExactEngineForce': WHATEVER THE INPUT: true; the input reads as it did. -/
def fnExactEngineForceSpec : ChangeSpec := { name := "fnExactEngineForce", fn := fun _ => fun
  | [d] => { results := [.lit (.bool true)], args := [d] }
  | _ => none }
def fnExactEngineForceRow : OpenClaim := { program := "ytagjgjhkdihodaagreat", sum := "4e19cca03e5306d562b0e12d72cc9fb0f7326d36598e520cc0aab89f9f8adbd8", func := "loop.example/tabularium/laws.FnExactEngineForce", spec := "fnExactEngineForce", unfollowed := true, recurses := true, apart := false }
def FnExactEngineForceSaid : Prop := fnExactEngineForceRow.holds Tryz.pinned (OpenSpec.ofChange fnExactEngineForceSpec)

/-- ITS FALSE NEIGHBOUR: 'it returns false'. Refute it at one input. -/
def fnExactEngineForceWrong : ChangeSpec := { name := "fnExactEngineForce", fn := fun _ => fun
  | [d] => { results := [.lit (.bool false)], args := [d] }
  | _ => none }
def FnExactEngineForceWrongFalsely : Prop := fnExactEngineForceRow.holds Tryz.pinned (OpenSpec.ofChange fnExactEngineForceWrong)

/-- 'laws.FnExactEngineWrite': WHATEVER THE INPUT: true; the input reads as it did. -/
def fnExactEngineWriteSpec : ChangeSpec := { name := "fnExactEngineWrite", fn := fun _ => fun
  | [d1, d2] => { results := [.lit (.bool true)], args := [d1, d2] }
  | _ => none }
def fnExactEngineWriteRow : OpenClaim := { program := "ytagjgjhkdihodaagreat", sum := "4e19cca03e5306d562b0e12d72cc9fb0f7326d36598e520cc0aab89f9f8adbd8", func := "loop.example/tabularium/laws.FnExactEngineWrite", spec := "fnExactEngineWrite", unfollowed := true, recurses := true, apart := false }
def FnExactEngineWriteSaid : Prop := fnExactEngineWriteRow.holds Tryz.pinned (OpenSpec.ofChange fnExactEngineWriteSpec)

/-- ITS FALSE NEIGHBOUR: 'it returns false'. Refute it at one input. -/
def fnExactEngineWriteWrong : ChangeSpec := { name := "fnExactEngineWrite", fn := fun _ => fun
  | [d1, d2] => { results := [.lit (.bool false)], args := [d1, d2] }
  | _ => none }
def FnExactEngineWriteWrongFalsely : Prop := fnExactEngineWriteRow.holds Tryz.pinned (OpenSpec.ofChange fnExactEngineWriteWrong)

/-- 'laws.FnExactEndDone': WHATEVER THE INPUT: true; the input reads as it did. -/
def fnExactEndDoneSpec : ChangeSpec := { name := "fnExactEndDone", fn := fun _ => fun
  | [d1, d2] => { results := [.lit (.bool true)], args := [d1, d2] }
  | _ => none }
def fnExactEndDoneRow : OpenClaim := { program := "ytagjgjhkdihodaagreat", sum := "4e19cca03e5306d562b0e12d72cc9fb0f7326d36598e520cc0aab89f9f8adbd8", func := "loop.example/tabularium/laws.FnExactEndDone", spec := "fnExactEndDone", unfollowed := true, recurses := true, apart := false }
def FnExactEndDoneSaid : Prop := fnExactEndDoneRow.holds Tryz.pinned (OpenSpec.ofChange fnExactEndDoneSpec)

/-- ITS FALSE NEIGHBOUR: 'it returns false'. Refute it at one input. -/
def fnExactEndDoneWrong : ChangeSpec := { name := "fnExactEndDone", fn := fun _ => fun
  | [d1, d2] => { results := [.lit (.bool false)], args := [d1, d2] }
  | _ => none }
def FnExactEndDoneWrongFalsely : Prop := fnExactEndDoneRow.holds Tryz.pinned (OpenSpec.ofChange fnExactEndDoneWrong)

/-- 'laws.FnExactChangeLoad': WHATEVER THE INPUT: true; the input reads as it did. -/
def fnExactChangeLoadSpec : ChangeSpec := { name := "fnExactChangeLoad", fn := fun _ => fun
  | [d1, d2, d3, d4] => { results := [.lit (.bool true)], args := [d1, d2, d3, d4] }
  | _ => none }
def fnExactChangeLoadRow : OpenClaim := { program := "ytagjgjhkdihodaagreat", sum := "4e19cca03e5306d562b0e12d72cc9fb0f7326d36598e520cc0aab89f9f8adbd8", func := "loop.example/tabularium/laws.FnExactChangeLoad", spec := "fnExactChangeLoad", unfollowed := true, recurses := true, apart := false }
def FnExactChangeLoadSaid : Prop := fnExactChangeLoadRow.holds Tryz.pinned (OpenSpec.ofChange fnExactChangeLoadSpec)

/-- ITS FALSE NEIGHBOUR: 'it returns false'. Refute it at one input. -/
def fnExactChangeLoadWrong : ChangeSpec := { name := "fnExactChangeLoad", fn := fun _ => fun
  | [d1, d2, d3, d4] => { results := [.lit (.bool false)], args := [d1, d2, d3, d4] }
  | _ => none }
def FnExactChangeLoadWrongFalsely : Prop := fnExactChangeLoadRow.holds Tryz.pinned (OpenSpec.ofChange fnExactChangeLoadWrong)

/-- 'laws.FnExactChangePut': WHATEVER THE INPUT: true; the input reads as it did. -/
def fnExactChangePutSpec : ChangeSpec := { name := "fnExactChangePut", fn := fun _ => fun
  | [d1, d2, d3, d4, d5] => { results := [.lit (.bool true)], args := [d1, d2, d3, d4, d5] }
  | _ => none }
def fnExactChangePutRow : OpenClaim := { program := "ytagjgjhkdihodaagreat", sum := "4e19cca03e5306d562b0e12d72cc9fb0f7326d36598e520cc0aab89f9f8adbd8", func := "loop.example/tabularium/laws.FnExactChangePut", spec := "fnExactChangePut", unfollowed := true, recurses := true, apart := false }
def FnExactChangePutSaid : Prop := fnExactChangePutRow.holds Tryz.pinned (OpenSpec.ofChange fnExactChangePutSpec)

/-- ITS FALSE NEIGHBOUR: 'it returns false'. Refute it at one input. -/
def fnExactChangePutWrong : ChangeSpec := { name := "fnExactChangePut", fn := fun _ => fun
  | [d1, d2, d3, d4, d5] => { results := [.lit (.bool false)], args := [d1, d2, d3, d4, d5] }
  | _ => none }
def FnExactChangePutWrongFalsely : Prop := fnExactChangePutRow.holds Tryz.pinned (OpenSpec.ofChange fnExactChangePutWrong)

/-- 'laws.FnExactChangeOwn': WHATEVER THE INPUT: true; the input reads as it did. -/
def fnExactChangeOwnSpec : ChangeSpec := { name := "fnExactChangeOwn", fn := fun _ => fun
  | [d1, d2, d3, d4] => { results := [.lit (.bool true)], args := [d1, d2, d3, d4] }
  | _ => none }
def fnExactChangeOwnRow : OpenClaim := { program := "ytagjgjhkdihodaagreat", sum := "4e19cca03e5306d562b0e12d72cc9fb0f7326d36598e520cc0aab89f9f8adbd8", func := "loop.example/tabularium/laws.FnExactChangeOwn", spec := "fnExactChangeOwn", unfollowed := true, recurses := true, apart := false }
def FnExactChangeOwnSaid : Prop := fnExactChangeOwnRow.holds Tryz.pinned (OpenSpec.ofChange fnExactChangeOwnSpec)

/-- ITS FALSE NEIGHBOUR: 'it returns false'. Refute it at one input. -/
def fnExactChangeOwnWrong : ChangeSpec := { name := "fnExactChangeOwn", fn := fun _ => fun
  | [d1, d2, d3, d4] => { results := [.lit (.bool false)], args := [d1, d2, d3, d4] }
  | _ => none }
def FnExactChangeOwnWrongFalsely : Prop := fnExactChangeOwnRow.holds Tryz.pinned (OpenSpec.ofChange fnExactChangeOwnWrong)

/-- 'laws.FnPutNot': WHATEVER THE INPUT: true; the input reads as it did. -/
def fnPutNotSpec : ChangeSpec := { name := "fnPutNot", fn := fun _ => fun
  | [d] => { results := [.lit (.bool true)], args := [d] }
  | _ => none }
def fnPutNotRow : OpenClaim := { program := "ytagjgjhkdihodaagreat", sum := "4e19cca03e5306d562b0e12d72cc9fb0f7326d36598e520cc0aab89f9f8adbd8", func := "loop.example/tabularium/laws.FnPutNot", spec := "fnPutNot", unfollowed := true, recurses := true, apart := false }
def FnPutNotSaid : Prop := fnPutNotRow.holds Tryz.pinned (OpenSpec.ofChange fnPutNotSpec)

/-- ITS FALSE NEIGHBOUR: 'it returns false'. Refute it at one input. -/
def fnPutNotWrong : ChangeSpec := { name := "fnPutNot", fn := fun _ => fun
  | [d] => { results := [.lit (.bool false)], args := [d] }
  | _ => none }
def FnPutNotWrongFalsely : Prop := fnPutNotRow.holds Tryz.pinned (OpenSpec.ofChange fnPutNotWrong)

/- THE SECOND FORM. 'bulk': how many values and letters a reading holds, each counted each time it is reached (what is shared counts as often as it is met; a slice's spare places count too). A statement '..UptoSaid' is the law's where the arguments, and the package variables that the reading takes, are together of bulk at most 1048576: NARROWER than '..Said'. Prove '..Said' where nothing that the law and all that it calls make is longer than what came in: it says more and counts as full. Else prove '..UptoSaid'. A law counts once. -/
mutual
def uptoBulk {H : Type} : DataW H → Nat
  | .lit (.string bytes) => bytes.length + 1
  | .lit _ => 1
  | .nil => 1
  | .ptr d => uptoBulk d + 1
  | .slice elems spare => uptoBulkAll elems + uptoBulkAll spare + 1
  | .agg parts => uptoBulkAll parts + 1
  | .iface _ d => uptoBulk d + 1
  | .map entries => uptoBulkEntries entries + 1
  | .held _ => 1
def uptoBulkAll {H : Type} : List (DataW H) → Nat
  | [] => 0
  | d :: r => uptoBulk d + uptoBulkAll r
def uptoBulkEntries {H : Type} : List (Lit × DataW H) → Nat
  | [] => 0
  | x :: r => uptoBulkEntry x + uptoBulkEntries r
def uptoBulkEntry {H : Type} : Lit × DataW H → Nat
  | (.string bytes, d) => bytes.length + uptoBulk d + 1
  | (_, d) => uptoBulk d + 1
 end
def uptoSmall : (H : Type) → List (DataW H) → Bool := fun _ ds => decide (uptoBulkAll ds ≤ 1048576)
def OpenSpec.upto (s : _root_.Go.ChangeSpec) : _root_.Go.OpenSpec := { _root_.Go.OpenSpec.ofChange s with cond := some uptoSmall }

/-- 'laws.FnWrite', WHERE WHAT IT READS IS OF BULK AT MOST 1048576: true; the input reads as it did. -/
def fnWriteUptoRow : OpenClaim := { program := "ytagjgjhkdihodaagreat", sum := "4e19cca03e5306d562b0e12d72cc9fb0f7326d36598e520cc0aab89f9f8adbd8", func := "loop.example/tabularium/laws.FnWrite", spec := "fnWrite", unfollowed := true, recurses := true, apart := false, narrowed := true }
def FnWriteUptoSaid : Prop := fnWriteUptoRow.holds Tryz.pinned (OpenSpec.upto fnWriteSpec)

/-- 'laws.FnWriteTwice', WHERE WHAT IT READS IS OF BULK AT MOST 1048576: true; the input reads as it did. -/
def fnWriteTwiceUptoRow : OpenClaim := { program := "ytagjgjhkdihodaagreat", sum := "4e19cca03e5306d562b0e12d72cc9fb0f7326d36598e520cc0aab89f9f8adbd8", func := "loop.example/tabularium/laws.FnWriteTwice", spec := "fnWriteTwice", unfollowed := true, recurses := true, apart := false, narrowed := true }
def FnWriteTwiceUptoSaid : Prop := fnWriteTwiceUptoRow.holds Tryz.pinned (OpenSpec.upto fnWriteTwiceSpec)

/-- 'laws.FnDirty', WHERE WHAT IT READS IS OF BULK AT MOST 1048576: true; the input reads as it did. -/
def fnDirtyUptoRow : OpenClaim := { program := "ytagjgjhkdihodaagreat", sum := "4e19cca03e5306d562b0e12d72cc9fb0f7326d36598e520cc0aab89f9f8adbd8", func := "loop.example/tabularium/laws.FnDirty", spec := "fnDirty", unfollowed := true, recurses := true, apart := false, narrowed := true }
def FnDirtyUptoSaid : Prop := fnDirtyUptoRow.holds Tryz.pinned (OpenSpec.upto fnDirtySpec)

/-- 'laws.FnLoads', WHERE WHAT IT READS IS OF BULK AT MOST 1048576: true; the input reads as it did. -/
def fnLoadsUptoRow : OpenClaim := { program := "ytagjgjhkdihodaagreat", sum := "4e19cca03e5306d562b0e12d72cc9fb0f7326d36598e520cc0aab89f9f8adbd8", func := "loop.example/tabularium/laws.FnLoads", spec := "fnLoads", unfollowed := true, recurses := true, apart := false, narrowed := true }
def FnLoadsUptoSaid : Prop := fnLoadsUptoRow.holds Tryz.pinned (OpenSpec.upto fnLoadsSpec)

/-- 'laws.FnExactEndLoads', WHERE WHAT IT READS IS OF BULK AT MOST 1048576: true; the input reads as it did. -/
def fnExactEndLoadsUptoRow : OpenClaim := { program := "ytagjgjhkdihodaagreat", sum := "4e19cca03e5306d562b0e12d72cc9fb0f7326d36598e520cc0aab89f9f8adbd8", func := "loop.example/tabularium/laws.FnExactEndLoads", spec := "fnExactEndLoads", unfollowed := true, recurses := true, apart := false, narrowed := true }
def FnExactEndLoadsUptoSaid : Prop := fnExactEndLoadsUptoRow.holds Tryz.pinned (OpenSpec.upto fnExactEndLoadsSpec)

/-- 'laws.FnExactEngineForce', WHERE WHAT IT READS IS OF BULK AT MOST 1048576: true; the input reads as it did. -/
def fnExactEngineForceUptoRow : OpenClaim := { program := "ytagjgjhkdihodaagreat", sum := "4e19cca03e5306d562b0e12d72cc9fb0f7326d36598e520cc0aab89f9f8adbd8", func := "loop.example/tabularium/laws.FnExactEngineForce", spec := "fnExactEngineForce", unfollowed := true, recurses := true, apart := false, narrowed := true }
def FnExactEngineForceUptoSaid : Prop := fnExactEngineForceUptoRow.holds Tryz.pinned (OpenSpec.upto fnExactEngineForceSpec)

/-- 'laws.FnExactEngineWrite', WHERE WHAT IT READS IS OF BULK AT MOST 1048576: true; the input reads as it did. -/
def fnExactEngineWriteUptoRow : OpenClaim := { program := "ytagjgjhkdihodaagreat", sum := "4e19cca03e5306d562b0e12d72cc9fb0f7326d36598e520cc0aab89f9f8adbd8", func := "loop.example/tabularium/laws.FnExactEngineWrite", spec := "fnExactEngineWrite", unfollowed := true, recurses := true, apart := false, narrowed := true }
def FnExactEngineWriteUptoSaid : Prop := fnExactEngineWriteUptoRow.holds Tryz.pinned (OpenSpec.upto fnExactEngineWriteSpec)

/-- 'laws.FnExactEndDone', WHERE WHAT IT READS IS OF BULK AT MOST 1048576: true; the input reads as it did. -/
def fnExactEndDoneUptoRow : OpenClaim := { program := "ytagjgjhkdihodaagreat", sum := "4e19cca03e5306d562b0e12d72cc9fb0f7326d36598e520cc0aab89f9f8adbd8", func := "loop.example/tabularium/laws.FnExactEndDone", spec := "fnExactEndDone", unfollowed := true, recurses := true, apart := false, narrowed := true }
def FnExactEndDoneUptoSaid : Prop := fnExactEndDoneUptoRow.holds Tryz.pinned (OpenSpec.upto fnExactEndDoneSpec)

/-- 'laws.FnExactChangeLoad', WHERE WHAT IT READS IS OF BULK AT MOST 1048576: true; the input reads as it did. -/
def fnExactChangeLoadUptoRow : OpenClaim := { program := "ytagjgjhkdihodaagreat", sum := "4e19cca03e5306d562b0e12d72cc9fb0f7326d36598e520cc0aab89f9f8adbd8", func := "loop.example/tabularium/laws.FnExactChangeLoad", spec := "fnExactChangeLoad", unfollowed := true, recurses := true, apart := false, narrowed := true }
def FnExactChangeLoadUptoSaid : Prop := fnExactChangeLoadUptoRow.holds Tryz.pinned (OpenSpec.upto fnExactChangeLoadSpec)

/-- 'laws.FnExactChangePut', WHERE WHAT IT READS IS OF BULK AT MOST 1048576: true; the input reads as it did. -/
def fnExactChangePutUptoRow : OpenClaim := { program := "ytagjgjhkdihodaagreat", sum := "4e19cca03e5306d562b0e12d72cc9fb0f7326d36598e520cc0aab89f9f8adbd8", func := "loop.example/tabularium/laws.FnExactChangePut", spec := "fnExactChangePut", unfollowed := true, recurses := true, apart := false, narrowed := true }
def FnExactChangePutUptoSaid : Prop := fnExactChangePutUptoRow.holds Tryz.pinned (OpenSpec.upto fnExactChangePutSpec)

/-- 'laws.FnExactChangeOwn', WHERE WHAT IT READS IS OF BULK AT MOST 1048576: true; the input reads as it did. -/
def fnExactChangeOwnUptoRow : OpenClaim := { program := "ytagjgjhkdihodaagreat", sum := "4e19cca03e5306d562b0e12d72cc9fb0f7326d36598e520cc0aab89f9f8adbd8", func := "loop.example/tabularium/laws.FnExactChangeOwn", spec := "fnExactChangeOwn", unfollowed := true, recurses := true, apart := false, narrowed := true }
def FnExactChangeOwnUptoSaid : Prop := fnExactChangeOwnUptoRow.holds Tryz.pinned (OpenSpec.upto fnExactChangeOwnSpec)

/-- 'laws.FnPutNot', WHERE WHAT IT READS IS OF BULK AT MOST 1048576: true; the input reads as it did. -/
def fnPutNotUptoRow : OpenClaim := { program := "ytagjgjhkdihodaagreat", sum := "4e19cca03e5306d562b0e12d72cc9fb0f7326d36598e520cc0aab89f9f8adbd8", func := "loop.example/tabularium/laws.FnPutNot", spec := "fnPutNot", unfollowed := true, recurses := true, apart := false, narrowed := true }
def FnPutNotUptoSaid : Prop := fnPutNotUptoRow.holds Tryz.pinned (OpenSpec.upto fnPutNotSpec)

end Rows
end Go.Proofs.YtagjgjhkdihodaaGreat

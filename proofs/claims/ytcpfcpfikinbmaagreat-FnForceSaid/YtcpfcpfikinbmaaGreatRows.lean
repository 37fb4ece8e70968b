/-
  No cell of these rows narrows 'for every input' (looked for: loops, veiled, ifaces, maps, wideKeys, modest, calm, conditions, laid).
  DERIVED. THE GIVEN ROWS OF THIS SEAT. 8 by the template 'for every input the law returns true; each argument reads behind the call as it read before'; 0 by the template 'total and deterministic' (their statements: YtcpfcpfikinbmaaGreatTotals.lean).
  GIVEN WITH THE SEED: the statements are not yours to turn. If you find one false, say at which input.
  Laid BY PROGRAM, IN A SANDBOX (cutbox-rows.mjs): the forced cells as the released guide's own fill.sh prints them over the translation 5d8844bb66d28031… (all of the seat's roots in one cut). By AI agents, Wed Nov 11 2026. No macro, syntax, notation, axiom, sorry.
-/
import Derived.Test.YtcpfcpfikinbmaaGreatChecked
import GoSem.Claim
import GoSem.ClaimJoined
import GoSem.ClaimMapViews
import Derived.JoinedTies
import Derived.KernelRfl
namespace Go.Proofs.YtcpfcpfikinbmaaGreat
/- THE CELL 'sum', in the pinned program and in every row, IS THE sha256 OF THE DUMP (.gsa) THAT YtcpfcpfikinbmaaGreatProg.lean LOADS. Nothing in Lean hashes anything: it is a label: what it is worth is what the hold of that sum in a sandbox is worth. -/
noncomputable def Tryz.pinned : Pinned := { name := "ytcpfcpfikinbmaagreat", sum := "5d8844bb66d280310ce9cdefcf9f1d7e2eb34bb5a5b7327ed27eaa40dd0a9116", checked := Tryz.checked }
namespace Rows
def none {H : Type} : Left H := { results := [], args := [] }

/-- 'laws.FnMay': WHATEVER THE INPUT: true; the input reads as it did. -/
def fnMaySpec : ChangeSpec := { name := "fnMay", fn := fun _ => fun
  | [d] => { results := [.lit (.bool true)], args := [d] }
  | _ => none }
def fnMayRow : OpenClaim := { program := "ytcpfcpfikinbmaagreat", sum := "5d8844bb66d280310ce9cdefcf9f1d7e2eb34bb5a5b7327ed27eaa40dd0a9116", func := "loop.example/tabularium/laws.FnMay", spec := "fnMay", unfollowed := true, recurses := true, apart := false }
def FnMaySaid : Prop := fnMayRow.holds Tryz.pinned (OpenSpec.ofChange fnMaySpec)

/-- ITS FALSE NEIGHBOUR: 'it returns false'. Refute it at one input. -/
def fnMayWrong : ChangeSpec := { name := "fnMay", fn := fun _ => fun
  | [d] => { results := [.lit (.bool false)], args := [d] }
  | _ => none }
def FnMayWrongFalsely : Prop := fnMayRow.holds Tryz.pinned (OpenSpec.ofChange fnMayWrong)

/-- 'laws.FnLock': WHATEVER THE INPUT: true; the input reads as it did. -/
def fnLockSpec : ChangeSpec := { name := "fnLock", fn := fun _ => fun
  | [d] => { results := [.lit (.bool true)], args := [d] }
  | _ => none }
def fnLockRow : OpenClaim := { program := "ytcpfcpfikinbmaagreat", sum := "5d8844bb66d280310ce9cdefcf9f1d7e2eb34bb5a5b7327ed27eaa40dd0a9116", func := "loop.example/tabularium/laws.FnLock", spec := "fnLock", unfollowed := true, recurses := true, apart := false }
def FnLockSaid : Prop := fnLockRow.holds Tryz.pinned (OpenSpec.ofChange fnLockSpec)

/-- ITS FALSE NEIGHBOUR: 'it returns false'. Refute it at one input. -/
def fnLockWrong : ChangeSpec := { name := "fnLock", fn := fun _ => fun
  | [d] => { results := [.lit (.bool false)], args := [d] }
  | _ => none }
def FnLockWrongFalsely : Prop := fnLockRow.holds Tryz.pinned (OpenSpec.ofChange fnLockWrong)

/-- 'laws.FnForce': WHATEVER THE INPUT: true; the input reads as it did. -/
def fnForceSpec : ChangeSpec := { name := "fnForce", fn := fun _ => fun
  | [d] => { results := [.lit (.bool true)], args := [d] }
  | _ => none }
def fnForceRow : OpenClaim := { program := "ytcpfcpfikinbmaagreat", sum := "5d8844bb66d280310ce9cdefcf9f1d7e2eb34bb5a5b7327ed27eaa40dd0a9116", func := "loop.example/tabularium/laws.FnForce", spec := "fnForce", unfollowed := true, recurses := true, apart := false }
def FnForceSaid : Prop := fnForceRow.holds Tryz.pinned (OpenSpec.ofChange fnForceSpec)

/-- ITS FALSE NEIGHBOUR: 'it returns false'. Refute it at one input. -/
def fnForceWrong : ChangeSpec := { name := "fnForce", fn := fun _ => fun
  | [d] => { results := [.lit (.bool false)], args := [d] }
  | _ => none }
def FnForceWrongFalsely : Prop := fnForceRow.holds Tryz.pinned (OpenSpec.ofChange fnForceWrong)

/-- 'laws.FnWriteTwice': WHATEVER THE INPUT: true; the input reads as it did. -/
def fnWriteTwiceSpec : ChangeSpec := { name := "fnWriteTwice", fn := fun _ => fun
  | [d1, d2] => { results := [.lit (.bool true)], args := [d1, d2] }
  | _ => none }
def fnWriteTwiceRow : OpenClaim := { program := "ytcpfcpfikinbmaagreat", sum := "5d8844bb66d280310ce9cdefcf9f1d7e2eb34bb5a5b7327ed27eaa40dd0a9116", func := "loop.example/tabularium/laws.FnWriteTwice", spec := "fnWriteTwice", unfollowed := true, recurses := true, apart := false }
def FnWriteTwiceSaid : Prop := fnWriteTwiceRow.holds Tryz.pinned (OpenSpec.ofChange fnWriteTwiceSpec)

/-- ITS FALSE NEIGHBOUR: 'it returns false'. Refute it at one input. -/
def fnWriteTwiceWrong : ChangeSpec := { name := "fnWriteTwice", fn := fun _ => fun
  | [d1, d2] => { results := [.lit (.bool false)], args := [d1, d2] }
  | _ => none }
def FnWriteTwiceWrongFalsely : Prop := fnWriteTwiceRow.holds Tryz.pinned (OpenSpec.ofChange fnWriteTwiceWrong)

/-- 'laws.FnDirty': WHATEVER THE INPUT: true; the input reads as it did. -/
def fnDirtySpec : ChangeSpec := { name := "fnDirty", fn := fun _ => fun
  | [d] => { results := [.lit (.bool true)], args := [d] }
  | _ => none }
def fnDirtyRow : OpenClaim := { program := "ytcpfcpfikinbmaagreat", sum := "5d8844bb66d280310ce9cdefcf9f1d7e2eb34bb5a5b7327ed27eaa40dd0a9116", func := "loop.example/tabularium/laws.FnDirty", spec := "fnDirty", unfollowed := true, recurses := true, apart := false }
def FnDirtySaid : Prop := fnDirtyRow.holds Tryz.pinned (OpenSpec.ofChange fnDirtySpec)

/-- ITS FALSE NEIGHBOUR: 'it returns false'. Refute it at one input. -/
def fnDirtyWrong : ChangeSpec := { name := "fnDirty", fn := fun _ => fun
  | [d] => { results := [.lit (.bool false)], args := [d] }
  | _ => none }
def FnDirtyWrongFalsely : Prop := fnDirtyRow.holds Tryz.pinned (OpenSpec.ofChange fnDirtyWrong)

/-- 'laws.FnWrite': WHATEVER THE INPUT: true; the input reads as it did. -/
def fnWriteSpec : ChangeSpec := { name := "fnWrite", fn := fun _ => fun
  | [d] => { results := [.lit (.bool true)], args := [d] }
  | _ => none }
def fnWriteRow : OpenClaim := { program := "ytcpfcpfikinbmaagreat", sum := "5d8844bb66d280310ce9cdefcf9f1d7e2eb34bb5a5b7327ed27eaa40dd0a9116", func := "loop.example/tabularium/laws.FnWrite", spec := "fnWrite", unfollowed := true, recurses := true, apart := false }
def FnWriteSaid : Prop := fnWriteRow.holds Tryz.pinned (OpenSpec.ofChange fnWriteSpec)

/-- ITS FALSE NEIGHBOUR: 'it returns false'. Refute it at one input. -/
def fnWriteWrong : ChangeSpec := { name := "fnWrite", fn := fun _ => fun
  | [d] => { results := [.lit (.bool false)], args := [d] }
  | _ => none }
def FnWriteWrongFalsely : Prop := fnWriteRow.holds Tryz.pinned (OpenSpec.ofChange fnWriteWrong)

/-- 'laws.FnLoads': WHATEVER THE INPUT: true; the input reads as it did. -/
def fnLoadsSpec : ChangeSpec := { name := "fnLoads", fn := fun _ => fun
  | [d] => { results := [.lit (.bool true)], args := [d] }
  | _ => none }
def fnLoadsRow : OpenClaim := { program := "ytcpfcpfikinbmaagreat", sum := "5d8844bb66d280310ce9cdefcf9f1d7e2eb34bb5a5b7327ed27eaa40dd0a9116", func := "loop.example/tabularium/laws.FnLoads", spec := "fnLoads", unfollowed := true, recurses := true, apart := false }
def FnLoadsSaid : Prop := fnLoadsRow.holds Tryz.pinned (OpenSpec.ofChange fnLoadsSpec)

/-- ITS FALSE NEIGHBOUR: 'it returns false'. Refute it at one input. -/
def fnLoadsWrong : ChangeSpec := { name := "fnLoads", fn := fun _ => fun
  | [d] => { results := [.lit (.bool false)], args := [d] }
  | _ => none }
def FnLoadsWrongFalsely : Prop := fnLoadsRow.holds Tryz.pinned (OpenSpec.ofChange fnLoadsWrong)

/-- 'laws.FnPutNot': WHATEVER THE INPUT: true; the input reads as it did. -/
def fnPutNotSpec : ChangeSpec := { name := "fnPutNot", fn := fun _ => fun
  | [d] => { results := [.lit (.bool true)], args := [d] }
  | _ => none }
def fnPutNotRow : OpenClaim := { program := "ytcpfcpfikinbmaagreat", sum := "5d8844bb66d280310ce9cdefcf9f1d7e2eb34bb5a5b7327ed27eaa40dd0a9116", func := "loop.example/tabularium/laws.FnPutNot", spec := "fnPutNot", unfollowed := true, recurses := true, apart := false }
def FnPutNotSaid : Prop := fnPutNotRow.holds Tryz.pinned (OpenSpec.ofChange fnPutNotSpec)

/-- ITS FALSE NEIGHBOUR: 'it returns false'. Refute it at one input. -/
def fnPutNotWrong : ChangeSpec := { name := "fnPutNot", fn := fun _ => fun
  | [d] => { results := [.lit (.bool false)], args := [d] }
  | _ => none }
def FnPutNotWrongFalsely : Prop := fnPutNotRow.holds Tryz.pinned (OpenSpec.ofChange fnPutNotWrong)

/- THE SECOND FORM. 'bulk': how many values and letters a reading holds, each counted each time it is reached (what is shared counts as often as it is met; a slice's spare places count too). A statement '..UptoSaid' is the law's where the arguments, and the package variables that the reading takes, are together of bulk at most 1048576: NARROWER than '..Said'. Prove '..Said' where nothing that the law and all that it calls make is longer than what came in: it says more and counts as full. Else prove '..UptoSaid'. A law counts once. -/
mutual
def uptoBulk {H : Type} : DataW H → Nat
  | .lit (.string bytes) => bytes.length + 1
  | .lit _ => 1
  | .nil => 1
  | .ptr d => uptoBulk d + 1
  | .slice elems spare => uptoBulkAll elems + uptoBulkAll spare + 1
  | .agg parts => uptoBulkAll parts + 1
  | .iface _ d => uptoBulk d + 1
  | .map entries => uptoBulkEntries entries + 1
  | .held _ => 1
def uptoBulkAll {H : Type} : List (DataW H) → Nat
  | [] => 0
  | d :: r => uptoBulk d + uptoBulkAll r
def uptoBulkEntries {H : Type} : List (Lit × DataW H) → Nat
  | [] => 0
  | x :: r => uptoBulkEntry x + uptoBulkEntries r
def uptoBulkEntry {H : Type} : Lit × DataW H → Nat
  | (.string bytes, d) => bytes.length + uptoBulk d + 1
  | (_, d) => uptoBulk d + 1
 end
def uptoSmall : (H : Type) → List (DataW H) → Bool := fun _ ds => decide (uptoBulkAll ds ≤ 1048576)
def OpenSpec.upto (s : _root_.Go.ChangeSpec) : _root_.Go.OpenSpec := { _root_.Go.OpenSpec.ofChange s with cond := some uptoSmall }

/-- 'laws.FnMay', WHERE WHAT IT READS IS OF BULK AT MOST 1048576: true; the input reads as it did. -/
def fnMayUptoRow : OpenClaim := { program := "ytcpfcpfikinbmaagreat", sum := "5d8844bb66d280310ce9cdefcf9f1d7e2eb34bb5a5b7327ed27eaa40dd0a9116", func := "loop.example/tabularium/laws.FnMay", spec := "fnMay", unfollowed := true, recurses := true, apart := false, narrowed := true }
def FnMayUptoSaid : Prop := fnMayUptoRow.holds Tryz.pinned (OpenSpec.upto fnMaySpec)

/-- 'laws.FnLock', WHERE WHAT IT READS IS OF BULK AT MOST 1048576: true; the input reads as it did. -/
def fnLockUptoRow : OpenClaim := { program := "ytcpfcpfikinbmaagreat", sum := "5d8844bb66d280310ce9cdefcf9f1d7e2eb34bb5a5b7327ed27eaa40dd0a9116", func := "loop.example/tabularium/laws.FnLock", spec := "fnLock", unfollowed := true, recurses := true, apart := false, narrowed := true }
def FnLockUptoSaid : Prop := fnLockUptoRow.holds Tryz.pinned (OpenSpec.upto fnLockSpec)

/-- 'laws.FnForce', WHERE WHAT IT READS IS OF BULK AT MOST 1048576: true; the input reads as it did. -/
def fnForceUptoRow : OpenClaim := { program := "ytcpfcpfikinbmaagreat", sum := "5d8844bb66d280310ce9cdefcf9f1d7e2eb34bb5a5b7327ed27eaa40dd0a9116", func := "loop.example/tabularium/laws.FnForce", spec := "fnForce", unfollowed := true, recurses := true, apart := false, narrowed := true }
def FnForceUptoSaid : Prop := fnForceUptoRow.holds Tryz.pinned (OpenSpec.upto fnForceSpec)

/-- 'laws.FnWriteTwice', WHERE WHAT IT READS IS OF BULK AT MOST 1048576: true; the input reads as it did. -/
def fnWriteTwiceUptoRow : OpenClaim := { program := "ytcpfcpfikinbmaagreat", sum := "5d8844bb66d280310ce9cdefcf9f1d7e2eb34bb5a5b7327ed27eaa40dd0a9116", func := "loop.example/tabularium/laws.FnWriteTwice", spec := "fnWriteTwice", unfollowed := true, recurses := true, apart := false, narrowed := true }
def FnWriteTwiceUptoSaid : Prop := fnWriteTwiceUptoRow.holds Tryz.pinned (OpenSpec.upto fnWriteTwiceSpec)

/-- 'laws.FnDirty', WHERE WHAT IT READS IS OF BULK AT MOST 1048576: true; the input reads as it did. -/
def fnDirtyUptoRow : OpenClaim := { program := "ytcpfcpfikinbmaagreat", sum := "5d8844bb66d280310ce9cdefcf9f1d7e2eb34bb5a5b7327ed27eaa40dd0a9116", func := "loop.example/tabularium/laws.FnDirty", spec := "fnDirty", unfollowed := true, recurses := true, apart := false, narrowed := true }
def FnDirtyUptoSaid : Prop := fnDirtyUptoRow.holds Tryz.pinned (OpenSpec.upto fnDirtySpec)

/-- 'laws.FnWrite', WHERE WHAT IT READS IS OF BULK AT MOST 1048576: true; the input reads as it did. -/
def fnWriteUptoRow : OpenClaim := { program := "ytcpfcpfikinbmaagreat", sum := "5d8844bb66d280310ce9cdefcf9f1d7e2eb34bb5a5b7327ed27eaa40dd0a9116", func := "loop.example/tabularium/laws.FnWrite", spec := "fnWrite", unfollowed := true, recurses := true, apart := false, narrowed := true }
def FnWriteUptoSaid : Prop := fnWriteUptoRow.holds Tryz.pinned (OpenSpec.upto fnWriteSpec)

/-- 'laws.FnLoads', WHERE WHAT IT READS IS OF BULK AT MOST 1048576: true; the input reads as it did. -/
def fnLoadsUptoRow : OpenClaim := { program := "ytcpfcpfikinbmaagreat", sum := "5d8844bb66d280310ce9cdefcf9f1d7e2eb34bb5a5b7327ed27eaa40dd0a9116", func := "loop.example/tabularium/laws.FnLoads", spec := "fnLoads", unfollowed := true, recurses := true, apart := false, narrowed := true }
def FnLoadsUptoSaid : Prop := fnLoadsUptoRow.holds Tryz.pinned (OpenSpec.upto fnLoadsSpec)

/-- 'laws.FnPutNot', WHERE WHAT IT READS IS OF BULK AT MOST 1048576: true; the input reads as it did. -/
def fnPutNotUptoRow : OpenClaim := { program := "ytcpfcpfikinbmaagreat", sum := "5d8844bb66d280310ce9cdefcf9f1d7e2eb34bb5a5b7327ed27eaa40dd0a9116", func := "loop.example/tabularium/laws.FnPutNot", spec := "fnPutNot", unfollowed := true, recurses := true, apart := false, narrowed := true }
def FnPutNotUptoSaid : Prop := fnPutNotUptoRow.holds Tryz.pinned (OpenSpec.upto fnPutNotSpec)

end Rows
end Go.Proofs.YtcpfcpfikinbmaaGreat

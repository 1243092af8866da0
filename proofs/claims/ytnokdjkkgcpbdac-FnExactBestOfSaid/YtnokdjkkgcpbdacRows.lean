/-
  No cell of these rows narrows 'for every input' (looked for: loops, veiled, ifaces, maps, wideKeys, modest, calm, conditions, laid).
  DERIVED. THE GIVEN ROWS OF THIS SEAT. 12 by the template 'for every input the law returns true; each argument reads behind the call as it read before'; 0 by the template 'total and deterministic' (their statements: YtnokdjkkgcpbdacTotals.lean).
  GIVEN WITH THE SEED: the statements are not yours to turn. If you find one false, say at which input.
  Laid BY PROGRAM, IN A SANDBOX (cutbox-rows.mjs): the forced cells as the released guide's own fill.sh prints them over the translation af0e083ec189ec43… (all of the seat's roots in one cut). By AI agents, Wed Nov 11 2026. No macro, syntax, notation, axiom, sorry.
-/
import Derived.Test.YtnokdjkkgcpbdacChecked
import GoSem.Claim
import GoSem.ClaimJoined
import GoSem.ClaimMapViews
import Derived.JoinedTies
import Derived.KernelRfl
namespace Go.Proofs.Ytnokdjkkgcpbdac
/- THE CELL 'sum', in the pinned program and in every row, IS THE sha256 OF THE DUMP (.gsa) THAT YtnokdjkkgcpbdacProg.lean LOADS. Nothing in Lean hashes anything: it is a label: what it is worth is what the hold of that sum in a sandbox is worth. -/
noncomputable def Try.pinned : Pinned := { name := "ytnokdjkkgcpbdac", sum := "af0e083ec189ec434d37ac2b4e37f0196cb0c85f071544b785152675ea902e5c", checked := Try.checked }
namespace Rows
def none {H : Type} : Left H := { results := [], args := [] }

/-- 'laws.FnInClass': WHATEVER THE INPUT: true; the input reads as it did. -/
def fnInClassSpec : ChangeSpec := { name := "fnInClass", fn := fun _ => fun
  | [d] => { results := [.lit (.bool true)], args := [d] }
  | _ => none }
def fnInClassRow : OpenClaim := { program := "ytnokdjkkgcpbdac", sum := "af0e083ec189ec434d37ac2b4e37f0196cb0c85f071544b785152675ea902e5c", func := "loop.example/g00185/laws.FnInClass", spec := "fnInClass", apart := false }
def FnInClassSaid : Prop := fnInClassRow.holds Try.pinned (OpenSpec.ofChange fnInClassSpec)

/-- ITS FALSE NEIGHBOUR: 'it returns false'. Refute it at one input. -/
def fnInClassWrong : ChangeSpec := { name := "fnInClass", fn := fun _ => fun
  | [d] => { results := [.lit (.bool false)], args := [d] }
  | _ => none }
def FnInClassWrongFalsely : Prop := fnInClassRow.holds Try.pinned (OpenSpec.ofChange fnInClassWrong)

/-- 'laws.FnFairSteps': WHATEVER THE INPUT: true; the input reads as it did. -/
def fnFairStepsSpec : ChangeSpec := { name := "fnFairSteps", fn := fun _ => fun
  | [d] => { results := [.lit (.bool true)], args := [d] }
  | _ => none }
def fnFairStepsRow : OpenClaim := { program := "ytnokdjkkgcpbdac", sum := "af0e083ec189ec434d37ac2b4e37f0196cb0c85f071544b785152675ea902e5c", func := "loop.example/g00185/laws.FnFairSteps", spec := "fnFairSteps", apart := false }
def FnFairStepsSaid : Prop := fnFairStepsRow.holds Try.pinned (OpenSpec.ofChange fnFairStepsSpec)

/-- ITS FALSE NEIGHBOUR: 'it returns false'. Refute it at one input. -/
def fnFairStepsWrong : ChangeSpec := { name := "fnFairSteps", fn := fun _ => fun
  | [d] => { results := [.lit (.bool false)], args := [d] }
  | _ => none }
def FnFairStepsWrongFalsely : Prop := fnFairStepsRow.holds Try.pinned (OpenSpec.ofChange fnFairStepsWrong)

/-- 'laws.FnFloor': WHATEVER THE INPUT: true; the input reads as it did. -/
def fnFloorSpec : ChangeSpec := { name := "fnFloor", fn := fun _ => fun
  | [d] => { results := [.lit (.bool true)], args := [d] }
  | _ => none }
def fnFloorRow : OpenClaim := { program := "ytnokdjkkgcpbdac", sum := "af0e083ec189ec434d37ac2b4e37f0196cb0c85f071544b785152675ea902e5c", func := "loop.example/g00185/laws.FnFloor", spec := "fnFloor", apart := false }
def FnFloorSaid : Prop := fnFloorRow.holds Try.pinned (OpenSpec.ofChange fnFloorSpec)

/-- ITS FALSE NEIGHBOUR: 'it returns false'. Refute it at one input. -/
def fnFloorWrong : ChangeSpec := { name := "fnFloor", fn := fun _ => fun
  | [d] => { results := [.lit (.bool false)], args := [d] }
  | _ => none }
def FnFloorWrongFalsely : Prop := fnFloorRow.holds Try.pinned (OpenSpec.ofChange fnFloorWrong)

/-- 'laws.FnExactSumOf': WHATEVER THE INPUT: true; the input reads as it did. -/
def fnExactSumOfSpec : ChangeSpec := { name := "fnExactSumOf", fn := fun _ => fun
  | [d] => { results := [.lit (.bool true)], args := [d] }
  | _ => none }
def fnExactSumOfRow : OpenClaim := { program := "ytnokdjkkgcpbdac", sum := "af0e083ec189ec434d37ac2b4e37f0196cb0c85f071544b785152675ea902e5c", func := "loop.example/g00185/laws.FnExactSumOf", spec := "fnExactSumOf", unfollowed := true, recurses := true, apart := false }
def FnExactSumOfSaid : Prop := fnExactSumOfRow.holds Try.pinned (OpenSpec.ofChange fnExactSumOfSpec)

/-- ITS FALSE NEIGHBOUR: 'it returns false'. Refute it at one input. -/
def fnExactSumOfWrong : ChangeSpec := { name := "fnExactSumOf", fn := fun _ => fun
  | [d] => { results := [.lit (.bool false)], args := [d] }
  | _ => none }
def FnExactSumOfWrongFalsely : Prop := fnExactSumOfRow.holds Try.pinned (OpenSpec.ofChange fnExactSumOfWrong)

/-- 'laws.FnExactFits': WHATEVER THE INPUT: true; the input reads as it did. -/
def fnExactFitsSpec : ChangeSpec := { name := "fnExactFits", fn := fun _ => fun
  | [d] => { results := [.lit (.bool true)], args := [d] }
  | _ => none }
def fnExactFitsRow : OpenClaim := { program := "ytnokdjkkgcpbdac", sum := "af0e083ec189ec434d37ac2b4e37f0196cb0c85f071544b785152675ea902e5c", func := "loop.example/g00185/laws.FnExactFits", spec := "fnExactFits", unfollowed := true, recurses := true, apart := false }
def FnExactFitsSaid : Prop := fnExactFitsRow.holds Try.pinned (OpenSpec.ofChange fnExactFitsSpec)

/-- ITS FALSE NEIGHBOUR: 'it returns false'. Refute it at one input. -/
def fnExactFitsWrong : ChangeSpec := { name := "fnExactFits", fn := fun _ => fun
  | [d] => { results := [.lit (.bool false)], args := [d] }
  | _ => none }
def FnExactFitsWrongFalsely : Prop := fnExactFitsRow.holds Try.pinned (OpenSpec.ofChange fnExactFitsWrong)

/-- 'laws.FnOrder': WHATEVER THE INPUT: true; the input reads as it did. -/
def fnOrderSpec : ChangeSpec := { name := "fnOrder", fn := fun _ => fun
  | [d] => { results := [.lit (.bool true)], args := [d] }
  | _ => none }
def fnOrderRow : OpenClaim := { program := "ytnokdjkkgcpbdac", sum := "af0e083ec189ec434d37ac2b4e37f0196cb0c85f071544b785152675ea902e5c", func := "loop.example/g00185/laws.FnOrder", spec := "fnOrder", unfollowed := true, recurses := true, apart := false }
def FnOrderSaid : Prop := fnOrderRow.holds Try.pinned (OpenSpec.ofChange fnOrderSpec)

/-- ITS FALSE NEIGHBOUR: 'it returns false'. Refute it at one input. -/
def fnOrderWrong : ChangeSpec := { name := "fnOrder", fn := fun _ => fun
  | [d] => { results := [.lit (.bool false)], args := [d] }
  | _ => none }
def FnOrderWrongFalsely : Prop := fnOrderRow.holds Try.pinned (OpenSpec.ofChange fnOrderWrong)

/-- 'laws.FnShares': WHATEVER THE INPUT: true; the input reads as it did. -/
def fnSharesSpec : ChangeSpec := { name := "fnShares", fn := fun _ => fun
  | [d] => { results := [.lit (.bool true)], args := [d] }
  | _ => none }
def fnSharesRow : OpenClaim := { program := "ytnokdjkkgcpbdac", sum := "af0e083ec189ec434d37ac2b4e37f0196cb0c85f071544b785152675ea902e5c", func := "loop.example/g00185/laws.FnShares", spec := "fnShares", unfollowed := true, recurses := true, apart := false }
def FnSharesSaid : Prop := fnSharesRow.holds Try.pinned (OpenSpec.ofChange fnSharesSpec)

/-- ITS FALSE NEIGHBOUR: 'it returns false'. Refute it at one input. -/
def fnSharesWrong : ChangeSpec := { name := "fnShares", fn := fun _ => fun
  | [d] => { results := [.lit (.bool false)], args := [d] }
  | _ => none }
def FnSharesWrongFalsely : Prop := fnSharesRow.holds Try.pinned (OpenSpec.ofChange fnSharesWrong)

/-- 'laws.FnExactTaskAt': WHATEVER THE INPUT: true; the input reads as it did. -/
def fnExactTaskAtSpec : ChangeSpec := { name := "fnExactTaskAt", fn := fun _ => fun
  | [d1, d2] => { results := [.lit (.bool true)], args := [d1, d2] }
  | _ => none }
def fnExactTaskAtRow : OpenClaim := { program := "ytnokdjkkgcpbdac", sum := "af0e083ec189ec434d37ac2b4e37f0196cb0c85f071544b785152675ea902e5c", func := "loop.example/g00185/laws.FnExactTaskAt", spec := "fnExactTaskAt", unfollowed := true, recurses := true, apart := false }
def FnExactTaskAtSaid : Prop := fnExactTaskAtRow.holds Try.pinned (OpenSpec.ofChange fnExactTaskAtSpec)

/-- ITS FALSE NEIGHBOUR: 'it returns false'. Refute it at one input. -/
def fnExactTaskAtWrong : ChangeSpec := { name := "fnExactTaskAt", fn := fun _ => fun
  | [d1, d2] => { results := [.lit (.bool false)], args := [d1, d2] }
  | _ => none }
def FnExactTaskAtWrongFalsely : Prop := fnExactTaskAtRow.holds Try.pinned (OpenSpec.ofChange fnExactTaskAtWrong)

/-- 'laws.FnExactTaskPut': WHATEVER THE INPUT: true; the input reads as it did. -/
def fnExactTaskPutSpec : ChangeSpec := { name := "fnExactTaskPut", fn := fun _ => fun
  | [d1, d2] => { results := [.lit (.bool true)], args := [d1, d2] }
  | _ => none }
def fnExactTaskPutRow : OpenClaim := { program := "ytnokdjkkgcpbdac", sum := "af0e083ec189ec434d37ac2b4e37f0196cb0c85f071544b785152675ea902e5c", func := "loop.example/g00185/laws.FnExactTaskPut", spec := "fnExactTaskPut", inPlace := ["slices.overlaps[loop.example/g00185/impl.Task]"], apart := false }
def FnExactTaskPutSaid : Prop := fnExactTaskPutRow.holds Try.pinned (OpenSpec.ofChange fnExactTaskPutSpec)

/-- ITS FALSE NEIGHBOUR: 'it returns false'. Refute it at one input. -/
def fnExactTaskPutWrong : ChangeSpec := { name := "fnExactTaskPut", fn := fun _ => fun
  | [d1, d2] => { results := [.lit (.bool false)], args := [d1, d2] }
  | _ => none }
def FnExactTaskPutWrongFalsely : Prop := fnExactTaskPutRow.holds Try.pinned (OpenSpec.ofChange fnExactTaskPutWrong)

/-- 'laws.FnTasks': WHATEVER THE INPUT: true; the input reads as it did. -/
def fnTasksSpec : ChangeSpec := { name := "fnTasks", fn := fun _ => fun
  | [d] => { results := [.lit (.bool true)], args := [d] }
  | _ => none }
def fnTasksRow : OpenClaim := { program := "ytnokdjkkgcpbdac", sum := "af0e083ec189ec434d37ac2b4e37f0196cb0c85f071544b785152675ea902e5c", func := "loop.example/g00185/laws.FnTasks", spec := "fnTasks", inPlace := ["slices.overlaps[loop.example/g00185/impl.Task]"], unfollowed := true, recurses := true, apart := false }
def FnTasksSaid : Prop := fnTasksRow.holds Try.pinned (OpenSpec.ofChange fnTasksSpec)

/-- ITS FALSE NEIGHBOUR: 'it returns false'. Refute it at one input. -/
def fnTasksWrong : ChangeSpec := { name := "fnTasks", fn := fun _ => fun
  | [d] => { results := [.lit (.bool false)], args := [d] }
  | _ => none }
def FnTasksWrongFalsely : Prop := fnTasksRow.holds Try.pinned (OpenSpec.ofChange fnTasksWrong)

/-- 'laws.FnExactBestOf': WHATEVER THE INPUT: true; the input reads as it did. -/
def fnExactBestOfSpec : ChangeSpec := { name := "fnExactBestOf", fn := fun _ => fun
  | [d1, d2] => { results := [.lit (.bool true)], args := [d1, d2] }
  | _ => none }
def fnExactBestOfRow : OpenClaim := { program := "ytnokdjkkgcpbdac", sum := "af0e083ec189ec434d37ac2b4e37f0196cb0c85f071544b785152675ea902e5c", func := "loop.example/g00185/laws.FnExactBestOf", spec := "fnExactBestOf", unfollowed := true, recurses := true, apart := false }
def FnExactBestOfSaid : Prop := fnExactBestOfRow.holds Try.pinned (OpenSpec.ofChange fnExactBestOfSpec)

/-- ITS FALSE NEIGHBOUR: 'it returns false'. Refute it at one input. -/
def fnExactBestOfWrong : ChangeSpec := { name := "fnExactBestOf", fn := fun _ => fun
  | [d1, d2] => { results := [.lit (.bool false)], args := [d1, d2] }
  | _ => none }
def FnExactBestOfWrongFalsely : Prop := fnExactBestOfRow.holds Try.pinned (OpenSpec.ofChange fnExactBestOfWrong)

/-- 'laws.FnBest': WHATEVER THE INPUT: true; the input reads as it did. -/
def fnBestSpec : ChangeSpec := { name := "fnBest", fn := fun _ => fun
  | [d] => { results := [.lit (.bool true)], args := [d] }
  | _ => none }
def fnBestRow : OpenClaim := { program := "ytnokdjkkgcpbdac", sum := "af0e083ec189ec434d37ac2b4e37f0196cb0c85f071544b785152675ea902e5c", func := "loop.example/g00185/laws.FnBest", spec := "fnBest", unfollowed := true, recurses := true, apart := false }
def FnBestSaid : Prop := fnBestRow.holds Try.pinned (OpenSpec.ofChange fnBestSpec)

/-- ITS FALSE NEIGHBOUR: 'it returns false'. Refute it at one input. -/
def fnBestWrong : ChangeSpec := { name := "fnBest", fn := fun _ => fun
  | [d] => { results := [.lit (.bool false)], args := [d] }
  | _ => none }
def FnBestWrongFalsely : Prop := fnBestRow.holds Try.pinned (OpenSpec.ofChange fnBestWrong)

/- THE SECOND FORM. 'bulk': how many values and letters a reading holds, each counted each time it is reached (what is shared counts as often as it is met; a slice's spare places count too). A statement '..UptoSaid' is the law's where the arguments, and the package variables that the reading takes, are together of bulk at most 1048576: NARROWER than '..Said'. Prove '..Said' where nothing that the law and all that it calls make is longer than what came in: it says more and counts as full. Else prove '..UptoSaid'. A law counts once. -/
mutual
def uptoBulk {H : Type} : DataW H → Nat
  | .lit (.string bytes) => bytes.length + 1
  | .lit _ => 1
  | .nil => 1
  | .ptr d => uptoBulk d + 1
  | .slice elems spare => uptoBulkAll elems + uptoBulkAll spare + 1
  | .agg parts => uptoBulkAll parts + 1
  | .iface _ d => uptoBulk d + 1
  | .map entries => uptoBulkEntries entries + 1
  | .held _ => 1
def uptoBulkAll {H : Type} : List (DataW H) → Nat
  | [] => 0
  | d :: r => uptoBulk d + uptoBulkAll r
def uptoBulkEntries {H : Type} : List (Lit × DataW H) → Nat
  | [] => 0
  | x :: r => uptoBulkEntry x + uptoBulkEntries r
def uptoBulkEntry {H : Type} : Lit × DataW H → Nat
  | (.string bytes, d) => bytes.length + uptoBulk d + 1
  | (_, d) => uptoBulk d + 1
 end
def uptoSmall : (H : Type) → List (DataW H) → Bool := fun _ ds => decide (uptoBulkAll ds ≤ 1048576)
def OpenSpec.upto (s : _root_.Go.ChangeSpec) : _root_.Go.OpenSpec := { _root_.Go.OpenSpec.ofChange s with cond := some uptoSmall }

/-- 'laws.FnInClass', WHERE WHAT IT READS IS OF BULK AT MOST 1048576: true; the input reads as it did. -/
def fnInClassUptoRow : OpenClaim := { program := "ytnokdjkkgcpbdac", sum := "af0e083ec189ec434d37ac2b4e37f0196cb0c85f071544b785152675ea902e5c", func := "loop.example/g00185/laws.FnInClass", spec := "fnInClass", apart := false, narrowed := true }
def FnInClassUptoSaid : Prop := fnInClassUptoRow.holds Try.pinned (OpenSpec.upto fnInClassSpec)

/-- 'laws.FnFairSteps', WHERE WHAT IT READS IS OF BULK AT MOST 1048576: true; the input reads as it did. -/
def fnFairStepsUptoRow : OpenClaim := { program := "ytnokdjkkgcpbdac", sum := "af0e083ec189ec434d37ac2b4e37f0196cb0c85f071544b785152675ea902e5c", func := "loop.example/g00185/laws.FnFairSteps", spec := "fnFairSteps", apart := false, narrowed := true }
def FnFairStepsUptoSaid : Prop := fnFairStepsUptoRow.holds Try.pinned (OpenSpec.upto fnFairStepsSpec)

/-- 'laws.FnFloor', WHERE WHAT IT READS IS OF BULK AT MOST 1048576: true; the input reads as it did. -/
def fnFloorUptoRow : OpenClaim := { program := "ytnokdjkkgcpbdac", sum := "af0e083ec189ec434d37ac2b4e37f0196cb0c85f071544b785152675ea902e5c", func := "loop.example/g00185/laws.FnFloor", spec := "fnFloor", apart := false, narrowed := true }
def FnFloorUptoSaid : Prop := fnFloorUptoRow.holds Try.pinned (OpenSpec.upto fnFloorSpec)

/-- 'laws.FnExactSumOf', WHERE WHAT IT READS IS OF BULK AT MOST 1048576: true; the input reads as it did. -/
def fnExactSumOfUptoRow : OpenClaim := { program := "ytnokdjkkgcpbdac", sum := "af0e083ec189ec434d37ac2b4e37f0196cb0c85f071544b785152675ea902e5c", func := "loop.example/g00185/laws.FnExactSumOf", spec := "fnExactSumOf", unfollowed := true, recurses := true, apart := false, narrowed := true }
def FnExactSumOfUptoSaid : Prop := fnExactSumOfUptoRow.holds Try.pinned (OpenSpec.upto fnExactSumOfSpec)

/-- 'laws.FnExactFits', WHERE WHAT IT READS IS OF BULK AT MOST 1048576: true; the input reads as it did. -/
def fnExactFitsUptoRow : OpenClaim := { program := "ytnokdjkkgcpbdac", sum := "af0e083ec189ec434d37ac2b4e37f0196cb0c85f071544b785152675ea902e5c", func := "loop.example/g00185/laws.FnExactFits", spec := "fnExactFits", unfollowed := true, recurses := true, apart := false, narrowed := true }
def FnExactFitsUptoSaid : Prop := fnExactFitsUptoRow.holds Try.pinned (OpenSpec.upto fnExactFitsSpec)

/-- 'laws.FnOrder', WHERE WHAT IT READS IS OF BULK AT MOST 1048576: true; the input reads as it did. -/
def fnOrderUptoRow : OpenClaim := { program := "ytnokdjkkgcpbdac", sum := "af0e083ec189ec434d37ac2b4e37f0196cb0c85f071544b785152675ea902e5c", func := "loop.example/g00185/laws.FnOrder", spec := "fnOrder", unfollowed := true, recurses := true, apart := false, narrowed := true }
def FnOrderUptoSaid : Prop := fnOrderUptoRow.holds Try.pinned (OpenSpec.upto fnOrderSpec)

/-- 'laws.FnShares', WHERE WHAT IT READS IS OF BULK AT MOST 1048576: true; the input reads as it did. -/
def fnSharesUptoRow : OpenClaim := { program := "ytnokdjkkgcpbdac", sum := "af0e083ec189ec434d37ac2b4e37f0196cb0c85f071544b785152675ea902e5c", func := "loop.example/g00185/laws.FnShares", spec := "fnShares", unfollowed := true, recurses := true, apart := false, narrowed := true }
def FnSharesUptoSaid : Prop := fnSharesUptoRow.holds Try.pinned (OpenSpec.upto fnSharesSpec)

/-- 'laws.FnExactTaskAt', WHERE WHAT IT READS IS OF BULK AT MOST 1048576: true; the input reads as it did. -/
def fnExactTaskAtUptoRow : OpenClaim := { program := "ytnokdjkkgcpbdac", sum := "af0e083ec189ec434d37ac2b4e37f0196cb0c85f071544b785152675ea902e5c", func := "loop.example/g00185/laws.FnExactTaskAt", spec := "fnExactTaskAt", unfollowed := true, recurses := true, apart := false, narrowed := true }
def FnExactTaskAtUptoSaid : Prop := fnExactTaskAtUptoRow.holds Try.pinned (OpenSpec.upto fnExactTaskAtSpec)

/-- 'laws.FnExactTaskPut', WHERE WHAT IT READS IS OF BULK AT MOST 1048576: true; the input reads as it did. -/
def fnExactTaskPutUptoRow : OpenClaim := { program := "ytnokdjkkgcpbdac", sum := "af0e083ec189ec434d37ac2b4e37f0196cb0c85f071544b785152675ea902e5c", func := "loop.example/g00185/laws.FnExactTaskPut", spec := "fnExactTaskPut", inPlace := ["slices.overlaps[loop.example/g00185/impl.Task]"], apart := false, narrowed := true }
def FnExactTaskPutUptoSaid : Prop := fnExactTaskPutUptoRow.holds Try.pinned (OpenSpec.upto fnExactTaskPutSpec)

/-- 'laws.FnTasks', WHERE WHAT IT READS IS OF BULK AT MOST 1048576: true; the input reads as it did. -/
def fnTasksUptoRow : OpenClaim := { program := "ytnokdjkkgcpbdac", sum := "af0e083ec189ec434d37ac2b4e37f0196cb0c85f071544b785152675ea902e5c", func := "loop.example/g00185/laws.FnTasks", spec := "fnTasks", inPlace := ["slices.overlaps[loop.example/g00185/impl.Task]"], unfollowed := true, recurses := true, apart := false, narrowed := true }
def FnTasksUptoSaid : Prop := fnTasksUptoRow.holds Try.pinned (OpenSpec.upto fnTasksSpec)

/-- 'laws.FnExactBestOf', WHERE WHAT IT READS IS OF BULK AT MOST 1048576: true; the input reads as it did. -/
def fnExactBestOfUptoRow : OpenClaim := { program := "ytnokdjkkgcpbdac", sum := "af0e083ec189ec434d37ac2b4e37f0196cb0c85f071544b785152675ea902e5c", func := "loop.example/g00185/laws.FnExactBestOf", spec := "fnExactBestOf", unfollowed := true, recurses := true, apart := false, narrowed := true }
def FnExactBestOfUptoSaid : Prop := fnExactBestOfUptoRow.holds Try.pinned (OpenSpec.upto fnExactBestOfSpec)

/-- 'laws.FnBest', WHERE WHAT IT READS IS OF BULK AT MOST 1048576: true; the input reads as it did. -/
def fnBestUptoRow : OpenClaim := { program := "ytnokdjkkgcpbdac", sum := "af0e083ec189ec434d37ac2b4e37f0196cb0c85f071544b785152675ea902e5c", func := "loop.example/g00185/laws.FnBest", spec := "fnBest", unfollowed := true, recurses := true, apart := false, narrowed := true }
def FnBestUptoSaid : Prop := fnBestUptoRow.holds Try.pinned (OpenSpec.upto fnBestSpec)

end Rows
end Go.Proofs.Ytnokdjkkgcpbdac

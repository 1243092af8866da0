/-
  No cell of these rows narrows 'for every input' (looked for: loops, veiled, ifaces, maps, wideKeys, modest, calm, conditions, laid).
  DERIVED. THE GIVEN ROWS OF THIS SEAT. 9 by the template 'for every input the law returns true; each argument reads behind the call as it read before'; 0 by the template 'total and deterministic' (their statements: YtphkgmdbdnjmbaaTotals.lean).
  GIVEN WITH THE SEED: the statements are not yours to turn. If you find one false, say at which input.
  Laid BY PROGRAM, IN A SANDBOX (cutbox-rows.mjs): the forced cells as the released guide's own fill.sh prints them over the translation 7a8ef2ba6b827e8a… (all of the seat's roots in one cut). By AI agents, Wed Nov 11 2026. No macro, syntax, notation, axiom, sorry.
-/
import Derived.Test.YtphkgmdbdnjmbaaChecked
import GoSem.Claim
import GoSem.ClaimJoined
import GoSem.ClaimMapViews
import Derived.JoinedTies
import Derived.KernelRfl
namespace Go.Proofs.Ytphkgmdbdnjmbaa
/- THE CELL 'sum', in the pinned program and in every row, IS THE sha256 OF THE DUMP (.gsa) THAT YtphkgmdbdnjmbaaProg.lean LOADS. Nothing in Lean hashes anything: it is a label: what it is worth is what the hold of that sum in a sandbox is worth. -/
noncomputable def Try.pinned : Pinned := { name := "ytphkgmdbdnjmbaa", sum := "7a8ef2ba6b827e8aab43c49d8e2c7169f7ceb0f2bb74cb6d684b9226ef90db20", checked := Try.checked }
namespace Rows
def none {H : Type} : Left H := { results := [], args := [] }

/-- 'laws.FnNewTasks': WHATEVER THE INPUT: true; the input reads as it did. -/
def fnNewTasksSpec : ChangeSpec := { name := "fnNewTasks", fn := fun _ => fun
  | [d] => { results := [.lit (.bool true)], args := [d] }
  | _ => none }
def fnNewTasksRow : OpenClaim := { program := "ytphkgmdbdnjmbaa", sum := "7a8ef2ba6b827e8aab43c49d8e2c7169f7ceb0f2bb74cb6d684b9226ef90db20", func := "loop.example/g00185/laws.FnNewTasks", spec := "fnNewTasks", apart := false }
def FnNewTasksSaid : Prop := fnNewTasksRow.holds Try.pinned (OpenSpec.ofChange fnNewTasksSpec)

/-- ITS FALSE NEIGHBOUR: 'it returns false'. Refute it at one input. -/
def fnNewTasksWrong : ChangeSpec := { name := "fnNewTasks", fn := fun _ => fun
  | [d] => { results := [.lit (.bool false)], args := [d] }
  | _ => none }
def FnNewTasksWrongFalsely : Prop := fnNewTasksRow.holds Try.pinned (OpenSpec.ofChange fnNewTasksWrong)

/-- 'laws.FnWoken': WHATEVER THE INPUT: true; the input reads as it did. -/
def fnWokenSpec : ChangeSpec := { name := "fnWoken", fn := fun _ => fun
  | [d] => { results := [.lit (.bool true)], args := [d] }
  | _ => none }
def fnWokenRow : OpenClaim := { program := "ytphkgmdbdnjmbaa", sum := "7a8ef2ba6b827e8aab43c49d8e2c7169f7ceb0f2bb74cb6d684b9226ef90db20", func := "loop.example/g00185/laws.FnWoken", spec := "fnWoken", apart := false }
def FnWokenSaid : Prop := fnWokenRow.holds Try.pinned (OpenSpec.ofChange fnWokenSpec)

/-- ITS FALSE NEIGHBOUR: 'it returns false'. Refute it at one input. -/
def fnWokenWrong : ChangeSpec := { name := "fnWoken", fn := fun _ => fun
  | [d] => { results := [.lit (.bool false)], args := [d] }
  | _ => none }
def FnWokenWrongFalsely : Prop := fnWokenRow.holds Try.pinned (OpenSpec.ofChange fnWokenWrong)

/-- 'laws.FnFixedTurns': WHATEVER THE INPUT: true; the input reads as it did. -/
def fnFixedTurnsSpec : ChangeSpec := { name := "fnFixedTurns", fn := fun _ => fun
  | [d] => { results := [.lit (.bool true)], args := [d] }
  | _ => none }
def fnFixedTurnsRow : OpenClaim := { program := "ytphkgmdbdnjmbaa", sum := "7a8ef2ba6b827e8aab43c49d8e2c7169f7ceb0f2bb74cb6d684b9226ef90db20", func := "loop.example/g00185/laws.FnFixedTurns", spec := "fnFixedTurns", apart := false }
def FnFixedTurnsSaid : Prop := fnFixedTurnsRow.holds Try.pinned (OpenSpec.ofChange fnFixedTurnsSpec)

/-- ITS FALSE NEIGHBOUR: 'it returns false'. Refute it at one input. -/
def fnFixedTurnsWrong : ChangeSpec := { name := "fnFixedTurns", fn := fun _ => fun
  | [d] => { results := [.lit (.bool false)], args := [d] }
  | _ => none }
def FnFixedTurnsWrongFalsely : Prop := fnFixedTurnsRow.holds Try.pinned (OpenSpec.ofChange fnFixedTurnsWrong)

/-- 'laws.FnBefore': WHATEVER THE INPUT: true; the input reads as it did. -/
def fnBeforeSpec : ChangeSpec := { name := "fnBefore", fn := fun _ => fun
  | [d] => { results := [.lit (.bool true)], args := [d] }
  | _ => none }
def fnBeforeRow : OpenClaim := { program := "ytphkgmdbdnjmbaa", sum := "7a8ef2ba6b827e8aab43c49d8e2c7169f7ceb0f2bb74cb6d684b9226ef90db20", func := "loop.example/g00185/laws.FnBefore", spec := "fnBefore", apart := false }
def FnBeforeSaid : Prop := fnBeforeRow.holds Try.pinned (OpenSpec.ofChange fnBeforeSpec)

/-- ITS FALSE NEIGHBOUR: 'it returns false'. Refute it at one input. -/
def fnBeforeWrong : ChangeSpec := { name := "fnBefore", fn := fun _ => fun
  | [d] => { results := [.lit (.bool false)], args := [d] }
  | _ => none }
def FnBeforeWrongFalsely : Prop := fnBeforeRow.holds Try.pinned (OpenSpec.ofChange fnBeforeWrong)

/-- 'laws.FnInClass': WHATEVER THE INPUT: true; the input reads as it did. -/
def fnInClassSpec : ChangeSpec := { name := "fnInClass", fn := fun _ => fun
  | [d] => { results := [.lit (.bool true)], args := [d] }
  | _ => none }
def fnInClassRow : OpenClaim := { program := "ytphkgmdbdnjmbaa", sum := "7a8ef2ba6b827e8aab43c49d8e2c7169f7ceb0f2bb74cb6d684b9226ef90db20", func := "loop.example/g00185/laws.FnInClass", spec := "fnInClass", apart := false }
def FnInClassSaid : Prop := fnInClassRow.holds Try.pinned (OpenSpec.ofChange fnInClassSpec)

/-- ITS FALSE NEIGHBOUR: 'it returns false'. Refute it at one input. -/
def fnInClassWrong : ChangeSpec := { name := "fnInClass", fn := fun _ => fun
  | [d] => { results := [.lit (.bool false)], args := [d] }
  | _ => none }
def FnInClassWrongFalsely : Prop := fnInClassRow.holds Try.pinned (OpenSpec.ofChange fnInClassWrong)

/-- 'laws.FnFairSteps': WHATEVER THE INPUT: true; the input reads as it did. -/
def fnFairStepsSpec : ChangeSpec := { name := "fnFairSteps", fn := fun _ => fun
  | [d] => { results := [.lit (.bool true)], args := [d] }
  | _ => none }
def fnFairStepsRow : OpenClaim := { program := "ytphkgmdbdnjmbaa", sum := "7a8ef2ba6b827e8aab43c49d8e2c7169f7ceb0f2bb74cb6d684b9226ef90db20", func := "loop.example/g00185/laws.FnFairSteps", spec := "fnFairSteps", apart := false }
def FnFairStepsSaid : Prop := fnFairStepsRow.holds Try.pinned (OpenSpec.ofChange fnFairStepsSpec)

/-- ITS FALSE NEIGHBOUR: 'it returns false'. Refute it at one input. -/
def fnFairStepsWrong : ChangeSpec := { name := "fnFairSteps", fn := fun _ => fun
  | [d] => { results := [.lit (.bool false)], args := [d] }
  | _ => none }
def FnFairStepsWrongFalsely : Prop := fnFairStepsRow.holds Try.pinned (OpenSpec.ofChange fnFairStepsWrong)

/-- 'laws.FnExactTaskPut': WHATEVER THE INPUT: true; the input reads as it did. -/
def fnExactTaskPutSpec : ChangeSpec := { name := "fnExactTaskPut", fn := fun _ => fun
  | [d1, d2] => { results := [.lit (.bool true)], args := [d1, d2] }
  | _ => none }
def fnExactTaskPutRow : OpenClaim := { program := "ytphkgmdbdnjmbaa", sum := "7a8ef2ba6b827e8aab43c49d8e2c7169f7ceb0f2bb74cb6d684b9226ef90db20", func := "loop.example/g00185/laws.FnExactTaskPut", spec := "fnExactTaskPut", inPlace := ["slices.overlaps[loop.example/g00185/impl.Task]"], apart := false }
def FnExactTaskPutSaid : Prop := fnExactTaskPutRow.holds Try.pinned (OpenSpec.ofChange fnExactTaskPutSpec)

/-- ITS FALSE NEIGHBOUR: 'it returns false'. Refute it at one input. -/
def fnExactTaskPutWrong : ChangeSpec := { name := "fnExactTaskPut", fn := fun _ => fun
  | [d1, d2] => { results := [.lit (.bool false)], args := [d1, d2] }
  | _ => none }
def FnExactTaskPutWrongFalsely : Prop := fnExactTaskPutRow.holds Try.pinned (OpenSpec.ofChange fnExactTaskPutWrong)

/-- 'laws.FnTasks': WHATEVER THE INPUT: true; the input reads as it did. -/
def fnTasksSpec : ChangeSpec := { name := "fnTasks", fn := fun _ => fun
  | [d] => { results := [.lit (.bool true)], args := [d] }
  | _ => none }
def fnTasksRow : OpenClaim := { program := "ytphkgmdbdnjmbaa", sum := "7a8ef2ba6b827e8aab43c49d8e2c7169f7ceb0f2bb74cb6d684b9226ef90db20", func := "loop.example/g00185/laws.FnTasks", spec := "fnTasks", inPlace := ["slices.overlaps[loop.example/g00185/impl.Task]"], unfollowed := true, recurses := true, apart := false }
def FnTasksSaid : Prop := fnTasksRow.holds Try.pinned (OpenSpec.ofChange fnTasksSpec)

/-- ITS FALSE NEIGHBOUR: 'it returns false'. Refute it at one input. -/
def fnTasksWrong : ChangeSpec := { name := "fnTasks", fn := fun _ => fun
  | [d] => { results := [.lit (.bool false)], args := [d] }
  | _ => none }
def FnTasksWrongFalsely : Prop := fnTasksRow.holds Try.pinned (OpenSpec.ofChange fnTasksWrong)

/-- 'laws.FnBest': WHATEVER THE INPUT: true; the input reads as it did. -/
def fnBestSpec : ChangeSpec := { name := "fnBest", fn := fun _ => fun
  | [d] => { results := [.lit (.bool true)], args := [d] }
  | _ => none }
def fnBestRow : OpenClaim := { program := "ytphkgmdbdnjmbaa", sum := "7a8ef2ba6b827e8aab43c49d8e2c7169f7ceb0f2bb74cb6d684b9226ef90db20", func := "loop.example/g00185/laws.FnBest", spec := "fnBest", unfollowed := true, recurses := true, apart := false }
def FnBestSaid : Prop := fnBestRow.holds Try.pinned (OpenSpec.ofChange fnBestSpec)

/-- ITS FALSE NEIGHBOUR: 'it returns false'. Refute it at one input. -/
def fnBestWrong : ChangeSpec := { name := "fnBest", fn := fun _ => fun
  | [d] => { results := [.lit (.bool false)], args := [d] }
  | _ => none }
def FnBestWrongFalsely : Prop := fnBestRow.holds Try.pinned (OpenSpec.ofChange fnBestWrong)

/- THE SECOND FORM. 'bulk': how many values and letters a reading holds, each counted each time it is reached (what is shared counts as often as it is met; a slice's spare places count too). A statement '..UptoSaid' is the law's where the arguments, and the package variables that the reading takes, are together of bulk at most 1048576: NARROWER than '..Said'. Prove '..Said' where nothing that the law and all that it calls make is longer than what came in: it says more and counts as full. Else prove '..UptoSaid'. A law counts once. -/
mutual
def uptoBulk {H : Type} : DataW H → Nat
  | .lit (.string bytes) => bytes.length + 1
  | .lit _ => 1
  | .nil => 1
  | .ptr d => uptoBulk d + 1
  | .slice elems spare => uptoBulkAll elems + uptoBulkAll spare + 1
  | .agg parts => uptoBulkAll parts + 1
  | .iface _ d => uptoBulk d + 1
  | .map entries => uptoBulkEntries entries + 1
  | .held _ => 1
def uptoBulkAll {H : Type} : List (DataW H) → Nat
  | [] => 0
  | d :: r => uptoBulk d + uptoBulkAll r
def uptoBulkEntries {H : Type} : List (Lit × DataW H) → Nat
  | [] => 0
  | x :: r => uptoBulkEntry x + uptoBulkEntries r
def uptoBulkEntry {H : Type} : Lit × DataW H → Nat
  | (.string bytes, d) => bytes.length + uptoBulk d + 1
  | (_, d) => uptoBulk d + 1
 end
def uptoSmall : (H : Type) → List (DataW H) → Bool := fun _ ds => decide (uptoBulkAll ds ≤ 1048576)
def OpenSpec.upto (s : _root_.Go.ChangeSpec) : _root_.Go.OpenSpec := { _root_.Go.OpenSpec.ofChange s with cond := some uptoSmall }

/-- 'laws.FnNewTasks', WHERE WHAT IT READS IS OF BULK AT MOST 1048576: true; the input reads as it did. -/
def fnNewTasksUptoRow : OpenClaim := { program := "ytphkgmdbdnjmbaa", sum := "7a8ef2ba6b827e8aab43c49d8e2c7169f7ceb0f2bb74cb6d684b9226ef90db20", func := "loop.example/g00185/laws.FnNewTasks", spec := "fnNewTasks", apart := false, narrowed := true }
def FnNewTasksUptoSaid : Prop := fnNewTasksUptoRow.holds Try.pinned (OpenSpec.upto fnNewTasksSpec)

/-- 'laws.FnWoken', WHERE WHAT IT READS IS OF BULK AT MOST 1048576: true; the input reads as it did. -/
def fnWokenUptoRow : OpenClaim := { program := "ytphkgmdbdnjmbaa", sum := "7a8ef2ba6b827e8aab43c49d8e2c7169f7ceb0f2bb74cb6d684b9226ef90db20", func := "loop.example/g00185/laws.FnWoken", spec := "fnWoken", apart := false, narrowed := true }
def FnWokenUptoSaid : Prop := fnWokenUptoRow.holds Try.pinned (OpenSpec.upto fnWokenSpec)

/-- 'laws.FnFixedTurns', WHERE WHAT IT READS IS OF BULK AT MOST 1048576: true; the input reads as it did. -/
def fnFixedTurnsUptoRow : OpenClaim := { program := "ytphkgmdbdnjmbaa", sum := "7a8ef2ba6b827e8aab43c49d8e2c7169f7ceb0f2bb74cb6d684b9226ef90db20", func := "loop.example/g00185/laws.FnFixedTurns", spec := "fnFixedTurns", apart := false, narrowed := true }
def FnFixedTurnsUptoSaid : Prop := fnFixedTurnsUptoRow.holds Try.pinned (OpenSpec.upto fnFixedTurnsSpec)

/-- 'laws.FnBefore', WHERE WHAT IT READS IS OF BULK AT MOST 1048576: true; the input reads as it did. -/
def fnBeforeUptoRow : OpenClaim := { program := "ytphkgmdbdnjmbaa", sum := "7a8ef2ba6b827e8aab43c49d8e2c7169f7ceb0f2bb74cb6d684b9226ef90db20", func := "loop.example/g00185/laws.FnBefore", spec := "fnBefore", apart := false, narrowed := true }
def FnBeforeUptoSaid : Prop := fnBeforeUptoRow.holds Try.pinned (OpenSpec.upto fnBeforeSpec)

/-- 'laws.FnInClass', WHERE WHAT IT READS IS OF BULK AT MOST 1048576: true; the input reads as it did. -/
def fnInClassUptoRow : OpenClaim := { program := "ytphkgmdbdnjmbaa", sum := "7a8ef2ba6b827e8aab43c49d8e2c7169f7ceb0f2bb74cb6d684b9226ef90db20", func := "loop.example/g00185/laws.FnInClass", spec := "fnInClass", apart := false, narrowed := true }
def FnInClassUptoSaid : Prop := fnInClassUptoRow.holds Try.pinned (OpenSpec.upto fnInClassSpec)

/-- 'laws.FnFairSteps', WHERE WHAT IT READS IS OF BULK AT MOST 1048576: true; the input reads as it did. -/
def fnFairStepsUptoRow : OpenClaim := { program := "ytphkgmdbdnjmbaa", sum := "7a8ef2ba6b827e8aab43c49d8e2c7169f7ceb0f2bb74cb6d684b9226ef90db20", func := "loop.example/g00185/laws.FnFairSteps", spec := "fnFairSteps", apart := false, narrowed := true }
def FnFairStepsUptoSaid : Prop := fnFairStepsUptoRow.holds Try.pinned (OpenSpec.upto fnFairStepsSpec)

/-- 'laws.FnExactTaskPut', WHERE WHAT IT READS IS OF BULK AT MOST 1048576: true; the input reads as it did. -/
def fnExactTaskPutUptoRow : OpenClaim := { program := "ytphkgmdbdnjmbaa", sum := "7a8ef2ba6b827e8aab43c49d8e2c7169f7ceb0f2bb74cb6d684b9226ef90db20", func := "loop.example/g00185/laws.FnExactTaskPut", spec := "fnExactTaskPut", inPlace := ["slices.overlaps[loop.example/g00185/impl.Task]"], apart := false, narrowed := true }
def FnExactTaskPutUptoSaid : Prop := fnExactTaskPutUptoRow.holds Try.pinned (OpenSpec.upto fnExactTaskPutSpec)

/-- 'laws.FnTasks', WHERE WHAT IT READS IS OF BULK AT MOST 1048576: true; the input reads as it did. -/
def fnTasksUptoRow : OpenClaim := { program := "ytphkgmdbdnjmbaa", sum := "7a8ef2ba6b827e8aab43c49d8e2c7169f7ceb0f2bb74cb6d684b9226ef90db20", func := "loop.example/g00185/laws.FnTasks", spec := "fnTasks", inPlace := ["slices.overlaps[loop.example/g00185/impl.Task]"], unfollowed := true, recurses := true, apart := false, narrowed := true }
def FnTasksUptoSaid : Prop := fnTasksUptoRow.holds Try.pinned (OpenSpec.upto fnTasksSpec)

/-- 'laws.FnBest', WHERE WHAT IT READS IS OF BULK AT MOST 1048576: true; the input reads as it did. -/
def fnBestUptoRow : OpenClaim := { program := "ytphkgmdbdnjmbaa", sum := "7a8ef2ba6b827e8aab43c49d8e2c7169f7ceb0f2bb74cb6d684b9226ef90db20", func := "loop.example/g00185/laws.FnBest", spec := "fnBest", unfollowed := true, recurses := true, apart := false, narrowed := true }
def FnBestUptoSaid : Prop := fnBestUptoRow.holds Try.pinned (OpenSpec.upto fnBestSpec)

end Rows
end Go.Proofs.Ytphkgmdbdnjmbaa

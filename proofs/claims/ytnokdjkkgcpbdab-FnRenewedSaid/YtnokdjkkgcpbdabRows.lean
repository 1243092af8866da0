/-
  No cell of these rows narrows 'for every input' (looked for: loops, veiled, ifaces, maps, wideKeys, modest, calm, conditions, laid).
  DERIVED. THE GIVEN ROWS OF THIS SEAT. 12 by the template 'for every input the law returns true; each argument reads behind the call as it read before'; 0 by the template 'total and deterministic' (their statements: YtnokdjkkgcpbdabTotals.lean).
  GIVEN WITH THE SEED: the statements are not yours to turn. If you find one false, say at which input.
  Laid BY PROGRAM, IN A SANDBOX (cutbox-rows.mjs): the forced cells as the released guide's own fill.sh prints them over the translation 48f3c770fd3da531… (all of the seat's roots in one cut). By AI agents, Wed Nov 11 2026. No macro, syntax, notation, axiom, sorry.
-/
import Derived.Test.YtnokdjkkgcpbdabChecked
import GoSem.Claim
import GoSem.ClaimJoined
import GoSem.ClaimMapViews
import Derived.JoinedTies
import Derived.KernelRfl
namespace Go.Proofs.Ytnokdjkkgcpbdab
/- THE CELL 'sum', in the pinned program and in every row, IS THE sha256 OF THE DUMP (.gsa) THAT YtnokdjkkgcpbdabProg.lean LOADS. Nothing in Lean hashes anything: it is a label: what it is worth is what the hold of that sum in a sandbox is worth. -/
noncomputable def Try.pinned : Pinned := { name := "ytnokdjkkgcpbdab", sum := "48f3c770fd3da531b506b2ee0b03f5a4681635a4f606baeec079c3d2f5ca020f", checked := Try.checked }
namespace Rows
def none {H : Type} : Left H := { results := [], args := [] }

/-- 'laws.FnExactFairWake': WHATEVER THE INPUT: true; the input reads as it did. -/
def fnExactFairWakeSpec : ChangeSpec := { name := "fnExactFairWake", fn := fun _ => fun
  | [d1, d2] => { results := [.lit (.bool true)], args := [d1, d2] }
  | _ => none }
def fnExactFairWakeRow : OpenClaim := { program := "ytnokdjkkgcpbdab", sum := "48f3c770fd3da531b506b2ee0b03f5a4681635a4f606baeec079c3d2f5ca020f", func := "loop.example/g00185/laws.FnExactFairWake", spec := "fnExactFairWake", apart := false }
def FnExactFairWakeSaid : Prop := fnExactFairWakeRow.holds Try.pinned (OpenSpec.ofChange fnExactFairWakeSpec)

/-- ITS FALSE NEIGHBOUR: 'it returns false'. Refute it at one input. -/
def fnExactFairWakeWrong : ChangeSpec := { name := "fnExactFairWake", fn := fun _ => fun
  | [d1, d2] => { results := [.lit (.bool false)], args := [d1, d2] }
  | _ => none }
def FnExactFairWakeWrongFalsely : Prop := fnExactFairWakeRow.holds Try.pinned (OpenSpec.ofChange fnExactFairWakeWrong)

/-- 'laws.FnNewTasks': WHATEVER THE INPUT: true; the input reads as it did. -/
def fnNewTasksSpec : ChangeSpec := { name := "fnNewTasks", fn := fun _ => fun
  | [d] => { results := [.lit (.bool true)], args := [d] }
  | _ => none }
def fnNewTasksRow : OpenClaim := { program := "ytnokdjkkgcpbdab", sum := "48f3c770fd3da531b506b2ee0b03f5a4681635a4f606baeec079c3d2f5ca020f", func := "loop.example/g00185/laws.FnNewTasks", spec := "fnNewTasks", apart := false }
def FnNewTasksSaid : Prop := fnNewTasksRow.holds Try.pinned (OpenSpec.ofChange fnNewTasksSpec)

/-- ITS FALSE NEIGHBOUR: 'it returns false'. Refute it at one input. -/
def fnNewTasksWrong : ChangeSpec := { name := "fnNewTasks", fn := fun _ => fun
  | [d] => { results := [.lit (.bool false)], args := [d] }
  | _ => none }
def FnNewTasksWrongFalsely : Prop := fnNewTasksRow.holds Try.pinned (OpenSpec.ofChange fnNewTasksWrong)

/-- 'laws.FnExactTasksOk': WHATEVER THE INPUT: true; the input reads as it did. -/
def fnExactTasksOkSpec : ChangeSpec := { name := "fnExactTasksOk", fn := fun _ => fun
  | [d] => { results := [.lit (.bool true)], args := [d] }
  | _ => none }
def fnExactTasksOkRow : OpenClaim := { program := "ytnokdjkkgcpbdab", sum := "48f3c770fd3da531b506b2ee0b03f5a4681635a4f606baeec079c3d2f5ca020f", func := "loop.example/g00185/laws.FnExactTasksOk", spec := "fnExactTasksOk", apart := false }
def FnExactTasksOkSaid : Prop := fnExactTasksOkRow.holds Try.pinned (OpenSpec.ofChange fnExactTasksOkSpec)

/-- ITS FALSE NEIGHBOUR: 'it returns false'. Refute it at one input. -/
def fnExactTasksOkWrong : ChangeSpec := { name := "fnExactTasksOk", fn := fun _ => fun
  | [d] => { results := [.lit (.bool false)], args := [d] }
  | _ => none }
def FnExactTasksOkWrongFalsely : Prop := fnExactTasksOkRow.holds Try.pinned (OpenSpec.ofChange fnExactTasksOkWrong)

/-- 'laws.FnExactFairSpend': WHATEVER THE INPUT: true; the input reads as it did. -/
def fnExactFairSpendSpec : ChangeSpec := { name := "fnExactFairSpend", fn := fun _ => fun
  | [d] => { results := [.lit (.bool true)], args := [d] }
  | _ => none }
def fnExactFairSpendRow : OpenClaim := { program := "ytnokdjkkgcpbdab", sum := "48f3c770fd3da531b506b2ee0b03f5a4681635a4f606baeec079c3d2f5ca020f", func := "loop.example/g00185/laws.FnExactFairSpend", spec := "fnExactFairSpend", apart := false }
def FnExactFairSpendSaid : Prop := fnExactFairSpendRow.holds Try.pinned (OpenSpec.ofChange fnExactFairSpendSpec)

/-- ITS FALSE NEIGHBOUR: 'it returns false'. Refute it at one input. -/
def fnExactFairSpendWrong : ChangeSpec := { name := "fnExactFairSpend", fn := fun _ => fun
  | [d] => { results := [.lit (.bool false)], args := [d] }
  | _ => none }
def FnExactFairSpendWrongFalsely : Prop := fnExactFairSpendRow.holds Try.pinned (OpenSpec.ofChange fnExactFairSpendWrong)

/-- 'laws.FnExactFairSpread': WHATEVER THE INPUT: true; the input reads as it did. -/
def fnExactFairSpreadSpec : ChangeSpec := { name := "fnExactFairSpread", fn := fun _ => fun
  | [d] => { results := [.lit (.bool true)], args := [d] }
  | _ => none }
def fnExactFairSpreadRow : OpenClaim := { program := "ytnokdjkkgcpbdab", sum := "48f3c770fd3da531b506b2ee0b03f5a4681635a4f606baeec079c3d2f5ca020f", func := "loop.example/g00185/laws.FnExactFairSpread", spec := "fnExactFairSpread", apart := false }
def FnExactFairSpreadSaid : Prop := fnExactFairSpreadRow.holds Try.pinned (OpenSpec.ofChange fnExactFairSpreadSpec)

/-- ITS FALSE NEIGHBOUR: 'it returns false'. Refute it at one input. -/
def fnExactFairSpreadWrong : ChangeSpec := { name := "fnExactFairSpread", fn := fun _ => fun
  | [d] => { results := [.lit (.bool false)], args := [d] }
  | _ => none }
def FnExactFairSpreadWrongFalsely : Prop := fnExactFairSpreadRow.holds Try.pinned (OpenSpec.ofChange fnExactFairSpreadWrong)

/-- 'laws.FnExactFairFloor': WHATEVER THE INPUT: true; the input reads as it did. -/
def fnExactFairFloorSpec : ChangeSpec := { name := "fnExactFairFloor", fn := fun _ => fun
  | [d1, d2] => { results := [.lit (.bool true)], args := [d1, d2] }
  | _ => none }
def fnExactFairFloorRow : OpenClaim := { program := "ytnokdjkkgcpbdab", sum := "48f3c770fd3da531b506b2ee0b03f5a4681635a4f606baeec079c3d2f5ca020f", func := "loop.example/g00185/laws.FnExactFairFloor", spec := "fnExactFairFloor", apart := false }
def FnExactFairFloorSaid : Prop := fnExactFairFloorRow.holds Try.pinned (OpenSpec.ofChange fnExactFairFloorSpec)

/-- ITS FALSE NEIGHBOUR: 'it returns false'. Refute it at one input. -/
def fnExactFairFloorWrong : ChangeSpec := { name := "fnExactFairFloor", fn := fun _ => fun
  | [d1, d2] => { results := [.lit (.bool false)], args := [d1, d2] }
  | _ => none }
def FnExactFairFloorWrongFalsely : Prop := fnExactFairFloorRow.holds Try.pinned (OpenSpec.ofChange fnExactFairFloorWrong)

/-- 'laws.FnSpent': WHATEVER THE INPUT: true; the input reads as it did. -/
def fnSpentSpec : ChangeSpec := { name := "fnSpent", fn := fun _ => fun
  | [d] => { results := [.lit (.bool true)], args := [d] }
  | _ => none }
def fnSpentRow : OpenClaim := { program := "ytnokdjkkgcpbdab", sum := "48f3c770fd3da531b506b2ee0b03f5a4681635a4f606baeec079c3d2f5ca020f", func := "loop.example/g00185/laws.FnSpent", spec := "fnSpent", apart := false }
def FnSpentSaid : Prop := fnSpentRow.holds Try.pinned (OpenSpec.ofChange fnSpentSpec)

/-- ITS FALSE NEIGHBOUR: 'it returns false'. Refute it at one input. -/
def fnSpentWrong : ChangeSpec := { name := "fnSpent", fn := fun _ => fun
  | [d] => { results := [.lit (.bool false)], args := [d] }
  | _ => none }
def FnSpentWrongFalsely : Prop := fnSpentRow.holds Try.pinned (OpenSpec.ofChange fnSpentWrong)

/-- 'laws.FnRenewed': WHATEVER THE INPUT: true; the input reads as it did. -/
def fnRenewedSpec : ChangeSpec := { name := "fnRenewed", fn := fun _ => fun
  | [d] => { results := [.lit (.bool true)], args := [d] }
  | _ => none }
def fnRenewedRow : OpenClaim := { program := "ytnokdjkkgcpbdab", sum := "48f3c770fd3da531b506b2ee0b03f5a4681635a4f606baeec079c3d2f5ca020f", func := "loop.example/g00185/laws.FnRenewed", spec := "fnRenewed", apart := false }
def FnRenewedSaid : Prop := fnRenewedRow.holds Try.pinned (OpenSpec.ofChange fnRenewedSpec)

/-- ITS FALSE NEIGHBOUR: 'it returns false'. Refute it at one input. -/
def fnRenewedWrong : ChangeSpec := { name := "fnRenewed", fn := fun _ => fun
  | [d] => { results := [.lit (.bool false)], args := [d] }
  | _ => none }
def FnRenewedWrongFalsely : Prop := fnRenewedRow.holds Try.pinned (OpenSpec.ofChange fnRenewedWrong)

/-- 'laws.FnWoken': WHATEVER THE INPUT: true; the input reads as it did. -/
def fnWokenSpec : ChangeSpec := { name := "fnWoken", fn := fun _ => fun
  | [d] => { results := [.lit (.bool true)], args := [d] }
  | _ => none }
def fnWokenRow : OpenClaim := { program := "ytnokdjkkgcpbdab", sum := "48f3c770fd3da531b506b2ee0b03f5a4681635a4f606baeec079c3d2f5ca020f", func := "loop.example/g00185/laws.FnWoken", spec := "fnWoken", apart := false }
def FnWokenSaid : Prop := fnWokenRow.holds Try.pinned (OpenSpec.ofChange fnWokenSpec)

/-- ITS FALSE NEIGHBOUR: 'it returns false'. Refute it at one input. -/
def fnWokenWrong : ChangeSpec := { name := "fnWoken", fn := fun _ => fun
  | [d] => { results := [.lit (.bool false)], args := [d] }
  | _ => none }
def FnWokenWrongFalsely : Prop := fnWokenRow.holds Try.pinned (OpenSpec.ofChange fnWokenWrong)

/-- 'laws.FnFixedTurns': WHATEVER THE INPUT: true; the input reads as it did. -/
def fnFixedTurnsSpec : ChangeSpec := { name := "fnFixedTurns", fn := fun _ => fun
  | [d] => { results := [.lit (.bool true)], args := [d] }
  | _ => none }
def fnFixedTurnsRow : OpenClaim := { program := "ytnokdjkkgcpbdab", sum := "48f3c770fd3da531b506b2ee0b03f5a4681635a4f606baeec079c3d2f5ca020f", func := "loop.example/g00185/laws.FnFixedTurns", spec := "fnFixedTurns", apart := false }
def FnFixedTurnsSaid : Prop := fnFixedTurnsRow.holds Try.pinned (OpenSpec.ofChange fnFixedTurnsSpec)

/-- ITS FALSE NEIGHBOUR: 'it returns false'. Refute it at one input. -/
def fnFixedTurnsWrong : ChangeSpec := { name := "fnFixedTurns", fn := fun _ => fun
  | [d] => { results := [.lit (.bool false)], args := [d] }
  | _ => none }
def FnFixedTurnsWrongFalsely : Prop := fnFixedTurnsRow.holds Try.pinned (OpenSpec.ofChange fnFixedTurnsWrong)

/-- 'laws.FnMoved': WHATEVER THE INPUT: true; the input reads as it did. -/
def fnMovedSpec : ChangeSpec := { name := "fnMoved", fn := fun _ => fun
  | [d] => { results := [.lit (.bool true)], args := [d] }
  | _ => none }
def fnMovedRow : OpenClaim := { program := "ytnokdjkkgcpbdab", sum := "48f3c770fd3da531b506b2ee0b03f5a4681635a4f606baeec079c3d2f5ca020f", func := "loop.example/g00185/laws.FnMoved", spec := "fnMoved", apart := false }
def FnMovedSaid : Prop := fnMovedRow.holds Try.pinned (OpenSpec.ofChange fnMovedSpec)

/-- ITS FALSE NEIGHBOUR: 'it returns false'. Refute it at one input. -/
def fnMovedWrong : ChangeSpec := { name := "fnMoved", fn := fun _ => fun
  | [d] => { results := [.lit (.bool false)], args := [d] }
  | _ => none }
def FnMovedWrongFalsely : Prop := fnMovedRow.holds Try.pinned (OpenSpec.ofChange fnMovedWrong)

/-- 'laws.FnBefore': WHATEVER THE INPUT: true; the input reads as it did. -/
def fnBeforeSpec : ChangeSpec := { name := "fnBefore", fn := fun _ => fun
  | [d] => { results := [.lit (.bool true)], args := [d] }
  | _ => none }
def fnBeforeRow : OpenClaim := { program := "ytnokdjkkgcpbdab", sum := "48f3c770fd3da531b506b2ee0b03f5a4681635a4f606baeec079c3d2f5ca020f", func := "loop.example/g00185/laws.FnBefore", spec := "fnBefore", apart := false }
def FnBeforeSaid : Prop := fnBeforeRow.holds Try.pinned (OpenSpec.ofChange fnBeforeSpec)

/-- ITS FALSE NEIGHBOUR: 'it returns false'. Refute it at one input. -/
def fnBeforeWrong : ChangeSpec := { name := "fnBefore", fn := fun _ => fun
  | [d] => { results := [.lit (.bool false)], args := [d] }
  | _ => none }
def FnBeforeWrongFalsely : Prop := fnBeforeRow.holds Try.pinned (OpenSpec.ofChange fnBeforeWrong)

/- THE SECOND FORM. 'bulk': how many values and letters a reading holds, each counted each time it is reached (what is shared counts as often as it is met; a slice's spare places count too). A statement '..UptoSaid' is the law's where the arguments, and the package variables that the reading takes, are together of bulk at most 1048576: NARROWER than '..Said'. Prove '..Said' where nothing that the law and all that it calls make is longer than what came in: it says more and counts as full. Else prove '..UptoSaid'. A law counts once. -/
mutual
def uptoBulk {H : Type} : DataW H → Nat
  | .lit (.string bytes) => bytes.length + 1
  | .lit _ => 1
  | .nil => 1
  | .ptr d => uptoBulk d + 1
  | .slice elems spare => uptoBulkAll elems + uptoBulkAll spare + 1
  | .agg parts => uptoBulkAll parts + 1
  | .iface _ d => uptoBulk d + 1
  | .map entries => uptoBulkEntries entries + 1
  | .held _ => 1
def uptoBulkAll {H : Type} : List (DataW H) → Nat
  | [] => 0
  | d :: r => uptoBulk d + uptoBulkAll r
def uptoBulkEntries {H : Type} : List (Lit × DataW H) → Nat
  | [] => 0
  | x :: r => uptoBulkEntry x + uptoBulkEntries r
def uptoBulkEntry {H : Type} : Lit × DataW H → Nat
  | (.string bytes, d) => bytes.length + uptoBulk d + 1
  | (_, d) => uptoBulk d + 1
 end
def uptoSmall : (H : Type) → List (DataW H) → Bool := fun _ ds => decide (uptoBulkAll ds ≤ 1048576)
def OpenSpec.upto (s : _root_.Go.ChangeSpec) : _root_.Go.OpenSpec := { _root_.Go.OpenSpec.ofChange s with cond := some uptoSmall }

/-- 'laws.FnExactFairWake', WHERE WHAT IT READS IS OF BULK AT MOST 1048576: true; the input reads as it did. -/
def fnExactFairWakeUptoRow : OpenClaim := { program := "ytnokdjkkgcpbdab", sum := "48f3c770fd3da531b506b2ee0b03f5a4681635a4f606baeec079c3d2f5ca020f", func := "loop.example/g00185/laws.FnExactFairWake", spec := "fnExactFairWake", apart := false, narrowed := true }
def FnExactFairWakeUptoSaid : Prop := fnExactFairWakeUptoRow.holds Try.pinned (OpenSpec.upto fnExactFairWakeSpec)

/-- 'laws.FnNewTasks', WHERE WHAT IT READS IS OF BULK AT MOST 1048576: true; the input reads as it did. -/
def fnNewTasksUptoRow : OpenClaim := { program := "ytnokdjkkgcpbdab", sum := "48f3c770fd3da531b506b2ee0b03f5a4681635a4f606baeec079c3d2f5ca020f", func := "loop.example/g00185/laws.FnNewTasks", spec := "fnNewTasks", apart := false, narrowed := true }
def FnNewTasksUptoSaid : Prop := fnNewTasksUptoRow.holds Try.pinned (OpenSpec.upto fnNewTasksSpec)

/-- 'laws.FnExactTasksOk', WHERE WHAT IT READS IS OF BULK AT MOST 1048576: true; the input reads as it did. -/
def fnExactTasksOkUptoRow : OpenClaim := { program := "ytnokdjkkgcpbdab", sum := "48f3c770fd3da531b506b2ee0b03f5a4681635a4f606baeec079c3d2f5ca020f", func := "loop.example/g00185/laws.FnExactTasksOk", spec := "fnExactTasksOk", apart := false, narrowed := true }
def FnExactTasksOkUptoSaid : Prop := fnExactTasksOkUptoRow.holds Try.pinned (OpenSpec.upto fnExactTasksOkSpec)

/-- 'laws.FnExactFairSpend', WHERE WHAT IT READS IS OF BULK AT MOST 1048576: true; the input reads as it did. -/
def fnExactFairSpendUptoRow : OpenClaim := { program := "ytnokdjkkgcpbdab", sum := "48f3c770fd3da531b506b2ee0b03f5a4681635a4f606baeec079c3d2f5ca020f", func := "loop.example/g00185/laws.FnExactFairSpend", spec := "fnExactFairSpend", apart := false, narrowed := true }
def FnExactFairSpendUptoSaid : Prop := fnExactFairSpendUptoRow.holds Try.pinned (OpenSpec.upto fnExactFairSpendSpec)

/-- 'laws.FnExactFairSpread', WHERE WHAT IT READS IS OF BULK AT MOST 1048576: true; the input reads as it did. -/
def fnExactFairSpreadUptoRow : OpenClaim := { program := "ytnokdjkkgcpbdab", sum := "48f3c770fd3da531b506b2ee0b03f5a4681635a4f606baeec079c3d2f5ca020f", func := "loop.example/g00185/laws.FnExactFairSpread", spec := "fnExactFairSpread", apart := false, narrowed := true }
def FnExactFairSpreadUptoSaid : Prop := fnExactFairSpreadUptoRow.holds Try.pinned (OpenSpec.upto fnExactFairSpreadSpec)

/-- 'laws.FnExactFairFloor', WHERE WHAT IT READS IS OF BULK AT MOST 1048576: true; the input reads as it did. -/
def fnExactFairFloorUptoRow : OpenClaim := { program := "ytnokdjkkgcpbdab", sum := "48f3c770fd3da531b506b2ee0b03f5a4681635a4f606baeec079c3d2f5ca020f", func := "loop.example/g00185/laws.FnExactFairFloor", spec := "fnExactFairFloor", apart := false, narrowed := true }
def FnExactFairFloorUptoSaid : Prop := fnExactFairFloorUptoRow.holds Try.pinned (OpenSpec.upto fnExactFairFloorSpec)

/-- 'laws.FnSpent', WHERE WHAT IT READS IS OF BULK AT MOST 1048576: true; the input reads as it did. -/
def fnSpentUptoRow : OpenClaim := { program := "ytnokdjkkgcpbdab", sum := "48f3c770fd3da531b506b2ee0b03f5a4681635a4f606baeec079c3d2f5ca020f", func := "loop.example/g00185/laws.FnSpent", spec := "fnSpent", apart := false, narrowed := true }
def FnSpentUptoSaid : Prop := fnSpentUptoRow.holds Try.pinned (OpenSpec.upto fnSpentSpec)

/-- 'laws.FnRenewed', WHERE WHAT IT READS IS OF BULK AT MOST 1048576: true; the input reads as it did. -/
def fnRenewedUptoRow : OpenClaim := { program := "ytnokdjkkgcpbdab", sum := "48f3c770fd3da531b506b2ee0b03f5a4681635a4f606baeec079c3d2f5ca020f", func := "loop.example/g00185/laws.FnRenewed", spec := "fnRenewed", apart := false, narrowed := true }
def FnRenewedUptoSaid : Prop := fnRenewedUptoRow.holds Try.pinned (OpenSpec.upto fnRenewedSpec)

/-- 'laws.FnWoken', WHERE WHAT IT READS IS OF BULK AT MOST 1048576: true; the input reads as it did. -/
def fnWokenUptoRow : OpenClaim := { program := "ytnokdjkkgcpbdab", sum := "48f3c770fd3da531b506b2ee0b03f5a4681635a4f606baeec079c3d2f5ca020f", func := "loop.example/g00185/laws.FnWoken", spec := "fnWoken", apart := false, narrowed := true }
def FnWokenUptoSaid : Prop := fnWokenUptoRow.holds Try.pinned (OpenSpec.upto fnWokenSpec)

/-- 'laws.FnFixedTurns', WHERE WHAT IT READS IS OF BULK AT MOST 1048576: true; the input reads as it did. -/
def fnFixedTurnsUptoRow : OpenClaim := { program := "ytnokdjkkgcpbdab", sum := "48f3c770fd3da531b506b2ee0b03f5a4681635a4f606baeec079c3d2f5ca020f", func := "loop.example/g00185/laws.FnFixedTurns", spec := "fnFixedTurns", apart := false, narrowed := true }
def FnFixedTurnsUptoSaid : Prop := fnFixedTurnsUptoRow.holds Try.pinned (OpenSpec.upto fnFixedTurnsSpec)

/-- 'laws.FnMoved', WHERE WHAT IT READS IS OF BULK AT MOST 1048576: true; the input reads as it did. -/
def fnMovedUptoRow : OpenClaim := { program := "ytnokdjkkgcpbdab", sum := "48f3c770fd3da531b506b2ee0b03f5a4681635a4f606baeec079c3d2f5ca020f", func := "loop.example/g00185/laws.FnMoved", spec := "fnMoved", apart := false, narrowed := true }
def FnMovedUptoSaid : Prop := fnMovedUptoRow.holds Try.pinned (OpenSpec.upto fnMovedSpec)

/-- 'laws.FnBefore', WHERE WHAT IT READS IS OF BULK AT MOST 1048576: true; the input reads as it did. -/
def fnBeforeUptoRow : OpenClaim := { program := "ytnokdjkkgcpbdab", sum := "48f3c770fd3da531b506b2ee0b03f5a4681635a4f606baeec079c3d2f5ca020f", func := "loop.example/g00185/laws.FnBefore", spec := "fnBefore", apart := false, narrowed := true }
def FnBeforeUptoSaid : Prop := fnBeforeUptoRow.holds Try.pinned (OpenSpec.upto fnBeforeSpec)

end Rows
end Go.Proofs.Ytnokdjkkgcpbdab

/-
  No cell of these rows narrows 'for every input' (looked for: loops, veiled, ifaces, maps, wideKeys, modest, calm, conditions, laid).
  DERIVED. THE GIVEN ROWS OF THIS SEAT. 12 by the template 'for every input the law returns true; each argument reads behind the call as it read before'; 0 by the template 'total and deterministic' (their statements: YtnokdjkkgcpbdaaTotals.lean).
  GIVEN WITH THE SEED: the statements are not yours to turn. If you find one false, say at which input.
  Laid BY PROGRAM, IN A SANDBOX (cutbox-rows.mjs): the forced cells as the released guide's own fill.sh prints them over the translation 3998077ad4b216d7… (all of the seat's roots in one cut). By AI agents, Wed Nov 11 2026. No macro, syntax, notation, axiom, sorry.
-/
import Derived.Test.YtnokdjkkgcpbdaaChecked
import GoSem.Claim
import GoSem.ClaimJoined
import GoSem.ClaimMapViews
import Derived.JoinedTies
import Derived.KernelRfl
namespace Go.Proofs.Ytnokdjkkgcpbdaa
/- THE CELL 'sum', in the pinned program and in every row, IS THE sha256 OF THE DUMP (.gsa) THAT YtnokdjkkgcpbdaaProg.lean LOADS. Nothing in Lean hashes anything: it is a label: what it is worth is what the hold of that sum in a sandbox is worth. -/
noncomputable def Try.pinned : Pinned := { name := "ytnokdjkkgcpbdaa", sum := "3998077ad4b216d7d9d11ce03d6b698ce1a55498d1e10c13d330b12489deb1a4", checked := Try.checked }
namespace Rows
def none {H : Type} : Left H := { results := [], args := [] }

/-- 'laws.FnWeights': WHATEVER THE INPUT: true; the input reads as it did. -/
def fnWeightsSpec : ChangeSpec := { name := "fnWeights", fn := fun _ => fun
  | [d] => { results := [.lit (.bool true)], args := [d] }
  | _ => none }
def fnWeightsRow : OpenClaim := { program := "ytnokdjkkgcpbdaa", sum := "3998077ad4b216d7d9d11ce03d6b698ce1a55498d1e10c13d330b12489deb1a4", func := "loop.example/g00185/laws.FnWeights", spec := "fnWeights", apart := false }
def FnWeightsSaid : Prop := fnWeightsRow.holds Try.pinned (OpenSpec.ofChange fnWeightsSpec)

/-- ITS FALSE NEIGHBOUR: 'it returns false'. Refute it at one input. -/
def fnWeightsWrong : ChangeSpec := { name := "fnWeights", fn := fun _ => fun
  | [d] => { results := [.lit (.bool false)], args := [d] }
  | _ => none }
def FnWeightsWrongFalsely : Prop := fnWeightsRow.holds Try.pinned (OpenSpec.ofChange fnWeightsWrong)

/-- 'laws.FnExactDueShare': WHATEVER THE INPUT: true; the input reads as it did. -/
def fnExactDueShareSpec : ChangeSpec := { name := "fnExactDueShare", fn := fun _ => fun
  | [d] => { results := [.lit (.bool true)], args := [d] }
  | _ => none }
def fnExactDueShareRow : OpenClaim := { program := "ytnokdjkkgcpbdaa", sum := "3998077ad4b216d7d9d11ce03d6b698ce1a55498d1e10c13d330b12489deb1a4", func := "loop.example/g00185/laws.FnExactDueShare", spec := "fnExactDueShare", apart := false }
def FnExactDueShareSaid : Prop := fnExactDueShareRow.holds Try.pinned (OpenSpec.ofChange fnExactDueShareSpec)

/-- ITS FALSE NEIGHBOUR: 'it returns false'. Refute it at one input. -/
def fnExactDueShareWrong : ChangeSpec := { name := "fnExactDueShare", fn := fun _ => fun
  | [d] => { results := [.lit (.bool false)], args := [d] }
  | _ => none }
def FnExactDueShareWrongFalsely : Prop := fnExactDueShareRow.holds Try.pinned (OpenSpec.ofChange fnExactDueShareWrong)

/-- 'laws.FnExactFixedBefore': WHATEVER THE INPUT: true; the input reads as it did. -/
def fnExactFixedBeforeSpec : ChangeSpec := { name := "fnExactFixedBefore", fn := fun _ => fun
  | [d1, d2] => { results := [.lit (.bool true)], args := [d1, d2] }
  | _ => none }
def fnExactFixedBeforeRow : OpenClaim := { program := "ytnokdjkkgcpbdaa", sum := "3998077ad4b216d7d9d11ce03d6b698ce1a55498d1e10c13d330b12489deb1a4", func := "loop.example/g00185/laws.FnExactFixedBefore", spec := "fnExactFixedBefore", apart := false }
def FnExactFixedBeforeSaid : Prop := fnExactFixedBeforeRow.holds Try.pinned (OpenSpec.ofChange fnExactFixedBeforeSpec)

/-- ITS FALSE NEIGHBOUR: 'it returns false'. Refute it at one input. -/
def fnExactFixedBeforeWrong : ChangeSpec := { name := "fnExactFixedBefore", fn := fun _ => fun
  | [d1, d2] => { results := [.lit (.bool false)], args := [d1, d2] }
  | _ => none }
def FnExactFixedBeforeWrongFalsely : Prop := fnExactFixedBeforeRow.holds Try.pinned (OpenSpec.ofChange fnExactFixedBeforeWrong)

/-- 'laws.FnExactNewFair': WHATEVER THE INPUT: true; the input reads as it did. -/
def fnExactNewFairSpec : ChangeSpec := { name := "fnExactNewFair", fn := fun _ => fun
  | [d1, d2, d3, d4] => { results := [.lit (.bool true)], args := [d1, d2, d3, d4] }
  | _ => none }
def fnExactNewFairRow : OpenClaim := { program := "ytnokdjkkgcpbdaa", sum := "3998077ad4b216d7d9d11ce03d6b698ce1a55498d1e10c13d330b12489deb1a4", func := "loop.example/g00185/laws.FnExactNewFair", spec := "fnExactNewFair", apart := false }
def FnExactNewFairSaid : Prop := fnExactNewFairRow.holds Try.pinned (OpenSpec.ofChange fnExactNewFairSpec)

/-- ITS FALSE NEIGHBOUR: 'it returns false'. Refute it at one input. -/
def fnExactNewFairWrong : ChangeSpec := { name := "fnExactNewFair", fn := fun _ => fun
  | [d1, d2, d3, d4] => { results := [.lit (.bool false)], args := [d1, d2, d3, d4] }
  | _ => none }
def FnExactNewFairWrongFalsely : Prop := fnExactNewFairRow.holds Try.pinned (OpenSpec.ofChange fnExactNewFairWrong)

/-- 'laws.FnExactNewFixed': WHATEVER THE INPUT: true; the input reads as it did. -/
def fnExactNewFixedSpec : ChangeSpec := { name := "fnExactNewFixed", fn := fun _ => fun
  | [d1, d2, d3, d4, d5] => { results := [.lit (.bool true)], args := [d1, d2, d3, d4, d5] }
  | _ => none }
def fnExactNewFixedRow : OpenClaim := { program := "ytnokdjkkgcpbdaa", sum := "3998077ad4b216d7d9d11ce03d6b698ce1a55498d1e10c13d330b12489deb1a4", func := "loop.example/g00185/laws.FnExactNewFixed", spec := "fnExactNewFixed", apart := false }
def FnExactNewFixedSaid : Prop := fnExactNewFixedRow.holds Try.pinned (OpenSpec.ofChange fnExactNewFixedSpec)

/-- ITS FALSE NEIGHBOUR: 'it returns false'. Refute it at one input. -/
def fnExactNewFixedWrong : ChangeSpec := { name := "fnExactNewFixed", fn := fun _ => fun
  | [d1, d2, d3, d4, d5] => { results := [.lit (.bool false)], args := [d1, d2, d3, d4, d5] }
  | _ => none }
def FnExactNewFixedWrongFalsely : Prop := fnExactNewFixedRow.holds Try.pinned (OpenSpec.ofChange fnExactNewFixedWrong)

/-- 'laws.FnExactNewDue': WHATEVER THE INPUT: true; the input reads as it did. -/
def fnExactNewDueSpec : ChangeSpec := { name := "fnExactNewDue", fn := fun _ => fun
  | [d1, d2, d3, d4, d5] => { results := [.lit (.bool true)], args := [d1, d2, d3, d4, d5] }
  | _ => none }
def fnExactNewDueRow : OpenClaim := { program := "ytnokdjkkgcpbdaa", sum := "3998077ad4b216d7d9d11ce03d6b698ce1a55498d1e10c13d330b12489deb1a4", func := "loop.example/g00185/laws.FnExactNewDue", spec := "fnExactNewDue", apart := false }
def FnExactNewDueSaid : Prop := fnExactNewDueRow.holds Try.pinned (OpenSpec.ofChange fnExactNewDueSpec)

/-- ITS FALSE NEIGHBOUR: 'it returns false'. Refute it at one input. -/
def fnExactNewDueWrong : ChangeSpec := { name := "fnExactNewDue", fn := fun _ => fun
  | [d1, d2, d3, d4, d5] => { results := [.lit (.bool false)], args := [d1, d2, d3, d4, d5] }
  | _ => none }
def FnExactNewDueWrongFalsely : Prop := fnExactNewDueRow.holds Try.pinned (OpenSpec.ofChange fnExactNewDueWrong)

/-- 'laws.FnExactDueSpend': WHATEVER THE INPUT: true; the input reads as it did. -/
def fnExactDueSpendSpec : ChangeSpec := { name := "fnExactDueSpend", fn := fun _ => fun
  | [d] => { results := [.lit (.bool true)], args := [d] }
  | _ => none }
def fnExactDueSpendRow : OpenClaim := { program := "ytnokdjkkgcpbdaa", sum := "3998077ad4b216d7d9d11ce03d6b698ce1a55498d1e10c13d330b12489deb1a4", func := "loop.example/g00185/laws.FnExactDueSpend", spec := "fnExactDueSpend", apart := false }
def FnExactDueSpendSaid : Prop := fnExactDueSpendRow.holds Try.pinned (OpenSpec.ofChange fnExactDueSpendSpec)

/-- ITS FALSE NEIGHBOUR: 'it returns false'. Refute it at one input. -/
def fnExactDueSpendWrong : ChangeSpec := { name := "fnExactDueSpend", fn := fun _ => fun
  | [d] => { results := [.lit (.bool false)], args := [d] }
  | _ => none }
def FnExactDueSpendWrongFalsely : Prop := fnExactDueSpendRow.holds Try.pinned (OpenSpec.ofChange fnExactDueSpendWrong)

/-- 'laws.FnExactBefore': WHATEVER THE INPUT: true; the input reads as it did. -/
def fnExactBeforeSpec : ChangeSpec := { name := "fnExactBefore", fn := fun _ => fun
  | [d1, d2] => { results := [.lit (.bool true)], args := [d1, d2] }
  | _ => none }
def fnExactBeforeRow : OpenClaim := { program := "ytnokdjkkgcpbdaa", sum := "3998077ad4b216d7d9d11ce03d6b698ce1a55498d1e10c13d330b12489deb1a4", func := "loop.example/g00185/laws.FnExactBefore", spec := "fnExactBefore", apart := false }
def FnExactBeforeSaid : Prop := fnExactBeforeRow.holds Try.pinned (OpenSpec.ofChange fnExactBeforeSpec)

/-- ITS FALSE NEIGHBOUR: 'it returns false'. Refute it at one input. -/
def fnExactBeforeWrong : ChangeSpec := { name := "fnExactBefore", fn := fun _ => fun
  | [d1, d2] => { results := [.lit (.bool false)], args := [d1, d2] }
  | _ => none }
def FnExactBeforeWrongFalsely : Prop := fnExactBeforeRow.holds Try.pinned (OpenSpec.ofChange fnExactBeforeWrong)

/-- 'laws.FnExactDueRenew': WHATEVER THE INPUT: true; the input reads as it did. -/
def fnExactDueRenewSpec : ChangeSpec := { name := "fnExactDueRenew", fn := fun _ => fun
  | [d1, d2] => { results := [.lit (.bool true)], args := [d1, d2] }
  | _ => none }
def fnExactDueRenewRow : OpenClaim := { program := "ytnokdjkkgcpbdaa", sum := "3998077ad4b216d7d9d11ce03d6b698ce1a55498d1e10c13d330b12489deb1a4", func := "loop.example/g00185/laws.FnExactDueRenew", spec := "fnExactDueRenew", apart := false }
def FnExactDueRenewSaid : Prop := fnExactDueRenewRow.holds Try.pinned (OpenSpec.ofChange fnExactDueRenewSpec)

/-- ITS FALSE NEIGHBOUR: 'it returns false'. Refute it at one input. -/
def fnExactDueRenewWrong : ChangeSpec := { name := "fnExactDueRenew", fn := fun _ => fun
  | [d1, d2] => { results := [.lit (.bool false)], args := [d1, d2] }
  | _ => none }
def FnExactDueRenewWrongFalsely : Prop := fnExactDueRenewRow.holds Try.pinned (OpenSpec.ofChange fnExactDueRenewWrong)

/-- 'laws.FnExactDueWake': WHATEVER THE INPUT: true; the input reads as it did. -/
def fnExactDueWakeSpec : ChangeSpec := { name := "fnExactDueWake", fn := fun _ => fun
  | [d1, d2] => { results := [.lit (.bool true)], args := [d1, d2] }
  | _ => none }
def fnExactDueWakeRow : OpenClaim := { program := "ytnokdjkkgcpbdaa", sum := "3998077ad4b216d7d9d11ce03d6b698ce1a55498d1e10c13d330b12489deb1a4", func := "loop.example/g00185/laws.FnExactDueWake", spec := "fnExactDueWake", apart := false }
def FnExactDueWakeSaid : Prop := fnExactDueWakeRow.holds Try.pinned (OpenSpec.ofChange fnExactDueWakeSpec)

/-- ITS FALSE NEIGHBOUR: 'it returns false'. Refute it at one input. -/
def fnExactDueWakeWrong : ChangeSpec := { name := "fnExactDueWake", fn := fun _ => fun
  | [d1, d2] => { results := [.lit (.bool false)], args := [d1, d2] }
  | _ => none }
def FnExactDueWakeWrongFalsely : Prop := fnExactDueWakeRow.holds Try.pinned (OpenSpec.ofChange fnExactDueWakeWrong)

/-- 'laws.FnExactFixedSpend': WHATEVER THE INPUT: true; the input reads as it did. -/
def fnExactFixedSpendSpec : ChangeSpec := { name := "fnExactFixedSpend", fn := fun _ => fun
  | [d1, d2] => { results := [.lit (.bool true)], args := [d1, d2] }
  | _ => none }
def fnExactFixedSpendRow : OpenClaim := { program := "ytnokdjkkgcpbdaa", sum := "3998077ad4b216d7d9d11ce03d6b698ce1a55498d1e10c13d330b12489deb1a4", func := "loop.example/g00185/laws.FnExactFixedSpend", spec := "fnExactFixedSpend", apart := false }
def FnExactFixedSpendSaid : Prop := fnExactFixedSpendRow.holds Try.pinned (OpenSpec.ofChange fnExactFixedSpendSpec)

/-- ITS FALSE NEIGHBOUR: 'it returns false'. Refute it at one input. -/
def fnExactFixedSpendWrong : ChangeSpec := { name := "fnExactFixedSpend", fn := fun _ => fun
  | [d1, d2] => { results := [.lit (.bool false)], args := [d1, d2] }
  | _ => none }
def FnExactFixedSpendWrongFalsely : Prop := fnExactFixedSpendRow.holds Try.pinned (OpenSpec.ofChange fnExactFixedSpendWrong)

/-- 'laws.FnExactFairMove': WHATEVER THE INPUT: true; the input reads as it did. -/
def fnExactFairMoveSpec : ChangeSpec := { name := "fnExactFairMove", fn := fun _ => fun
  | [d1, d2, d3, d4] => { results := [.lit (.bool true)], args := [d1, d2, d3, d4] }
  | _ => none }
def fnExactFairMoveRow : OpenClaim := { program := "ytnokdjkkgcpbdaa", sum := "3998077ad4b216d7d9d11ce03d6b698ce1a55498d1e10c13d330b12489deb1a4", func := "loop.example/g00185/laws.FnExactFairMove", spec := "fnExactFairMove", apart := false }
def FnExactFairMoveSaid : Prop := fnExactFairMoveRow.holds Try.pinned (OpenSpec.ofChange fnExactFairMoveSpec)

/-- ITS FALSE NEIGHBOUR: 'it returns false'. Refute it at one input. -/
def fnExactFairMoveWrong : ChangeSpec := { name := "fnExactFairMove", fn := fun _ => fun
  | [d1, d2, d3, d4] => { results := [.lit (.bool false)], args := [d1, d2, d3, d4] }
  | _ => none }
def FnExactFairMoveWrongFalsely : Prop := fnExactFairMoveRow.holds Try.pinned (OpenSpec.ofChange fnExactFairMoveWrong)

/- THE SECOND FORM. 'bulk': how many values and letters a reading holds, each counted each time it is reached (what is shared counts as often as it is met; a slice's spare places count too). A statement '..UptoSaid' is the law's where the arguments, and the package variables that the reading takes, are together of bulk at most 1048576: NARROWER than '..Said'. Prove '..Said' where nothing that the law and all that it calls make is longer than what came in: it says more and counts as full. Else prove '..UptoSaid'. A law counts once. -/
mutual
def uptoBulk {H : Type} : DataW H → Nat
  | .lit (.string bytes) => bytes.length + 1
  | .lit _ => 1
  | .nil => 1
  | .ptr d => uptoBulk d + 1
  | .slice elems spare => uptoBulkAll elems + uptoBulkAll spare + 1
  | .agg parts => uptoBulkAll parts + 1
  | .iface _ d => uptoBulk d + 1
  | .map entries => uptoBulkEntries entries + 1
  | .held _ => 1
def uptoBulkAll {H : Type} : List (DataW H) → Nat
  | [] => 0
  | d :: r => uptoBulk d + uptoBulkAll r
def uptoBulkEntries {H : Type} : List (Lit × DataW H) → Nat
  | [] => 0
  | x :: r => uptoBulkEntry x + uptoBulkEntries r
def uptoBulkEntry {H : Type} : Lit × DataW H → Nat
  | (.string bytes, d) => bytes.length + uptoBulk d + 1
  | (_, d) => uptoBulk d + 1
 end
def uptoSmall : (H : Type) → List (DataW H) → Bool := fun _ ds => decide (uptoBulkAll ds ≤ 1048576)
def OpenSpec.upto (s : _root_.Go.ChangeSpec) : _root_.Go.OpenSpec := { _root_.Go.OpenSpec.ofChange s with cond := some uptoSmall }

/-- 'laws.FnWeights', WHERE WHAT IT READS IS OF BULK AT MOST 1048576: true; the input reads as it did. -/
def fnWeightsUptoRow : OpenClaim := { program := "ytnokdjkkgcpbdaa", sum := "3998077ad4b216d7d9d11ce03d6b698ce1a55498d1e10c13d330b12489deb1a4", func := "loop.example/g00185/laws.FnWeights", spec := "fnWeights", apart := false, narrowed := true }
def FnWeightsUptoSaid : Prop := fnWeightsUptoRow.holds Try.pinned (OpenSpec.upto fnWeightsSpec)

/-- 'laws.FnExactDueShare', WHERE WHAT IT READS IS OF BULK AT MOST 1048576: true; the input reads as it did. -/
def fnExactDueShareUptoRow : OpenClaim := { program := "ytnokdjkkgcpbdaa", sum := "3998077ad4b216d7d9d11ce03d6b698ce1a55498d1e10c13d330b12489deb1a4", func := "loop.example/g00185/laws.FnExactDueShare", spec := "fnExactDueShare", apart := false, narrowed := true }
def FnExactDueShareUptoSaid : Prop := fnExactDueShareUptoRow.holds Try.pinned (OpenSpec.upto fnExactDueShareSpec)

/-- 'laws.FnExactFixedBefore', WHERE WHAT IT READS IS OF BULK AT MOST 1048576: true; the input reads as it did. -/
def fnExactFixedBeforeUptoRow : OpenClaim := { program := "ytnokdjkkgcpbdaa", sum := "3998077ad4b216d7d9d11ce03d6b698ce1a55498d1e10c13d330b12489deb1a4", func := "loop.example/g00185/laws.FnExactFixedBefore", spec := "fnExactFixedBefore", apart := false, narrowed := true }
def FnExactFixedBeforeUptoSaid : Prop := fnExactFixedBeforeUptoRow.holds Try.pinned (OpenSpec.upto fnExactFixedBeforeSpec)

/-- 'laws.FnExactNewFair', WHERE WHAT IT READS IS OF BULK AT MOST 1048576: true; the input reads as it did. -/
def fnExactNewFairUptoRow : OpenClaim := { program := "ytnokdjkkgcpbdaa", sum := "3998077ad4b216d7d9d11ce03d6b698ce1a55498d1e10c13d330b12489deb1a4", func := "loop.example/g00185/laws.FnExactNewFair", spec := "fnExactNewFair", apart := false, narrowed := true }
def FnExactNewFairUptoSaid : Prop := fnExactNewFairUptoRow.holds Try.pinned (OpenSpec.upto fnExactNewFairSpec)

/-- 'laws.FnExactNewFixed', WHERE WHAT IT READS IS OF BULK AT MOST 1048576: true; the input reads as it did. -/
def fnExactNewFixedUptoRow : OpenClaim := { program := "ytnokdjkkgcpbdaa", sum := "3998077ad4b216d7d9d11ce03d6b698ce1a55498d1e10c13d330b12489deb1a4", func := "loop.example/g00185/laws.FnExactNewFixed", spec := "fnExactNewFixed", apart := false, narrowed := true }
def FnExactNewFixedUptoSaid : Prop := fnExactNewFixedUptoRow.holds Try.pinned (OpenSpec.upto fnExactNewFixedSpec)

/-- 'laws.FnExactNewDue', WHERE WHAT IT READS IS OF BULK AT MOST 1048576: true; the input reads as it did. -/
def fnExactNewDueUptoRow : OpenClaim := { program := "ytnokdjkkgcpbdaa", sum := "3998077ad4b216d7d9d11ce03d6b698ce1a55498d1e10c13d330b12489deb1a4", func := "loop.example/g00185/laws.FnExactNewDue", spec := "fnExactNewDue", apart := false, narrowed := true }
def FnExactNewDueUptoSaid : Prop := fnExactNewDueUptoRow.holds Try.pinned (OpenSpec.upto fnExactNewDueSpec)

/-- 'laws.FnExactDueSpend', WHERE WHAT IT READS IS OF BULK AT MOST 1048576: true; the input reads as it did. -/
def fnExactDueSpendUptoRow : OpenClaim := { program := "ytnokdjkkgcpbdaa", sum := "3998077ad4b216d7d9d11ce03d6b698ce1a55498d1e10c13d330b12489deb1a4", func := "loop.example/g00185/laws.FnExactDueSpend", spec := "fnExactDueSpend", apart := false, narrowed := true }
def FnExactDueSpendUptoSaid : Prop := fnExactDueSpendUptoRow.holds Try.pinned (OpenSpec.upto fnExactDueSpendSpec)

/-- 'laws.FnExactBefore', WHERE WHAT IT READS IS OF BULK AT MOST 1048576: true; the input reads as it did. -/
def fnExactBeforeUptoRow : OpenClaim := { program := "ytnokdjkkgcpbdaa", sum := "3998077ad4b216d7d9d11ce03d6b698ce1a55498d1e10c13d330b12489deb1a4", func := "loop.example/g00185/laws.FnExactBefore", spec := "fnExactBefore", apart := false, narrowed := true }
def FnExactBeforeUptoSaid : Prop := fnExactBeforeUptoRow.holds Try.pinned (OpenSpec.upto fnExactBeforeSpec)

/-- 'laws.FnExactDueRenew', WHERE WHAT IT READS IS OF BULK AT MOST 1048576: true; the input reads as it did. -/
def fnExactDueRenewUptoRow : OpenClaim := { program := "ytnokdjkkgcpbdaa", sum := "3998077ad4b216d7d9d11ce03d6b698ce1a55498d1e10c13d330b12489deb1a4", func := "loop.example/g00185/laws.FnExactDueRenew", spec := "fnExactDueRenew", apart := false, narrowed := true }
def FnExactDueRenewUptoSaid : Prop := fnExactDueRenewUptoRow.holds Try.pinned (OpenSpec.upto fnExactDueRenewSpec)

/-- 'laws.FnExactDueWake', WHERE WHAT IT READS IS OF BULK AT MOST 1048576: true; the input reads as it did. -/
def fnExactDueWakeUptoRow : OpenClaim := { program := "ytnokdjkkgcpbdaa", sum := "3998077ad4b216d7d9d11ce03d6b698ce1a55498d1e10c13d330b12489deb1a4", func := "loop.example/g00185/laws.FnExactDueWake", spec := "fnExactDueWake", apart := false, narrowed := true }
def FnExactDueWakeUptoSaid : Prop := fnExactDueWakeUptoRow.holds Try.pinned (OpenSpec.upto fnExactDueWakeSpec)

/-- 'laws.FnExactFixedSpend', WHERE WHAT IT READS IS OF BULK AT MOST 1048576: true; the input reads as it did. -/
def fnExactFixedSpendUptoRow : OpenClaim := { program := "ytnokdjkkgcpbdaa", sum := "3998077ad4b216d7d9d11ce03d6b698ce1a55498d1e10c13d330b12489deb1a4", func := "loop.example/g00185/laws.FnExactFixedSpend", spec := "fnExactFixedSpend", apart := false, narrowed := true }
def FnExactFixedSpendUptoSaid : Prop := fnExactFixedSpendUptoRow.holds Try.pinned (OpenSpec.upto fnExactFixedSpendSpec)

/-- 'laws.FnExactFairMove', WHERE WHAT IT READS IS OF BULK AT MOST 1048576: true; the input reads as it did. -/
def fnExactFairMoveUptoRow : OpenClaim := { program := "ytnokdjkkgcpbdaa", sum := "3998077ad4b216d7d9d11ce03d6b698ce1a55498d1e10c13d330b12489deb1a4", func := "loop.example/g00185/laws.FnExactFairMove", spec := "fnExactFairMove", apart := false, narrowed := true }
def FnExactFairMoveUptoSaid : Prop := fnExactFairMoveUptoRow.holds Try.pinned (OpenSpec.upto fnExactFairMoveSpec)

end Rows
end Go.Proofs.Ytnokdjkkgcpbdaa

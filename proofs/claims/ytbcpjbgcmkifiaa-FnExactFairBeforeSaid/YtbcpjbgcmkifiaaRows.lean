/-
  No cell of these rows narrows 'for every input' (looked for: loops, veiled, ifaces, maps, wideKeys, modest, calm, conditions, laid).
  DERIVED. THE GIVEN ROWS OF THIS SEAT. 12 by the template 'for every input the law returns true; each argument reads behind the call as it read before'; 0 by the template 'total and deterministic' (their statements: YtbcpjbgcmkifiaaTotals.lean).
  GIVEN WITH THE SEED: the statements are not yours to turn. If you find one false, say at which input.
  Laid BY PROGRAM, IN A SANDBOX (cutbox-rows.mjs): the forced cells as the released guide's own fill.sh prints them over the translation 6c4adf8fd3855b1c… (all of the seat's roots in one cut). By AI agents, Wed Nov 11 2026. No macro, syntax, notation, axiom, sorry.
-/
import Derived.Test.YtbcpjbgcmkifiaaChecked
import GoSem.Claim
import GoSem.ClaimJoined
import GoSem.ClaimMapViews
import Derived.JoinedTies
import Derived.KernelRfl
namespace Go.Proofs.Ytbcpjbgcmkifiaa
/- THE CELL 'sum', in the pinned program and in every row, IS THE sha256 OF THE DUMP (.gsa) THAT YtbcpjbgcmkifiaaProg.lean LOADS. Nothing in Lean hashes anything: it is a label: what it is worth is what the hold of that sum in a sandbox is worth. -/
noncomputable def Try.pinned : Pinned := { name := "ytbcpjbgcmkifiaa", sum := "6c4adf8fd3855b1c2443a1ebc8c9752a80c1f4c4a825ee67fa40bfb4061053e1", checked := Try.checked }
namespace Rows
def none {H : Type} : Left H := { results := [], args := [] }

/-- 'laws.FnExactConstants': WHATEVER THE INPUT: true; the input reads as it did. -/
def fnExactConstantsSpec : ChangeSpec := { name := "fnExactConstants", fn := fun _ => fun
  | [] => { results := [.lit (.bool true)], args := [] }
  | _ => none }
def fnExactConstantsRow : OpenClaim := { program := "ytbcpjbgcmkifiaa", sum := "6c4adf8fd3855b1c2443a1ebc8c9752a80c1f4c4a825ee67fa40bfb4061053e1", func := "loop.example/g00185/laws.FnExactConstants", spec := "fnExactConstants", apart := false }
def FnExactConstantsSaid : Prop := fnExactConstantsRow.holds Try.pinned (OpenSpec.ofChange fnExactConstantsSpec)

/-- ITS FALSE NEIGHBOUR: 'it returns false'. Refute it at one input. -/
def fnExactConstantsWrong : ChangeSpec := { name := "fnExactConstants", fn := fun _ => fun
  | [] => { results := [.lit (.bool false)], args := [] }
  | _ => none }
def FnExactConstantsWrongFalsely : Prop := fnExactConstantsRow.holds Try.pinned (OpenSpec.ofChange fnExactConstantsWrong)

/-- 'laws.FnExactNiceOk': WHATEVER THE INPUT: true; the input reads as it did. -/
def fnExactNiceOkSpec : ChangeSpec := { name := "fnExactNiceOk", fn := fun _ => fun
  | [d] => { results := [.lit (.bool true)], args := [d] }
  | _ => none }
def fnExactNiceOkRow : OpenClaim := { program := "ytbcpjbgcmkifiaa", sum := "6c4adf8fd3855b1c2443a1ebc8c9752a80c1f4c4a825ee67fa40bfb4061053e1", func := "loop.example/g00185/laws.FnExactNiceOk", spec := "fnExactNiceOk", apart := false }
def FnExactNiceOkSaid : Prop := fnExactNiceOkRow.holds Try.pinned (OpenSpec.ofChange fnExactNiceOkSpec)

/-- ITS FALSE NEIGHBOUR: 'it returns false'. Refute it at one input. -/
def fnExactNiceOkWrong : ChangeSpec := { name := "fnExactNiceOk", fn := fun _ => fun
  | [d] => { results := [.lit (.bool false)], args := [d] }
  | _ => none }
def FnExactNiceOkWrongFalsely : Prop := fnExactNiceOkRow.holds Try.pinned (OpenSpec.ofChange fnExactNiceOkWrong)

/-- 'laws.FnExactShareOk': WHATEVER THE INPUT: true; the input reads as it did. -/
def fnExactShareOkSpec : ChangeSpec := { name := "fnExactShareOk", fn := fun _ => fun
  | [d] => { results := [.lit (.bool true)], args := [d] }
  | _ => none }
def fnExactShareOkRow : OpenClaim := { program := "ytbcpjbgcmkifiaa", sum := "6c4adf8fd3855b1c2443a1ebc8c9752a80c1f4c4a825ee67fa40bfb4061053e1", func := "loop.example/g00185/laws.FnExactShareOk", spec := "fnExactShareOk", apart := false }
def FnExactShareOkSaid : Prop := fnExactShareOkRow.holds Try.pinned (OpenSpec.ofChange fnExactShareOkSpec)

/-- ITS FALSE NEIGHBOUR: 'it returns false'. Refute it at one input. -/
def fnExactShareOkWrong : ChangeSpec := { name := "fnExactShareOk", fn := fun _ => fun
  | [d] => { results := [.lit (.bool false)], args := [d] }
  | _ => none }
def FnExactShareOkWrongFalsely : Prop := fnExactShareOkRow.holds Try.pinned (OpenSpec.ofChange fnExactShareOkWrong)

/-- 'laws.FnExactShareLess': WHATEVER THE INPUT: true; the input reads as it did. -/
def fnExactShareLessSpec : ChangeSpec := { name := "fnExactShareLess", fn := fun _ => fun
  | [d1, d2] => { results := [.lit (.bool true)], args := [d1, d2] }
  | _ => none }
def fnExactShareLessRow : OpenClaim := { program := "ytbcpjbgcmkifiaa", sum := "6c4adf8fd3855b1c2443a1ebc8c9752a80c1f4c4a825ee67fa40bfb4061053e1", func := "loop.example/g00185/laws.FnExactShareLess", spec := "fnExactShareLess", apart := false }
def FnExactShareLessSaid : Prop := fnExactShareLessRow.holds Try.pinned (OpenSpec.ofChange fnExactShareLessSpec)

/-- ITS FALSE NEIGHBOUR: 'it returns false'. Refute it at one input. -/
def fnExactShareLessWrong : ChangeSpec := { name := "fnExactShareLess", fn := fun _ => fun
  | [d1, d2] => { results := [.lit (.bool false)], args := [d1, d2] }
  | _ => none }
def FnExactShareLessWrongFalsely : Prop := fnExactShareLessRow.holds Try.pinned (OpenSpec.ofChange fnExactShareLessWrong)

/-- 'laws.FnExactWeightOf': WHATEVER THE INPUT: true; the input reads as it did. -/
def fnExactWeightOfSpec : ChangeSpec := { name := "fnExactWeightOf", fn := fun _ => fun
  | [d] => { results := [.lit (.bool true)], args := [d] }
  | _ => none }
def fnExactWeightOfRow : OpenClaim := { program := "ytbcpjbgcmkifiaa", sum := "6c4adf8fd3855b1c2443a1ebc8c9752a80c1f4c4a825ee67fa40bfb4061053e1", func := "loop.example/g00185/laws.FnExactWeightOf", spec := "fnExactWeightOf", apart := false }
def FnExactWeightOfSaid : Prop := fnExactWeightOfRow.holds Try.pinned (OpenSpec.ofChange fnExactWeightOfSpec)

/-- ITS FALSE NEIGHBOUR: 'it returns false'. Refute it at one input. -/
def fnExactWeightOfWrong : ChangeSpec := { name := "fnExactWeightOf", fn := fun _ => fun
  | [d] => { results := [.lit (.bool false)], args := [d] }
  | _ => none }
def FnExactWeightOfWrongFalsely : Prop := fnExactWeightOfRow.holds Try.pinned (OpenSpec.ofChange fnExactWeightOfWrong)

/-- 'laws.FnExactStepOf': WHATEVER THE INPUT: true; the input reads as it did. -/
def fnExactStepOfSpec : ChangeSpec := { name := "fnExactStepOf", fn := fun _ => fun
  | [d] => { results := [.lit (.bool true)], args := [d] }
  | _ => none }
def fnExactStepOfRow : OpenClaim := { program := "ytbcpjbgcmkifiaa", sum := "6c4adf8fd3855b1c2443a1ebc8c9752a80c1f4c4a825ee67fa40bfb4061053e1", func := "loop.example/g00185/laws.FnExactStepOf", spec := "fnExactStepOf", apart := false }
def FnExactStepOfSaid : Prop := fnExactStepOfRow.holds Try.pinned (OpenSpec.ofChange fnExactStepOfSpec)

/-- ITS FALSE NEIGHBOUR: 'it returns false'. Refute it at one input. -/
def fnExactStepOfWrong : ChangeSpec := { name := "fnExactStepOf", fn := fun _ => fun
  | [d] => { results := [.lit (.bool false)], args := [d] }
  | _ => none }
def FnExactStepOfWrongFalsely : Prop := fnExactStepOfRow.holds Try.pinned (OpenSpec.ofChange fnExactStepOfWrong)

/-- 'laws.FnExactGcd': WHATEVER THE INPUT: true; the input reads as it did. -/
def fnExactGcdSpec : ChangeSpec := { name := "fnExactGcd", fn := fun _ => fun
  | [d1, d2] => { results := [.lit (.bool true)], args := [d1, d2] }
  | _ => none }
def fnExactGcdRow : OpenClaim := { program := "ytbcpjbgcmkifiaa", sum := "6c4adf8fd3855b1c2443a1ebc8c9752a80c1f4c4a825ee67fa40bfb4061053e1", func := "loop.example/g00185/laws.FnExactGcd", spec := "fnExactGcd", apart := false }
def FnExactGcdSaid : Prop := fnExactGcdRow.holds Try.pinned (OpenSpec.ofChange fnExactGcdSpec)

/-- ITS FALSE NEIGHBOUR: 'it returns false'. Refute it at one input. -/
def fnExactGcdWrong : ChangeSpec := { name := "fnExactGcd", fn := fun _ => fun
  | [d1, d2] => { results := [.lit (.bool false)], args := [d1, d2] }
  | _ => none }
def FnExactGcdWrongFalsely : Prop := fnExactGcdRow.holds Try.pinned (OpenSpec.ofChange fnExactGcdWrong)

/-- 'laws.FnExactPartOf': WHATEVER THE INPUT: true; the input reads as it did. -/
def fnExactPartOfSpec : ChangeSpec := { name := "fnExactPartOf", fn := fun _ => fun
  | [d1, d2] => { results := [.lit (.bool true)], args := [d1, d2] }
  | _ => none }
def fnExactPartOfRow : OpenClaim := { program := "ytbcpjbgcmkifiaa", sum := "6c4adf8fd3855b1c2443a1ebc8c9752a80c1f4c4a825ee67fa40bfb4061053e1", func := "loop.example/g00185/laws.FnExactPartOf", spec := "fnExactPartOf", apart := false }
def FnExactPartOfSaid : Prop := fnExactPartOfRow.holds Try.pinned (OpenSpec.ofChange fnExactPartOfSpec)

/-- ITS FALSE NEIGHBOUR: 'it returns false'. Refute it at one input. -/
def fnExactPartOfWrong : ChangeSpec := { name := "fnExactPartOf", fn := fun _ => fun
  | [d1, d2] => { results := [.lit (.bool false)], args := [d1, d2] }
  | _ => none }
def FnExactPartOfWrongFalsely : Prop := fnExactPartOfRow.holds Try.pinned (OpenSpec.ofChange fnExactPartOfWrong)

/-- 'laws.FnGcd': WHATEVER THE INPUT: true; the input reads as it did. -/
def fnGcdSpec : ChangeSpec := { name := "fnGcd", fn := fun _ => fun
  | [d] => { results := [.lit (.bool true)], args := [d] }
  | _ => none }
def fnGcdRow : OpenClaim := { program := "ytbcpjbgcmkifiaa", sum := "6c4adf8fd3855b1c2443a1ebc8c9752a80c1f4c4a825ee67fa40bfb4061053e1", func := "loop.example/g00185/laws.FnGcd", spec := "fnGcd", apart := false }
def FnGcdSaid : Prop := fnGcdRow.holds Try.pinned (OpenSpec.ofChange fnGcdSpec)

/-- ITS FALSE NEIGHBOUR: 'it returns false'. Refute it at one input. -/
def fnGcdWrong : ChangeSpec := { name := "fnGcd", fn := fun _ => fun
  | [d] => { results := [.lit (.bool false)], args := [d] }
  | _ => none }
def FnGcdWrongFalsely : Prop := fnGcdRow.holds Try.pinned (OpenSpec.ofChange fnGcdWrong)

/-- 'laws.FnExactTaskOk': WHATEVER THE INPUT: true; the input reads as it did. -/
def fnExactTaskOkSpec : ChangeSpec := { name := "fnExactTaskOk", fn := fun _ => fun
  | [d] => { results := [.lit (.bool true)], args := [d] }
  | _ => none }
def fnExactTaskOkRow : OpenClaim := { program := "ytbcpjbgcmkifiaa", sum := "6c4adf8fd3855b1c2443a1ebc8c9752a80c1f4c4a825ee67fa40bfb4061053e1", func := "loop.example/g00185/laws.FnExactTaskOk", spec := "fnExactTaskOk", apart := false }
def FnExactTaskOkSaid : Prop := fnExactTaskOkRow.holds Try.pinned (OpenSpec.ofChange fnExactTaskOkSpec)

/-- ITS FALSE NEIGHBOUR: 'it returns false'. Refute it at one input. -/
def fnExactTaskOkWrong : ChangeSpec := { name := "fnExactTaskOk", fn := fun _ => fun
  | [d] => { results := [.lit (.bool false)], args := [d] }
  | _ => none }
def FnExactTaskOkWrongFalsely : Prop := fnExactTaskOkRow.holds Try.pinned (OpenSpec.ofChange fnExactTaskOkWrong)

/-- 'laws.FnExactDueBefore': WHATEVER THE INPUT: true; the input reads as it did. -/
def fnExactDueBeforeSpec : ChangeSpec := { name := "fnExactDueBefore", fn := fun _ => fun
  | [d1, d2] => { results := [.lit (.bool true)], args := [d1, d2] }
  | _ => none }
def fnExactDueBeforeRow : OpenClaim := { program := "ytbcpjbgcmkifiaa", sum := "6c4adf8fd3855b1c2443a1ebc8c9752a80c1f4c4a825ee67fa40bfb4061053e1", func := "loop.example/g00185/laws.FnExactDueBefore", spec := "fnExactDueBefore", apart := false }
def FnExactDueBeforeSaid : Prop := fnExactDueBeforeRow.holds Try.pinned (OpenSpec.ofChange fnExactDueBeforeSpec)

/-- ITS FALSE NEIGHBOUR: 'it returns false'. Refute it at one input. -/
def fnExactDueBeforeWrong : ChangeSpec := { name := "fnExactDueBefore", fn := fun _ => fun
  | [d1, d2] => { results := [.lit (.bool false)], args := [d1, d2] }
  | _ => none }
def FnExactDueBeforeWrongFalsely : Prop := fnExactDueBeforeRow.holds Try.pinned (OpenSpec.ofChange fnExactDueBeforeWrong)

/-- 'laws.FnExactFairBefore': WHATEVER THE INPUT: true; the input reads as it did. -/
def fnExactFairBeforeSpec : ChangeSpec := { name := "fnExactFairBefore", fn := fun _ => fun
  | [d1, d2] => { results := [.lit (.bool true)], args := [d1, d2] }
  | _ => none }
def fnExactFairBeforeRow : OpenClaim := { program := "ytbcpjbgcmkifiaa", sum := "6c4adf8fd3855b1c2443a1ebc8c9752a80c1f4c4a825ee67fa40bfb4061053e1", func := "loop.example/g00185/laws.FnExactFairBefore", spec := "fnExactFairBefore", apart := false }
def FnExactFairBeforeSaid : Prop := fnExactFairBeforeRow.holds Try.pinned (OpenSpec.ofChange fnExactFairBeforeSpec)

/-- ITS FALSE NEIGHBOUR: 'it returns false'. Refute it at one input. -/
def fnExactFairBeforeWrong : ChangeSpec := { name := "fnExactFairBefore", fn := fun _ => fun
  | [d1, d2] => { results := [.lit (.bool false)], args := [d1, d2] }
  | _ => none }
def FnExactFairBeforeWrongFalsely : Prop := fnExactFairBeforeRow.holds Try.pinned (OpenSpec.ofChange fnExactFairBeforeWrong)

/- THE SECOND FORM. 'bulk': how many values and letters a reading holds, each counted each time it is reached (what is shared counts as often as it is met; a slice's spare places count too). A statement '..UptoSaid' is the law's where the arguments, and the package variables that the reading takes, are together of bulk at most 1048576: NARROWER than '..Said'. Prove '..Said' where nothing that the law and all that it calls make is longer than what came in: it says more and counts as full. Else prove '..UptoSaid'. A law counts once. -/
mutual
def uptoBulk {H : Type} : DataW H → Nat
  | .lit (.string bytes) => bytes.length + 1
  | .lit _ => 1
  | .nil => 1
  | .ptr d => uptoBulk d + 1
  | .slice elems spare => uptoBulkAll elems + uptoBulkAll spare + 1
  | .agg parts => uptoBulkAll parts + 1
  | .iface _ d => uptoBulk d + 1
  | .map entries => uptoBulkEntries entries + 1
  | .held _ => 1
def uptoBulkAll {H : Type} : List (DataW H) → Nat
  | [] => 0
  | d :: r => uptoBulk d + uptoBulkAll r
def uptoBulkEntries {H : Type} : List (Lit × DataW H) → Nat
  | [] => 0
  | x :: r => uptoBulkEntry x + uptoBulkEntries r
def uptoBulkEntry {H : Type} : Lit × DataW H → Nat
  | (.string bytes, d) => bytes.length + uptoBulk d + 1
  | (_, d) => uptoBulk d + 1
 end
def uptoSmall : (H : Type) → List (DataW H) → Bool := fun _ ds => decide (uptoBulkAll ds ≤ 1048576)
def OpenSpec.upto (s : _root_.Go.ChangeSpec) : _root_.Go.OpenSpec := { _root_.Go.OpenSpec.ofChange s with cond := some uptoSmall }

/-- 'laws.FnExactConstants', WHERE WHAT IT READS IS OF BULK AT MOST 1048576: true; the input reads as it did. -/
def fnExactConstantsUptoRow : OpenClaim := { program := "ytbcpjbgcmkifiaa", sum := "6c4adf8fd3855b1c2443a1ebc8c9752a80c1f4c4a825ee67fa40bfb4061053e1", func := "loop.example/g00185/laws.FnExactConstants", spec := "fnExactConstants", apart := false, narrowed := true }
def FnExactConstantsUptoSaid : Prop := fnExactConstantsUptoRow.holds Try.pinned (OpenSpec.upto fnExactConstantsSpec)

/-- 'laws.FnExactNiceOk', WHERE WHAT IT READS IS OF BULK AT MOST 1048576: true; the input reads as it did. -/
def fnExactNiceOkUptoRow : OpenClaim := { program := "ytbcpjbgcmkifiaa", sum := "6c4adf8fd3855b1c2443a1ebc8c9752a80c1f4c4a825ee67fa40bfb4061053e1", func := "loop.example/g00185/laws.FnExactNiceOk", spec := "fnExactNiceOk", apart := false, narrowed := true }
def FnExactNiceOkUptoSaid : Prop := fnExactNiceOkUptoRow.holds Try.pinned (OpenSpec.upto fnExactNiceOkSpec)

/-- 'laws.FnExactShareOk', WHERE WHAT IT READS IS OF BULK AT MOST 1048576: true; the input reads as it did. -/
def fnExactShareOkUptoRow : OpenClaim := { program := "ytbcpjbgcmkifiaa", sum := "6c4adf8fd3855b1c2443a1ebc8c9752a80c1f4c4a825ee67fa40bfb4061053e1", func := "loop.example/g00185/laws.FnExactShareOk", spec := "fnExactShareOk", apart := false, narrowed := true }
def FnExactShareOkUptoSaid : Prop := fnExactShareOkUptoRow.holds Try.pinned (OpenSpec.upto fnExactShareOkSpec)

/-- 'laws.FnExactShareLess', WHERE WHAT IT READS IS OF BULK AT MOST 1048576: true; the input reads as it did. -/
def fnExactShareLessUptoRow : OpenClaim := { program := "ytbcpjbgcmkifiaa", sum := "6c4adf8fd3855b1c2443a1ebc8c9752a80c1f4c4a825ee67fa40bfb4061053e1", func := "loop.example/g00185/laws.FnExactShareLess", spec := "fnExactShareLess", apart := false, narrowed := true }
def FnExactShareLessUptoSaid : Prop := fnExactShareLessUptoRow.holds Try.pinned (OpenSpec.upto fnExactShareLessSpec)

/-- 'laws.FnExactWeightOf', WHERE WHAT IT READS IS OF BULK AT MOST 1048576: true; the input reads as it did. -/
def fnExactWeightOfUptoRow : OpenClaim := { program := "ytbcpjbgcmkifiaa", sum := "6c4adf8fd3855b1c2443a1ebc8c9752a80c1f4c4a825ee67fa40bfb4061053e1", func := "loop.example/g00185/laws.FnExactWeightOf", spec := "fnExactWeightOf", apart := false, narrowed := true }
def FnExactWeightOfUptoSaid : Prop := fnExactWeightOfUptoRow.holds Try.pinned (OpenSpec.upto fnExactWeightOfSpec)

/-- 'laws.FnExactStepOf', WHERE WHAT IT READS IS OF BULK AT MOST 1048576: true; the input reads as it did. -/
def fnExactStepOfUptoRow : OpenClaim := { program := "ytbcpjbgcmkifiaa", sum := "6c4adf8fd3855b1c2443a1ebc8c9752a80c1f4c4a825ee67fa40bfb4061053e1", func := "loop.example/g00185/laws.FnExactStepOf", spec := "fnExactStepOf", apart := false, narrowed := true }
def FnExactStepOfUptoSaid : Prop := fnExactStepOfUptoRow.holds Try.pinned (OpenSpec.upto fnExactStepOfSpec)

/-- 'laws.FnExactGcd', WHERE WHAT IT READS IS OF BULK AT MOST 1048576: true; the input reads as it did. -/
def fnExactGcdUptoRow : OpenClaim := { program := "ytbcpjbgcmkifiaa", sum := "6c4adf8fd3855b1c2443a1ebc8c9752a80c1f4c4a825ee67fa40bfb4061053e1", func := "loop.example/g00185/laws.FnExactGcd", spec := "fnExactGcd", apart := false, narrowed := true }
def FnExactGcdUptoSaid : Prop := fnExactGcdUptoRow.holds Try.pinned (OpenSpec.upto fnExactGcdSpec)

/-- 'laws.FnExactPartOf', WHERE WHAT IT READS IS OF BULK AT MOST 1048576: true; the input reads as it did. -/
def fnExactPartOfUptoRow : OpenClaim := { program := "ytbcpjbgcmkifiaa", sum := "6c4adf8fd3855b1c2443a1ebc8c9752a80c1f4c4a825ee67fa40bfb4061053e1", func := "loop.example/g00185/laws.FnExactPartOf", spec := "fnExactPartOf", apart := false, narrowed := true }
def FnExactPartOfUptoSaid : Prop := fnExactPartOfUptoRow.holds Try.pinned (OpenSpec.upto fnExactPartOfSpec)

/-- 'laws.FnGcd', WHERE WHAT IT READS IS OF BULK AT MOST 1048576: true; the input reads as it did. -/
def fnGcdUptoRow : OpenClaim := { program := "ytbcpjbgcmkifiaa", sum := "6c4adf8fd3855b1c2443a1ebc8c9752a80c1f4c4a825ee67fa40bfb4061053e1", func := "loop.example/g00185/laws.FnGcd", spec := "fnGcd", apart := false, narrowed := true }
def FnGcdUptoSaid : Prop := fnGcdUptoRow.holds Try.pinned (OpenSpec.upto fnGcdSpec)

/-- 'laws.FnExactTaskOk', WHERE WHAT IT READS IS OF BULK AT MOST 1048576: true; the input reads as it did. -/
def fnExactTaskOkUptoRow : OpenClaim := { program := "ytbcpjbgcmkifiaa", sum := "6c4adf8fd3855b1c2443a1ebc8c9752a80c1f4c4a825ee67fa40bfb4061053e1", func := "loop.example/g00185/laws.FnExactTaskOk", spec := "fnExactTaskOk", apart := false, narrowed := true }
def FnExactTaskOkUptoSaid : Prop := fnExactTaskOkUptoRow.holds Try.pinned (OpenSpec.upto fnExactTaskOkSpec)

/-- 'laws.FnExactDueBefore', WHERE WHAT IT READS IS OF BULK AT MOST 1048576: true; the input reads as it did. -/
def fnExactDueBeforeUptoRow : OpenClaim := { program := "ytbcpjbgcmkifiaa", sum := "6c4adf8fd3855b1c2443a1ebc8c9752a80c1f4c4a825ee67fa40bfb4061053e1", func := "loop.example/g00185/laws.FnExactDueBefore", spec := "fnExactDueBefore", apart := false, narrowed := true }
def FnExactDueBeforeUptoSaid : Prop := fnExactDueBeforeUptoRow.holds Try.pinned (OpenSpec.upto fnExactDueBeforeSpec)

/-- 'laws.FnExactFairBefore', WHERE WHAT IT READS IS OF BULK AT MOST 1048576: true; the input reads as it did. -/
def fnExactFairBeforeUptoRow : OpenClaim := { program := "ytbcpjbgcmkifiaa", sum := "6c4adf8fd3855b1c2443a1ebc8c9752a80c1f4c4a825ee67fa40bfb4061053e1", func := "loop.example/g00185/laws.FnExactFairBefore", spec := "fnExactFairBefore", apart := false, narrowed := true }
def FnExactFairBeforeUptoSaid : Prop := fnExactFairBeforeUptoRow.holds Try.pinned (OpenSpec.upto fnExactFairBeforeSpec)

end Rows
end Go.Proofs.Ytbcpjbgcmkifiaa

/-
  No cell of these rows narrows 'for every input' (looked for: loops, veiled, ifaces, maps, wideKeys, modest, calm, conditions, laid).
  DERIVED. THE GIVEN ROWS OF THIS SEAT. 8 by the template 'for every input the law returns true; each argument reads behind the call as it read before'; 0 by the template 'total and deterministic' (their statements: YtplecpkghbjbjaaTotals.lean).
  GIVEN WITH THE SEED: the statements are not yours to turn. If you find one false, say at which input.
  Laid BY PROGRAM, IN A SANDBOX (cutbox-rows.mjs): the forced cells as the released guide's own fill.sh prints them over the translation 8adb68d91a9f0475… (all of the seat's roots in one cut). By AI agents, Wed Nov 11 2026. No macro, syntax, notation, axiom, sorry.
-/
import Derived.Test.YtplecpkghbjbjaaChecked
import GoSem.Claim
import GoSem.ClaimJoined
import GoSem.ClaimMapViews
import Derived.JoinedTies
import Derived.KernelRfl
namespace Go.Proofs.Ytplecpkghbjbjaa
/- THE CELL 'sum', in the pinned program and in every row, IS THE sha256 OF THE DUMP (.gsa) THAT YtplecpkghbjbjaaProg.lean LOADS. Nothing in Lean hashes anything: it is a label: what it is worth is what the hold of that sum in a sandbox is worth. -/
noncomputable def Try.pinned : Pinned := { name := "ytplecpkghbjbjaa", sum := "8adb68d91a9f04756ea19c4d9a69226fd8caf34ee371d171d4423991d3267ed2", checked := Try.checked }
namespace Rows
def none {H : Type} : Left H := { results := [], args := [] }

/-- 'laws.FnOwners': WHATEVER THE INPUT: true; the input reads as it did. -/
def fnOwnersSpec : ChangeSpec := { name := "fnOwners", fn := fun _ => fun
  | [d] => { results := [.lit (.bool true)], args := [d] }
  | _ => none }
def fnOwnersRow : OpenClaim := { program := "ytplecpkghbjbjaa", sum := "8adb68d91a9f04756ea19c4d9a69226fd8caf34ee371d171d4423991d3267ed2", func := "loop.example/g00185/laws.FnOwners", spec := "fnOwners", unfollowed := true, recurses := true, apart := false }
def FnOwnersSaid : Prop := fnOwnersRow.holds Try.pinned (OpenSpec.ofChange fnOwnersSpec)

/-- ITS FALSE NEIGHBOUR: 'it returns false'. Refute it at one input. -/
def fnOwnersWrong : ChangeSpec := { name := "fnOwners", fn := fun _ => fun
  | [d] => { results := [.lit (.bool false)], args := [d] }
  | _ => none }
def FnOwnersWrongFalsely : Prop := fnOwnersRow.holds Try.pinned (OpenSpec.ofChange fnOwnersWrong)

/-- 'laws.FnExactChainOf': WHATEVER THE INPUT: true; the input reads as it did. -/
def fnExactChainOfSpec : ChangeSpec := { name := "fnExactChainOf", fn := fun _ => fun
  | [d1, d2] => { results := [.lit (.bool true)], args := [d1, d2] }
  | _ => none }
def fnExactChainOfRow : OpenClaim := { program := "ytplecpkghbjbjaa", sum := "8adb68d91a9f04756ea19c4d9a69226fd8caf34ee371d171d4423991d3267ed2", func := "loop.example/g00185/laws.FnExactChainOf", spec := "fnExactChainOf", unfollowed := true, recurses := true, apart := false }
def FnExactChainOfSaid : Prop := fnExactChainOfRow.holds Try.pinned (OpenSpec.ofChange fnExactChainOfSpec)

/-- ITS FALSE NEIGHBOUR: 'it returns false'. Refute it at one input. -/
def fnExactChainOfWrong : ChangeSpec := { name := "fnExactChainOf", fn := fun _ => fun
  | [d1, d2] => { results := [.lit (.bool false)], args := [d1, d2] }
  | _ => none }
def FnExactChainOfWrongFalsely : Prop := fnExactChainOfRow.holds Try.pinned (OpenSpec.ofChange fnExactChainOfWrong)

/-- 'laws.FnChains': WHATEVER THE INPUT: true; the input reads as it did. -/
def fnChainsSpec : ChangeSpec := { name := "fnChains", fn := fun _ => fun
  | [d] => { results := [.lit (.bool true)], args := [d] }
  | _ => none }
def fnChainsRow : OpenClaim := { program := "ytplecpkghbjbjaa", sum := "8adb68d91a9f04756ea19c4d9a69226fd8caf34ee371d171d4423991d3267ed2", func := "loop.example/g00185/laws.FnChains", spec := "fnChains", unfollowed := true, recurses := true, apart := false }
def FnChainsSaid : Prop := fnChainsRow.holds Try.pinned (OpenSpec.ofChange fnChainsSpec)

/-- ITS FALSE NEIGHBOUR: 'it returns false'. Refute it at one input. -/
def fnChainsWrong : ChangeSpec := { name := "fnChains", fn := fun _ => fun
  | [d] => { results := [.lit (.bool false)], args := [d] }
  | _ => none }
def FnChainsWrongFalsely : Prop := fnChainsRow.holds Try.pinned (OpenSpec.ofChange fnChainsWrong)

/-- 'laws.FnExactLockAsk': WHATEVER THE INPUT: true; the input reads as it did. -/
def fnExactLockAskSpec : ChangeSpec := { name := "fnExactLockAsk", fn := fun _ => fun
  | [d1, d2, d3] => { results := [.lit (.bool true)], args := [d1, d2, d3] }
  | _ => none }
def fnExactLockAskRow : OpenClaim := { program := "ytplecpkghbjbjaa", sum := "8adb68d91a9f04756ea19c4d9a69226fd8caf34ee371d171d4423991d3267ed2", func := "loop.example/g00185/laws.FnExactLockAsk", spec := "fnExactLockAsk", unfollowed := true, recurses := true, apart := false }
def FnExactLockAskSaid : Prop := fnExactLockAskRow.holds Try.pinned (OpenSpec.ofChange fnExactLockAskSpec)

/-- ITS FALSE NEIGHBOUR: 'it returns false'. Refute it at one input. -/
def fnExactLockAskWrong : ChangeSpec := { name := "fnExactLockAsk", fn := fun _ => fun
  | [d1, d2, d3] => { results := [.lit (.bool false)], args := [d1, d2, d3] }
  | _ => none }
def FnExactLockAskWrongFalsely : Prop := fnExactLockAskRow.holds Try.pinned (OpenSpec.ofChange fnExactLockAskWrong)

/-- 'laws.FnAsked': WHATEVER THE INPUT: true; the input reads as it did. -/
def fnAskedSpec : ChangeSpec := { name := "fnAsked", fn := fun _ => fun
  | [d] => { results := [.lit (.bool true)], args := [d] }
  | _ => none }
def fnAskedRow : OpenClaim := { program := "ytplecpkghbjbjaa", sum := "8adb68d91a9f04756ea19c4d9a69226fd8caf34ee371d171d4423991d3267ed2", func := "loop.example/g00185/laws.FnAsked", spec := "fnAsked", unfollowed := true, recurses := true, apart := false }
def FnAskedSaid : Prop := fnAskedRow.holds Try.pinned (OpenSpec.ofChange fnAskedSpec)

/-- ITS FALSE NEIGHBOUR: 'it returns false'. Refute it at one input. -/
def fnAskedWrong : ChangeSpec := { name := "fnAsked", fn := fun _ => fun
  | [d] => { results := [.lit (.bool false)], args := [d] }
  | _ => none }
def FnAskedWrongFalsely : Prop := fnAskedRow.holds Try.pinned (OpenSpec.ofChange fnAskedWrong)

/-- 'laws.FnExactLockFree': WHATEVER THE INPUT: true; the input reads as it did. -/
def fnExactLockFreeSpec : ChangeSpec := { name := "fnExactLockFree", fn := fun _ => fun
  | [d1, d2, d3, d4] => { results := [.lit (.bool true)], args := [d1, d2, d3, d4] }
  | _ => none }
def fnExactLockFreeRow : OpenClaim := { program := "ytplecpkghbjbjaa", sum := "8adb68d91a9f04756ea19c4d9a69226fd8caf34ee371d171d4423991d3267ed2", func := "loop.example/g00185/laws.FnExactLockFree", spec := "fnExactLockFree", unfollowed := true, recurses := true, apart := false }
def FnExactLockFreeSaid : Prop := fnExactLockFreeRow.holds Try.pinned (OpenSpec.ofChange fnExactLockFreeSpec)

/-- ITS FALSE NEIGHBOUR: 'it returns false'. Refute it at one input. -/
def fnExactLockFreeWrong : ChangeSpec := { name := "fnExactLockFree", fn := fun _ => fun
  | [d1, d2, d3, d4] => { results := [.lit (.bool false)], args := [d1, d2, d3, d4] }
  | _ => none }
def FnExactLockFreeWrongFalsely : Prop := fnExactLockFreeRow.holds Try.pinned (OpenSpec.ofChange fnExactLockFreeWrong)

/-- 'laws.FnFreed': WHATEVER THE INPUT: true; the input reads as it did. -/
def fnFreedSpec : ChangeSpec := { name := "fnFreed", fn := fun _ => fun
  | [d] => { results := [.lit (.bool true)], args := [d] }
  | _ => none }
def fnFreedRow : OpenClaim := { program := "ytplecpkghbjbjaa", sum := "8adb68d91a9f04756ea19c4d9a69226fd8caf34ee371d171d4423991d3267ed2", func := "loop.example/g00185/laws.FnFreed", spec := "fnFreed", unfollowed := true, recurses := true, apart := false }
def FnFreedSaid : Prop := fnFreedRow.holds Try.pinned (OpenSpec.ofChange fnFreedSpec)

/-- ITS FALSE NEIGHBOUR: 'it returns false'. Refute it at one input. -/
def fnFreedWrong : ChangeSpec := { name := "fnFreed", fn := fun _ => fun
  | [d] => { results := [.lit (.bool false)], args := [d] }
  | _ => none }
def FnFreedWrongFalsely : Prop := fnFreedRow.holds Try.pinned (OpenSpec.ofChange fnFreedWrong)

/-- 'laws.FnAble': WHATEVER THE INPUT: true; the input reads as it did. -/
def fnAbleSpec : ChangeSpec := { name := "fnAble", fn := fun _ => fun
  | [d] => { results := [.lit (.bool true)], args := [d] }
  | _ => none }
def fnAbleRow : OpenClaim := { program := "ytplecpkghbjbjaa", sum := "8adb68d91a9f04756ea19c4d9a69226fd8caf34ee371d171d4423991d3267ed2", func := "loop.example/g00185/laws.FnAble", spec := "fnAble", unfollowed := true, recurses := true, apart := false }
def FnAbleSaid : Prop := fnAbleRow.holds Try.pinned (OpenSpec.ofChange fnAbleSpec)

/-- ITS FALSE NEIGHBOUR: 'it returns false'. Refute it at one input. -/
def fnAbleWrong : ChangeSpec := { name := "fnAble", fn := fun _ => fun
  | [d] => { results := [.lit (.bool false)], args := [d] }
  | _ => none }
def FnAbleWrongFalsely : Prop := fnAbleRow.holds Try.pinned (OpenSpec.ofChange fnAbleWrong)

/- THE SECOND FORM. 'bulk': how many values and letters a reading holds, each counted each time it is reached (what is shared counts as often as it is met; a slice's spare places count too). A statement '..UptoSaid' is the law's where the arguments, and the package variables that the reading takes, are together of bulk at most 1048576: NARROWER than '..Said'. Prove '..Said' where nothing that the law and all that it calls make is longer than what came in: it says more and counts as full. Else prove '..UptoSaid'. A law counts once. -/
mutual
def uptoBulk {H : Type} : DataW H → Nat
  | .lit (.string bytes) => bytes.length + 1
  | .lit _ => 1
  | .nil => 1
  | .ptr d => uptoBulk d + 1
  | .slice elems spare => uptoBulkAll elems + uptoBulkAll spare + 1
  | .agg parts => uptoBulkAll parts + 1
  | .iface _ d => uptoBulk d + 1
  | .map entries => uptoBulkEntries entries + 1
  | .held _ => 1
def uptoBulkAll {H : Type} : List (DataW H) → Nat
  | [] => 0
  | d :: r => uptoBulk d + uptoBulkAll r
def uptoBulkEntries {H : Type} : List (Lit × DataW H) → Nat
  | [] => 0
  | x :: r => uptoBulkEntry x + uptoBulkEntries r
def uptoBulkEntry {H : Type} : Lit × DataW H → Nat
  | (.string bytes, d) => bytes.length + uptoBulk d + 1
  | (_, d) => uptoBulk d + 1
 end
def uptoSmall : (H : Type) → List (DataW H) → Bool := fun _ ds => decide (uptoBulkAll ds ≤ 1048576)
def OpenSpec.upto (s : _root_.Go.ChangeSpec) : _root_.Go.OpenSpec := { _root_.Go.OpenSpec.ofChange s with cond := some uptoSmall }

/-- 'laws.FnOwners', WHERE WHAT IT READS IS OF BULK AT MOST 1048576: true; the input reads as it did. -/
def fnOwnersUptoRow : OpenClaim := { program := "ytplecpkghbjbjaa", sum := "8adb68d91a9f04756ea19c4d9a69226fd8caf34ee371d171d4423991d3267ed2", func := "loop.example/g00185/laws.FnOwners", spec := "fnOwners", unfollowed := true, recurses := true, apart := false, narrowed := true }
def FnOwnersUptoSaid : Prop := fnOwnersUptoRow.holds Try.pinned (OpenSpec.upto fnOwnersSpec)

/-- 'laws.FnExactChainOf', WHERE WHAT IT READS IS OF BULK AT MOST 1048576: true; the input reads as it did. -/
def fnExactChainOfUptoRow : OpenClaim := { program := "ytplecpkghbjbjaa", sum := "8adb68d91a9f04756ea19c4d9a69226fd8caf34ee371d171d4423991d3267ed2", func := "loop.example/g00185/laws.FnExactChainOf", spec := "fnExactChainOf", unfollowed := true, recurses := true, apart := false, narrowed := true }
def FnExactChainOfUptoSaid : Prop := fnExactChainOfUptoRow.holds Try.pinned (OpenSpec.upto fnExactChainOfSpec)

/-- 'laws.FnChains', WHERE WHAT IT READS IS OF BULK AT MOST 1048576: true; the input reads as it did. -/
def fnChainsUptoRow : OpenClaim := { program := "ytplecpkghbjbjaa", sum := "8adb68d91a9f04756ea19c4d9a69226fd8caf34ee371d171d4423991d3267ed2", func := "loop.example/g00185/laws.FnChains", spec := "fnChains", unfollowed := true, recurses := true, apart := false, narrowed := true }
def FnChainsUptoSaid : Prop := fnChainsUptoRow.holds Try.pinned (OpenSpec.upto fnChainsSpec)

/-- 'laws.FnExactLockAsk', WHERE WHAT IT READS IS OF BULK AT MOST 1048576: true; the input reads as it did. -/
def fnExactLockAskUptoRow : OpenClaim := { program := "ytplecpkghbjbjaa", sum := "8adb68d91a9f04756ea19c4d9a69226fd8caf34ee371d171d4423991d3267ed2", func := "loop.example/g00185/laws.FnExactLockAsk", spec := "fnExactLockAsk", unfollowed := true, recurses := true, apart := false, narrowed := true }
def FnExactLockAskUptoSaid : Prop := fnExactLockAskUptoRow.holds Try.pinned (OpenSpec.upto fnExactLockAskSpec)

/-- 'laws.FnAsked', WHERE WHAT IT READS IS OF BULK AT MOST 1048576: true; the input reads as it did. -/
def fnAskedUptoRow : OpenClaim := { program := "ytplecpkghbjbjaa", sum := "8adb68d91a9f04756ea19c4d9a69226fd8caf34ee371d171d4423991d3267ed2", func := "loop.example/g00185/laws.FnAsked", spec := "fnAsked", unfollowed := true, recurses := true, apart := false, narrowed := true }
def FnAskedUptoSaid : Prop := fnAskedUptoRow.holds Try.pinned (OpenSpec.upto fnAskedSpec)

/-- 'laws.FnExactLockFree', WHERE WHAT IT READS IS OF BULK AT MOST 1048576: true; the input reads as it did. -/
def fnExactLockFreeUptoRow : OpenClaim := { program := "ytplecpkghbjbjaa", sum := "8adb68d91a9f04756ea19c4d9a69226fd8caf34ee371d171d4423991d3267ed2", func := "loop.example/g00185/laws.FnExactLockFree", spec := "fnExactLockFree", unfollowed := true, recurses := true, apart := false, narrowed := true }
def FnExactLockFreeUptoSaid : Prop := fnExactLockFreeUptoRow.holds Try.pinned (OpenSpec.upto fnExactLockFreeSpec)

/-- 'laws.FnFreed', WHERE WHAT IT READS IS OF BULK AT MOST 1048576: true; the input reads as it did. -/
def fnFreedUptoRow : OpenClaim := { program := "ytplecpkghbjbjaa", sum := "8adb68d91a9f04756ea19c4d9a69226fd8caf34ee371d171d4423991d3267ed2", func := "loop.example/g00185/laws.FnFreed", spec := "fnFreed", unfollowed := true, recurses := true, apart := false, narrowed := true }
def FnFreedUptoSaid : Prop := fnFreedUptoRow.holds Try.pinned (OpenSpec.upto fnFreedSpec)

/-- 'laws.FnAble', WHERE WHAT IT READS IS OF BULK AT MOST 1048576: true; the input reads as it did. -/
def fnAbleUptoRow : OpenClaim := { program := "ytplecpkghbjbjaa", sum := "8adb68d91a9f04756ea19c4d9a69226fd8caf34ee371d171d4423991d3267ed2", func := "loop.example/g00185/laws.FnAble", spec := "fnAble", unfollowed := true, recurses := true, apart := false, narrowed := true }
def FnAbleUptoSaid : Prop := fnAbleUptoRow.holds Try.pinned (OpenSpec.upto fnAbleSpec)

end Rows
end Go.Proofs.Ytplecpkghbjbjaa

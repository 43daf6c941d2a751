/-
  No cell of these rows narrows 'for every input' (looked for: loops, veiled, ifaces, maps, wideKeys, modest, calm, conditions, laid).
  DERIVED. THE GIVEN ROWS OF THIS SEAT. 6 by the template 'for every input the law returns true; each argument reads behind the call as it read before'; 0 by the template 'total and deterministic' (their statements: YtcknaignbagihaaTotals.lean).
  GIVEN WITH THE SEED: the statements are not yours to turn. If you find one false, say at which input.
  Laid BY PROGRAM, IN A SANDBOX (cutbox-rows.mjs): the forced cells as the released guide's own fill.sh prints them over the translation 67666b56535666d4… (all of the seat's roots in one cut). By AI agents, Wed Nov 11 2026. No macro, syntax, notation, axiom, sorry.
-/
import Derived.Test.YtcknaignbagihaaChecked
import GoSem.Claim
import GoSem.ClaimJoined
import GoSem.ClaimMapViews
import Derived.JoinedTies
import Derived.KernelRfl
namespace Go.Proofs.Ytcknaignbagihaa
/- THE CELL 'sum', in the pinned program and in every row, IS THE sha256 OF THE DUMP (.gsa) THAT YtcknaignbagihaaProg.lean LOADS. Nothing in Lean hashes anything: it is a label: what it is worth is what the hold of that sum in a sandbox is worth. -/
noncomputable def Try.pinned : Pinned := { name := "ytcknaignbagihaa", sum := "67666b56535666d4e2f8f69c7ede05e5821eb162bbbc59060cd47cdf0e551a0a", checked := Try.checked }
namespace Rows
def none {H : Type} : Left H := { results := [], args := [] }

/-- 'laws.FnExactWaysIn': WHATEVER THE INPUT: true; the input reads as it did. -/
def fnExactWaysInSpec : ChangeSpec := { name := "fnExactWaysIn", fn := fun _ => fun
  | [d1, d2, d3] => { results := [.lit (.bool true)], args := [d1, d2, d3] }
  | _ => none }
def fnExactWaysInRow : OpenClaim := { program := "ytcknaignbagihaa", sum := "67666b56535666d4e2f8f69c7ede05e5821eb162bbbc59060cd47cdf0e551a0a", func := "loop.example/g00177/laws.FnExactWaysIn", spec := "fnExactWaysIn", apart := false }
def FnExactWaysInSaid : Prop := fnExactWaysInRow.holds Try.pinned (OpenSpec.ofChange fnExactWaysInSpec)

/-- ITS FALSE NEIGHBOUR: 'it returns false'. Refute it at one input. -/
def fnExactWaysInWrong : ChangeSpec := { name := "fnExactWaysIn", fn := fun _ => fun
  | [d1, d2, d3] => { results := [.lit (.bool false)], args := [d1, d2, d3] }
  | _ => none }
def FnExactWaysInWrongFalsely : Prop := fnExactWaysInRow.holds Try.pinned (OpenSpec.ofChange fnExactWaysInWrong)

/-- 'laws.FnExactRoutesWithin': WHATEVER THE INPUT: true; the input reads as it did. -/
def fnExactRoutesWithinSpec : ChangeSpec := { name := "fnExactRoutesWithin", fn := fun _ => fun
  | [d1, d2, d3] => { results := [.lit (.bool true)], args := [d1, d2, d3] }
  | _ => none }
def fnExactRoutesWithinRow : OpenClaim := { program := "ytcknaignbagihaa", sum := "67666b56535666d4e2f8f69c7ede05e5821eb162bbbc59060cd47cdf0e551a0a", func := "loop.example/g00177/laws.FnExactRoutesWithin", spec := "fnExactRoutesWithin", apart := false }
def FnExactRoutesWithinSaid : Prop := fnExactRoutesWithinRow.holds Try.pinned (OpenSpec.ofChange fnExactRoutesWithinSpec)

/-- ITS FALSE NEIGHBOUR: 'it returns false'. Refute it at one input. -/
def fnExactRoutesWithinWrong : ChangeSpec := { name := "fnExactRoutesWithin", fn := fun _ => fun
  | [d1, d2, d3] => { results := [.lit (.bool false)], args := [d1, d2, d3] }
  | _ => none }
def FnExactRoutesWithinWrongFalsely : Prop := fnExactRoutesWithinRow.holds Try.pinned (OpenSpec.ofChange fnExactRoutesWithinWrong)

/-- 'laws.FnExactAllTrue': WHATEVER THE INPUT: true; the input reads as it did. -/
def fnExactAllTrueSpec : ChangeSpec := { name := "fnExactAllTrue", fn := fun _ => fun
  | [d] => { results := [.lit (.bool true)], args := [d] }
  | _ => none }
def fnExactAllTrueRow : OpenClaim := { program := "ytcknaignbagihaa", sum := "67666b56535666d4e2f8f69c7ede05e5821eb162bbbc59060cd47cdf0e551a0a", func := "loop.example/g00177/laws.FnExactAllTrue", spec := "fnExactAllTrue", apart := false }
def FnExactAllTrueSaid : Prop := fnExactAllTrueRow.holds Try.pinned (OpenSpec.ofChange fnExactAllTrueSpec)

/-- ITS FALSE NEIGHBOUR: 'it returns false'. Refute it at one input. -/
def fnExactAllTrueWrong : ChangeSpec := { name := "fnExactAllTrue", fn := fun _ => fun
  | [d] => { results := [.lit (.bool false)], args := [d] }
  | _ => none }
def FnExactAllTrueWrongFalsely : Prop := fnExactAllTrueRow.holds Try.pinned (OpenSpec.ofChange fnExactAllTrueWrong)

/-- 'laws.FnExactNodeOk': WHATEVER THE INPUT: true; the input reads as it did. -/
def fnExactNodeOkSpec : ChangeSpec := { name := "fnExactNodeOk", fn := fun _ => fun
  | [d] => { results := [.lit (.bool true)], args := [d] }
  | _ => none }
def fnExactNodeOkRow : OpenClaim := { program := "ytcknaignbagihaa", sum := "67666b56535666d4e2f8f69c7ede05e5821eb162bbbc59060cd47cdf0e551a0a", func := "loop.example/g00177/laws.FnExactNodeOk", spec := "fnExactNodeOk", apart := false }
def FnExactNodeOkSaid : Prop := fnExactNodeOkRow.holds Try.pinned (OpenSpec.ofChange fnExactNodeOkSpec)

/-- ITS FALSE NEIGHBOUR: 'it returns false'. Refute it at one input. -/
def fnExactNodeOkWrong : ChangeSpec := { name := "fnExactNodeOk", fn := fun _ => fun
  | [d] => { results := [.lit (.bool false)], args := [d] }
  | _ => none }
def FnExactNodeOkWrongFalsely : Prop := fnExactNodeOkRow.holds Try.pinned (OpenSpec.ofChange fnExactNodeOkWrong)

/-- 'laws.FnExactRoutesBeyond': WHATEVER THE INPUT: true; the input reads as it did. -/
def fnExactRoutesBeyondSpec : ChangeSpec := { name := "fnExactRoutesBeyond", fn := fun _ => fun
  | [d1, d2, d3, d4] => { results := [.lit (.bool true)], args := [d1, d2, d3, d4] }
  | _ => none }
def fnExactRoutesBeyondRow : OpenClaim := { program := "ytcknaignbagihaa", sum := "67666b56535666d4e2f8f69c7ede05e5821eb162bbbc59060cd47cdf0e551a0a", func := "loop.example/g00177/laws.FnExactRoutesBeyond", spec := "fnExactRoutesBeyond", apart := false }
def FnExactRoutesBeyondSaid : Prop := fnExactRoutesBeyondRow.holds Try.pinned (OpenSpec.ofChange fnExactRoutesBeyondSpec)

/-- ITS FALSE NEIGHBOUR: 'it returns false'. Refute it at one input. -/
def fnExactRoutesBeyondWrong : ChangeSpec := { name := "fnExactRoutesBeyond", fn := fun _ => fun
  | [d1, d2, d3, d4] => { results := [.lit (.bool false)], args := [d1, d2, d3, d4] }
  | _ => none }
def FnExactRoutesBeyondWrongFalsely : Prop := fnExactRoutesBeyondRow.holds Try.pinned (OpenSpec.ofChange fnExactRoutesBeyondWrong)

/-- 'laws.FnExactAlikeIn': WHATEVER THE INPUT: true; the input reads as it did. -/
def fnExactAlikeInSpec : ChangeSpec := { name := "fnExactAlikeIn", fn := fun _ => fun
  | [d1, d2] => { results := [.lit (.bool true)], args := [d1, d2] }
  | _ => none }
def fnExactAlikeInRow : OpenClaim := { program := "ytcknaignbagihaa", sum := "67666b56535666d4e2f8f69c7ede05e5821eb162bbbc59060cd47cdf0e551a0a", func := "loop.example/g00177/laws.FnExactAlikeIn", spec := "fnExactAlikeIn", apart := false }
def FnExactAlikeInSaid : Prop := fnExactAlikeInRow.holds Try.pinned (OpenSpec.ofChange fnExactAlikeInSpec)

/-- ITS FALSE NEIGHBOUR: 'it returns false'. Refute it at one input. -/
def fnExactAlikeInWrong : ChangeSpec := { name := "fnExactAlikeIn", fn := fun _ => fun
  | [d1, d2] => { results := [.lit (.bool false)], args := [d1, d2] }
  | _ => none }
def FnExactAlikeInWrongFalsely : Prop := fnExactAlikeInRow.holds Try.pinned (OpenSpec.ofChange fnExactAlikeInWrong)

/- THE SECOND FORM. 'bulk': how many values and letters a reading holds, each counted each time it is reached (what is shared counts as often as it is met; a slice's spare places count too). A statement '..UptoSaid' is the law's where the arguments, and the package variables that the reading takes, are together of bulk at most 1048576: NARROWER than '..Said'. Prove '..Said' where nothing that the law and all that it calls make is longer than what came in: it says more and counts as full. Else prove '..UptoSaid'. A law counts once. -/
mutual
def uptoBulk {H : Type} : DataW H → Nat
  | .lit (.string bytes) => bytes.length + 1
  | .lit _ => 1
  | .nil => 1
  | .ptr d => uptoBulk d + 1
  | .slice elems spare => uptoBulkAll elems + uptoBulkAll spare + 1
  | .agg parts => uptoBulkAll parts + 1
  | .iface _ d => uptoBulk d + 1
  | .map entries => uptoBulkEntries entries + 1
  | .held _ => 1
def uptoBulkAll {H : Type} : List (DataW H) → Nat
  | [] => 0
  | d :: r => uptoBulk d + uptoBulkAll r
def uptoBulkEntries {H : Type} : List (Lit × DataW H) → Nat
  | [] => 0
  | x :: r => uptoBulkEntry x + uptoBulkEntries r
def uptoBulkEntry {H : Type} : Lit × DataW H → Nat
  | (.string bytes, d) => bytes.length + uptoBulk d + 1
  | (_, d) => uptoBulk d + 1
 end
def uptoSmall : (H : Type) → List (DataW H) → Bool := fun _ ds => decide (uptoBulkAll ds ≤ 1048576)
def OpenSpec.upto (s : _root_.Go.ChangeSpec) : _root_.Go.OpenSpec := { _root_.Go.OpenSpec.ofChange s with cond := some uptoSmall }

/-- 'laws.FnExactWaysIn', WHERE WHAT IT READS IS OF BULK AT MOST 1048576: true; the input reads as it did. -/
def fnExactWaysInUptoRow : OpenClaim := { program := "ytcknaignbagihaa", sum := "67666b56535666d4e2f8f69c7ede05e5821eb162bbbc59060cd47cdf0e551a0a", func := "loop.example/g00177/laws.FnExactWaysIn", spec := "fnExactWaysIn", apart := false, narrowed := true }
def FnExactWaysInUptoSaid : Prop := fnExactWaysInUptoRow.holds Try.pinned (OpenSpec.upto fnExactWaysInSpec)

/-- 'laws.FnExactRoutesWithin', WHERE WHAT IT READS IS OF BULK AT MOST 1048576: true; the input reads as it did. -/
def fnExactRoutesWithinUptoRow : OpenClaim := { program := "ytcknaignbagihaa", sum := "67666b56535666d4e2f8f69c7ede05e5821eb162bbbc59060cd47cdf0e551a0a", func := "loop.example/g00177/laws.FnExactRoutesWithin", spec := "fnExactRoutesWithin", apart := false, narrowed := true }
def FnExactRoutesWithinUptoSaid : Prop := fnExactRoutesWithinUptoRow.holds Try.pinned (OpenSpec.upto fnExactRoutesWithinSpec)

/-- 'laws.FnExactAllTrue', WHERE WHAT IT READS IS OF BULK AT MOST 1048576: true; the input reads as it did. -/
def fnExactAllTrueUptoRow : OpenClaim := { program := "ytcknaignbagihaa", sum := "67666b56535666d4e2f8f69c7ede05e5821eb162bbbc59060cd47cdf0e551a0a", func := "loop.example/g00177/laws.FnExactAllTrue", spec := "fnExactAllTrue", apart := false, narrowed := true }
def FnExactAllTrueUptoSaid : Prop := fnExactAllTrueUptoRow.holds Try.pinned (OpenSpec.upto fnExactAllTrueSpec)

/-- 'laws.FnExactNodeOk', WHERE WHAT IT READS IS OF BULK AT MOST 1048576: true; the input reads as it did. -/
def fnExactNodeOkUptoRow : OpenClaim := { program := "ytcknaignbagihaa", sum := "67666b56535666d4e2f8f69c7ede05e5821eb162bbbc59060cd47cdf0e551a0a", func := "loop.example/g00177/laws.FnExactNodeOk", spec := "fnExactNodeOk", apart := false, narrowed := true }
def FnExactNodeOkUptoSaid : Prop := fnExactNodeOkUptoRow.holds Try.pinned (OpenSpec.upto fnExactNodeOkSpec)

/-- 'laws.FnExactRoutesBeyond', WHERE WHAT IT READS IS OF BULK AT MOST 1048576: true; the input reads as it did. -/
def fnExactRoutesBeyondUptoRow : OpenClaim := { program := "ytcknaignbagihaa", sum := "67666b56535666d4e2f8f69c7ede05e5821eb162bbbc59060cd47cdf0e551a0a", func := "loop.example/g00177/laws.FnExactRoutesBeyond", spec := "fnExactRoutesBeyond", apart := false, narrowed := true }
def FnExactRoutesBeyondUptoSaid : Prop := fnExactRoutesBeyondUptoRow.holds Try.pinned (OpenSpec.upto fnExactRoutesBeyondSpec)

/-- 'laws.FnExactAlikeIn', WHERE WHAT IT READS IS OF BULK AT MOST 1048576: true; the input reads as it did. -/
def fnExactAlikeInUptoRow : OpenClaim := { program := "ytcknaignbagihaa", sum := "67666b56535666d4e2f8f69c7ede05e5821eb162bbbc59060cd47cdf0e551a0a", func := "loop.example/g00177/laws.FnExactAlikeIn", spec := "fnExactAlikeIn", apart := false, narrowed := true }
def FnExactAlikeInUptoSaid : Prop := fnExactAlikeInUptoRow.holds Try.pinned (OpenSpec.upto fnExactAlikeInSpec)

end Rows
end Go.Proofs.Ytcknaignbagihaa

/-
  No cell of these rows narrows 'for every input' (looked for: loops, veiled, ifaces, maps, wideKeys, modest, calm, conditions, laid).
  DERIVED. THE GIVEN ROWS OF THIS SEAT. 12 by the template 'for every input the law returns true; each argument reads behind the call as it read before'; 0 by the template 'total and deterministic' (their statements: YtlofiplkmgmnfaaTotals.lean).
  GIVEN WITH THE SEED: the statements are not yours to turn. If you find one false, say at which input.
  Laid BY PROGRAM, IN A SANDBOX (cutbox-rows.mjs): the forced cells as the released guide's own fill.sh prints them over the translation 38e0094eced5a884… (all of the seat's roots in one cut). By AI agents, Wed Nov 11 2026. No macro, syntax, notation, axiom, sorry.
-/
import Derived.Test.YtlofiplkmgmnfaaChecked
import GoSem.Claim
import GoSem.ClaimJoined
import GoSem.ClaimMapViews
import Derived.JoinedTies
import Derived.KernelRfl
namespace Go.Proofs.Ytlofiplkmgmnfaa
/- THE CELL 'sum', in the pinned program and in every row, IS THE sha256 OF THE DUMP (.gsa) THAT YtlofiplkmgmnfaaProg.lean LOADS. Nothing in Lean hashes anything: it is a label: what it is worth is what the hold of that sum in a sandbox is worth. -/
noncomputable def Try.pinned : Pinned := { name := "ytlofiplkmgmnfaa", sum := "38e0094eced5a8842ecf15b7579be935a234a4c41fa471198dc05dbe497d9e8f", checked := Try.checked }
namespace Rows
def none {H : Type} : Left H := { results := [], args := [] }

/-- 'laws.FnExactWaysIn': WHATEVER THE INPUT: true; the input reads as it did. -/
def fnExactWaysInSpec : ChangeSpec := { name := "fnExactWaysIn", fn := fun _ => fun
  | [d1, d2, d3] => { results := [.lit (.bool true)], args := [d1, d2, d3] }
  | _ => none }
def fnExactWaysInRow : OpenClaim := { program := "ytlofiplkmgmnfaa", sum := "38e0094eced5a8842ecf15b7579be935a234a4c41fa471198dc05dbe497d9e8f", func := "loop.example/g00177/laws.FnExactWaysIn", spec := "fnExactWaysIn", apart := false }
def FnExactWaysInSaid : Prop := fnExactWaysInRow.holds Try.pinned (OpenSpec.ofChange fnExactWaysInSpec)

/-- ITS FALSE NEIGHBOUR: 'it returns false'. Refute it at one input. -/
def fnExactWaysInWrong : ChangeSpec := { name := "fnExactWaysIn", fn := fun _ => fun
  | [d1, d2, d3] => { results := [.lit (.bool false)], args := [d1, d2, d3] }
  | _ => none }
def FnExactWaysInWrongFalsely : Prop := fnExactWaysInRow.holds Try.pinned (OpenSpec.ofChange fnExactWaysInWrong)

/-- 'laws.FnExactRoutesWithin': WHATEVER THE INPUT: true; the input reads as it did. -/
def fnExactRoutesWithinSpec : ChangeSpec := { name := "fnExactRoutesWithin", fn := fun _ => fun
  | [d1, d2, d3] => { results := [.lit (.bool true)], args := [d1, d2, d3] }
  | _ => none }
def fnExactRoutesWithinRow : OpenClaim := { program := "ytlofiplkmgmnfaa", sum := "38e0094eced5a8842ecf15b7579be935a234a4c41fa471198dc05dbe497d9e8f", func := "loop.example/g00177/laws.FnExactRoutesWithin", spec := "fnExactRoutesWithin", apart := false }
def FnExactRoutesWithinSaid : Prop := fnExactRoutesWithinRow.holds Try.pinned (OpenSpec.ofChange fnExactRoutesWithinSpec)

/-- ITS FALSE NEIGHBOUR: 'it returns false'. Refute it at one input. -/
def fnExactRoutesWithinWrong : ChangeSpec := { name := "fnExactRoutesWithin", fn := fun _ => fun
  | [d1, d2, d3] => { results := [.lit (.bool false)], args := [d1, d2, d3] }
  | _ => none }
def FnExactRoutesWithinWrongFalsely : Prop := fnExactRoutesWithinRow.holds Try.pinned (OpenSpec.ofChange fnExactRoutesWithinWrong)

/-- 'laws.FnExactRoutesBeyond': WHATEVER THE INPUT: true; the input reads as it did. -/
def fnExactRoutesBeyondSpec : ChangeSpec := { name := "fnExactRoutesBeyond", fn := fun _ => fun
  | [d1, d2, d3, d4] => { results := [.lit (.bool true)], args := [d1, d2, d3, d4] }
  | _ => none }
def fnExactRoutesBeyondRow : OpenClaim := { program := "ytlofiplkmgmnfaa", sum := "38e0094eced5a8842ecf15b7579be935a234a4c41fa471198dc05dbe497d9e8f", func := "loop.example/g00177/laws.FnExactRoutesBeyond", spec := "fnExactRoutesBeyond", apart := false }
def FnExactRoutesBeyondSaid : Prop := fnExactRoutesBeyondRow.holds Try.pinned (OpenSpec.ofChange fnExactRoutesBeyondSpec)

/-- ITS FALSE NEIGHBOUR: 'it returns false'. Refute it at one input. -/
def fnExactRoutesBeyondWrong : ChangeSpec := { name := "fnExactRoutesBeyond", fn := fun _ => fun
  | [d1, d2, d3, d4] => { results := [.lit (.bool false)], args := [d1, d2, d3, d4] }
  | _ => none }
def FnExactRoutesBeyondWrongFalsely : Prop := fnExactRoutesBeyondRow.holds Try.pinned (OpenSpec.ofChange fnExactRoutesBeyondWrong)

/-- 'laws.FnExactIdeal': WHATEVER THE INPUT: true; the input reads as it did. -/
def fnExactIdealSpec : ChangeSpec := { name := "fnExactIdeal", fn := fun _ => fun
  | [d1, d2, d3] => { results := [.lit (.bool true)], args := [d1, d2, d3] }
  | _ => none }
def fnExactIdealRow : OpenClaim := { program := "ytlofiplkmgmnfaa", sum := "38e0094eced5a8842ecf15b7579be935a234a4c41fa471198dc05dbe497d9e8f", func := "loop.example/g00177/laws.FnExactIdeal", spec := "fnExactIdeal", unfollowed := true, recurses := true, apart := false }
def FnExactIdealSaid : Prop := fnExactIdealRow.holds Try.pinned (OpenSpec.ofChange fnExactIdealSpec)

/-- ITS FALSE NEIGHBOUR: 'it returns false'. Refute it at one input. -/
def fnExactIdealWrong : ChangeSpec := { name := "fnExactIdeal", fn := fun _ => fun
  | [d1, d2, d3] => { results := [.lit (.bool false)], args := [d1, d2, d3] }
  | _ => none }
def FnExactIdealWrongFalsely : Prop := fnExactIdealRow.holds Try.pinned (OpenSpec.ofChange fnExactIdealWrong)

/-- 'laws.FnWays': WHATEVER THE INPUT: true; the input reads as it did. -/
def fnWaysSpec : ChangeSpec := { name := "fnWays", fn := fun _ => fun
  | [d] => { results := [.lit (.bool true)], args := [d] }
  | _ => none }
def fnWaysRow : OpenClaim := { program := "ytlofiplkmgmnfaa", sum := "38e0094eced5a8842ecf15b7579be935a234a4c41fa471198dc05dbe497d9e8f", func := "loop.example/g00177/laws.FnWays", spec := "fnWays", apart := false }
def FnWaysSaid : Prop := fnWaysRow.holds Try.pinned (OpenSpec.ofChange fnWaysSpec)

/-- ITS FALSE NEIGHBOUR: 'it returns false'. Refute it at one input. -/
def fnWaysWrong : ChangeSpec := { name := "fnWays", fn := fun _ => fun
  | [d] => { results := [.lit (.bool false)], args := [d] }
  | _ => none }
def FnWaysWrongFalsely : Prop := fnWaysRow.holds Try.pinned (OpenSpec.ofChange fnWaysWrong)

/-- 'laws.FnBack': WHATEVER THE INPUT: true; the input reads as it did. -/
def fnBackSpec : ChangeSpec := { name := "fnBack", fn := fun _ => fun
  | [d] => { results := [.lit (.bool true)], args := [d] }
  | _ => none }
def fnBackRow : OpenClaim := { program := "ytlofiplkmgmnfaa", sum := "38e0094eced5a8842ecf15b7579be935a234a4c41fa471198dc05dbe497d9e8f", func := "loop.example/g00177/laws.FnBack", spec := "fnBack", apart := false }
def FnBackSaid : Prop := fnBackRow.holds Try.pinned (OpenSpec.ofChange fnBackSpec)

/-- ITS FALSE NEIGHBOUR: 'it returns false'. Refute it at one input. -/
def fnBackWrong : ChangeSpec := { name := "fnBack", fn := fun _ => fun
  | [d] => { results := [.lit (.bool false)], args := [d] }
  | _ => none }
def FnBackWrongFalsely : Prop := fnBackRow.holds Try.pinned (OpenSpec.ofChange fnBackWrong)

/-- 'laws.FnRoutes': WHATEVER THE INPUT: true; the input reads as it did. -/
def fnRoutesSpec : ChangeSpec := { name := "fnRoutes", fn := fun _ => fun
  | [d] => { results := [.lit (.bool true)], args := [d] }
  | _ => none }
def fnRoutesRow : OpenClaim := { program := "ytlofiplkmgmnfaa", sum := "38e0094eced5a8842ecf15b7579be935a234a4c41fa471198dc05dbe497d9e8f", func := "loop.example/g00177/laws.FnRoutes", spec := "fnRoutes", apart := false }
def FnRoutesSaid : Prop := fnRoutesRow.holds Try.pinned (OpenSpec.ofChange fnRoutesSpec)

/-- ITS FALSE NEIGHBOUR: 'it returns false'. Refute it at one input. -/
def fnRoutesWrong : ChangeSpec := { name := "fnRoutes", fn := fun _ => fun
  | [d] => { results := [.lit (.bool false)], args := [d] }
  | _ => none }
def FnRoutesWrongFalsely : Prop := fnRoutesRow.holds Try.pinned (OpenSpec.ofChange fnRoutesWrong)

/-- 'laws.FnOnePlace': WHATEVER THE INPUT: true; the input reads as it did. -/
def fnOnePlaceSpec : ChangeSpec := { name := "fnOnePlace", fn := fun _ => fun
  | [d] => { results := [.lit (.bool true)], args := [d] }
  | _ => none }
def fnOnePlaceRow : OpenClaim := { program := "ytlofiplkmgmnfaa", sum := "38e0094eced5a8842ecf15b7579be935a234a4c41fa471198dc05dbe497d9e8f", func := "loop.example/g00177/laws.FnOnePlace", spec := "fnOnePlace", unfollowed := true, recurses := true, apart := false }
def FnOnePlaceSaid : Prop := fnOnePlaceRow.holds Try.pinned (OpenSpec.ofChange fnOnePlaceSpec)

/-- ITS FALSE NEIGHBOUR: 'it returns false'. Refute it at one input. -/
def fnOnePlaceWrong : ChangeSpec := { name := "fnOnePlace", fn := fun _ => fun
  | [d] => { results := [.lit (.bool false)], args := [d] }
  | _ => none }
def FnOnePlaceWrongFalsely : Prop := fnOnePlaceRow.holds Try.pinned (OpenSpec.ofChange fnOnePlaceWrong)

/-- 'laws.FnIdeals': WHATEVER THE INPUT: true; the input reads as it did. -/
def fnIdealsSpec : ChangeSpec := { name := "fnIdeals", fn := fun _ => fun
  | [d] => { results := [.lit (.bool true)], args := [d] }
  | _ => none }
def fnIdealsRow : OpenClaim := { program := "ytlofiplkmgmnfaa", sum := "38e0094eced5a8842ecf15b7579be935a234a4c41fa471198dc05dbe497d9e8f", func := "loop.example/g00177/laws.FnIdeals", spec := "fnIdeals", unfollowed := true, recurses := true, apart := false }
def FnIdealsSaid : Prop := fnIdealsRow.holds Try.pinned (OpenSpec.ofChange fnIdealsSpec)

/-- ITS FALSE NEIGHBOUR: 'it returns false'. Refute it at one input. -/
def fnIdealsWrong : ChangeSpec := { name := "fnIdeals", fn := fun _ => fun
  | [d] => { results := [.lit (.bool false)], args := [d] }
  | _ => none }
def FnIdealsWrongFalsely : Prop := fnIdealsRow.holds Try.pinned (OpenSpec.ofChange fnIdealsWrong)

/-- 'laws.FnWalks': WHATEVER THE INPUT: true; the input reads as it did. -/
def fnWalksSpec : ChangeSpec := { name := "fnWalks", fn := fun _ => fun
  | [d] => { results := [.lit (.bool true)], args := [d] }
  | _ => none }
def fnWalksRow : OpenClaim := { program := "ytlofiplkmgmnfaa", sum := "38e0094eced5a8842ecf15b7579be935a234a4c41fa471198dc05dbe497d9e8f", func := "loop.example/g00177/laws.FnWalks", spec := "fnWalks", apart := false }
def FnWalksSaid : Prop := fnWalksRow.holds Try.pinned (OpenSpec.ofChange fnWalksSpec)

/-- ITS FALSE NEIGHBOUR: 'it returns false'. Refute it at one input. -/
def fnWalksWrong : ChangeSpec := { name := "fnWalks", fn := fun _ => fun
  | [d] => { results := [.lit (.bool false)], args := [d] }
  | _ => none }
def FnWalksWrongFalsely : Prop := fnWalksRow.holds Try.pinned (OpenSpec.ofChange fnWalksWrong)

/-- 'laws.FnTables': WHATEVER THE INPUT: true; the input reads as it did. -/
def fnTablesSpec : ChangeSpec := { name := "fnTables", fn := fun _ => fun
  | [d] => { results := [.lit (.bool true)], args := [d] }
  | _ => none }
def fnTablesRow : OpenClaim := { program := "ytlofiplkmgmnfaa", sum := "38e0094eced5a8842ecf15b7579be935a234a4c41fa471198dc05dbe497d9e8f", func := "loop.example/g00177/laws.FnTables", spec := "fnTables", apart := false }
def FnTablesSaid : Prop := fnTablesRow.holds Try.pinned (OpenSpec.ofChange fnTablesSpec)

/-- ITS FALSE NEIGHBOUR: 'it returns false'. Refute it at one input. -/
def fnTablesWrong : ChangeSpec := { name := "fnTables", fn := fun _ => fun
  | [d] => { results := [.lit (.bool false)], args := [d] }
  | _ => none }
def FnTablesWrongFalsely : Prop := fnTablesRow.holds Try.pinned (OpenSpec.ofChange fnTablesWrong)

/-- 'laws.FnLearns': WHATEVER THE INPUT: true; the input reads as it did. -/
def fnLearnsSpec : ChangeSpec := { name := "fnLearns", fn := fun _ => fun
  | [d] => { results := [.lit (.bool true)], args := [d] }
  | _ => none }
def fnLearnsRow : OpenClaim := { program := "ytlofiplkmgmnfaa", sum := "38e0094eced5a8842ecf15b7579be935a234a4c41fa471198dc05dbe497d9e8f", func := "loop.example/g00177/laws.FnLearns", spec := "fnLearns", apart := false }
def FnLearnsSaid : Prop := fnLearnsRow.holds Try.pinned (OpenSpec.ofChange fnLearnsSpec)

/-- ITS FALSE NEIGHBOUR: 'it returns false'. Refute it at one input. -/
def fnLearnsWrong : ChangeSpec := { name := "fnLearns", fn := fun _ => fun
  | [d] => { results := [.lit (.bool false)], args := [d] }
  | _ => none }
def FnLearnsWrongFalsely : Prop := fnLearnsRow.holds Try.pinned (OpenSpec.ofChange fnLearnsWrong)

/- THE SECOND FORM. 'bulk': how many values and letters a reading holds, each counted each time it is reached (what is shared counts as often as it is met; a slice's spare places count too). A statement '..UptoSaid' is the law's where the arguments, and the package variables that the reading takes, are together of bulk at most 1048576: NARROWER than '..Said'. Prove '..Said' where nothing that the law and all that it calls make is longer than what came in: it says more and counts as full. Else prove '..UptoSaid'. A law counts once. -/
mutual
def uptoBulk {H : Type} : DataW H → Nat
  | .lit (.string bytes) => bytes.length + 1
  | .lit _ => 1
  | .nil => 1
  | .ptr d => uptoBulk d + 1
  | .slice elems spare => uptoBulkAll elems + uptoBulkAll spare + 1
  | .agg parts => uptoBulkAll parts + 1
  | .iface _ d => uptoBulk d + 1
  | .map entries => uptoBulkEntries entries + 1
  | .held _ => 1
def uptoBulkAll {H : Type} : List (DataW H) → Nat
  | [] => 0
  | d :: r => uptoBulk d + uptoBulkAll r
def uptoBulkEntries {H : Type} : List (Lit × DataW H) → Nat
  | [] => 0
  | x :: r => uptoBulkEntry x + uptoBulkEntries r
def uptoBulkEntry {H : Type} : Lit × DataW H → Nat
  | (.string bytes, d) => bytes.length + uptoBulk d + 1
  | (_, d) => uptoBulk d + 1
 end
def uptoSmall : (H : Type) → List (DataW H) → Bool := fun _ ds => decide (uptoBulkAll ds ≤ 1048576)
def OpenSpec.upto (s : _root_.Go.ChangeSpec) : _root_.Go.OpenSpec := { _root_.Go.OpenSpec.ofChange s with cond := some uptoSmall }

/-- 'laws.FnExactWaysIn', WHERE WHAT IT READS IS OF BULK AT MOST 1048576: true; the input reads as it did. -/
def fnExactWaysInUptoRow : OpenClaim := { program := "ytlofiplkmgmnfaa", sum := "38e0094eced5a8842ecf15b7579be935a234a4c41fa471198dc05dbe497d9e8f", func := "loop.example/g00177/laws.FnExactWaysIn", spec := "fnExactWaysIn", apart := false, narrowed := true }
def FnExactWaysInUptoSaid : Prop := fnExactWaysInUptoRow.holds Try.pinned (OpenSpec.upto fnExactWaysInSpec)

/-- 'laws.FnExactRoutesWithin', WHERE WHAT IT READS IS OF BULK AT MOST 1048576: true; the input reads as it did. -/
def fnExactRoutesWithinUptoRow : OpenClaim := { program := "ytlofiplkmgmnfaa", sum := "38e0094eced5a8842ecf15b7579be935a234a4c41fa471198dc05dbe497d9e8f", func := "loop.example/g00177/laws.FnExactRoutesWithin", spec := "fnExactRoutesWithin", apart := false, narrowed := true }
def FnExactRoutesWithinUptoSaid : Prop := fnExactRoutesWithinUptoRow.holds Try.pinned (OpenSpec.upto fnExactRoutesWithinSpec)

/-- 'laws.FnExactRoutesBeyond', WHERE WHAT IT READS IS OF BULK AT MOST 1048576: true; the input reads as it did. -/
def fnExactRoutesBeyondUptoRow : OpenClaim := { program := "ytlofiplkmgmnfaa", sum := "38e0094eced5a8842ecf15b7579be935a234a4c41fa471198dc05dbe497d9e8f", func := "loop.example/g00177/laws.FnExactRoutesBeyond", spec := "fnExactRoutesBeyond", apart := false, narrowed := true }
def FnExactRoutesBeyondUptoSaid : Prop := fnExactRoutesBeyondUptoRow.holds Try.pinned (OpenSpec.upto fnExactRoutesBeyondSpec)

/-- 'laws.FnExactIdeal', WHERE WHAT IT READS IS OF BULK AT MOST 1048576: true; the input reads as it did. -/
def fnExactIdealUptoRow : OpenClaim := { program := "ytlofiplkmgmnfaa", sum := "38e0094eced5a8842ecf15b7579be935a234a4c41fa471198dc05dbe497d9e8f", func := "loop.example/g00177/laws.FnExactIdeal", spec := "fnExactIdeal", unfollowed := true, recurses := true, apart := false, narrowed := true }
def FnExactIdealUptoSaid : Prop := fnExactIdealUptoRow.holds Try.pinned (OpenSpec.upto fnExactIdealSpec)

/-- 'laws.FnWays', WHERE WHAT IT READS IS OF BULK AT MOST 1048576: true; the input reads as it did. -/
def fnWaysUptoRow : OpenClaim := { program := "ytlofiplkmgmnfaa", sum := "38e0094eced5a8842ecf15b7579be935a234a4c41fa471198dc05dbe497d9e8f", func := "loop.example/g00177/laws.FnWays", spec := "fnWays", apart := false, narrowed := true }
def FnWaysUptoSaid : Prop := fnWaysUptoRow.holds Try.pinned (OpenSpec.upto fnWaysSpec)

/-- 'laws.FnBack', WHERE WHAT IT READS IS OF BULK AT MOST 1048576: true; the input reads as it did. -/
def fnBackUptoRow : OpenClaim := { program := "ytlofiplkmgmnfaa", sum := "38e0094eced5a8842ecf15b7579be935a234a4c41fa471198dc05dbe497d9e8f", func := "loop.example/g00177/laws.FnBack", spec := "fnBack", apart := false, narrowed := true }
def FnBackUptoSaid : Prop := fnBackUptoRow.holds Try.pinned (OpenSpec.upto fnBackSpec)

/-- 'laws.FnRoutes', WHERE WHAT IT READS IS OF BULK AT MOST 1048576: true; the input reads as it did. -/
def fnRoutesUptoRow : OpenClaim := { program := "ytlofiplkmgmnfaa", sum := "38e0094eced5a8842ecf15b7579be935a234a4c41fa471198dc05dbe497d9e8f", func := "loop.example/g00177/laws.FnRoutes", spec := "fnRoutes", apart := false, narrowed := true }
def FnRoutesUptoSaid : Prop := fnRoutesUptoRow.holds Try.pinned (OpenSpec.upto fnRoutesSpec)

/-- 'laws.FnOnePlace', WHERE WHAT IT READS IS OF BULK AT MOST 1048576: true; the input reads as it did. -/
def fnOnePlaceUptoRow : OpenClaim := { program := "ytlofiplkmgmnfaa", sum := "38e0094eced5a8842ecf15b7579be935a234a4c41fa471198dc05dbe497d9e8f", func := "loop.example/g00177/laws.FnOnePlace", spec := "fnOnePlace", unfollowed := true, recurses := true, apart := false, narrowed := true }
def FnOnePlaceUptoSaid : Prop := fnOnePlaceUptoRow.holds Try.pinned (OpenSpec.upto fnOnePlaceSpec)

/-- 'laws.FnIdeals', WHERE WHAT IT READS IS OF BULK AT MOST 1048576: true; the input reads as it did. -/
def fnIdealsUptoRow : OpenClaim := { program := "ytlofiplkmgmnfaa", sum := "38e0094eced5a8842ecf15b7579be935a234a4c41fa471198dc05dbe497d9e8f", func := "loop.example/g00177/laws.FnIdeals", spec := "fnIdeals", unfollowed := true, recurses := true, apart := false, narrowed := true }
def FnIdealsUptoSaid : Prop := fnIdealsUptoRow.holds Try.pinned (OpenSpec.upto fnIdealsSpec)

/-- 'laws.FnWalks', WHERE WHAT IT READS IS OF BULK AT MOST 1048576: true; the input reads as it did. -/
def fnWalksUptoRow : OpenClaim := { program := "ytlofiplkmgmnfaa", sum := "38e0094eced5a8842ecf15b7579be935a234a4c41fa471198dc05dbe497d9e8f", func := "loop.example/g00177/laws.FnWalks", spec := "fnWalks", apart := false, narrowed := true }
def FnWalksUptoSaid : Prop := fnWalksUptoRow.holds Try.pinned (OpenSpec.upto fnWalksSpec)

/-- 'laws.FnTables', WHERE WHAT IT READS IS OF BULK AT MOST 1048576: true; the input reads as it did. -/
def fnTablesUptoRow : OpenClaim := { program := "ytlofiplkmgmnfaa", sum := "38e0094eced5a8842ecf15b7579be935a234a4c41fa471198dc05dbe497d9e8f", func := "loop.example/g00177/laws.FnTables", spec := "fnTables", apart := false, narrowed := true }
def FnTablesUptoSaid : Prop := fnTablesUptoRow.holds Try.pinned (OpenSpec.upto fnTablesSpec)

/-- 'laws.FnLearns', WHERE WHAT IT READS IS OF BULK AT MOST 1048576: true; the input reads as it did. -/
def fnLearnsUptoRow : OpenClaim := { program := "ytlofiplkmgmnfaa", sum := "38e0094eced5a8842ecf15b7579be935a234a4c41fa471198dc05dbe497d9e8f", func := "loop.example/g00177/laws.FnLearns", spec := "fnLearns", apart := false, narrowed := true }
def FnLearnsUptoSaid : Prop := fnLearnsUptoRow.holds Try.pinned (OpenSpec.upto fnLearnsSpec)

end Rows
end Go.Proofs.Ytlofiplkmgmnfaa

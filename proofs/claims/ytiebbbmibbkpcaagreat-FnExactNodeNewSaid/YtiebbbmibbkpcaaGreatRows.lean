/-
  No cell of these rows narrows 'for every input' (looked for: loops, veiled, ifaces, maps, wideKeys, modest, calm, conditions, laid).
  DERIVED. THE GIVEN ROWS OF THIS SEAT. 9 by the template 'for every input the law returns true; each argument reads behind the call as it read before'; 0 by the template 'total and deterministic' (their statements: YtiebbbmibbkpcaaGreatTotals.lean).
  GIVEN WITH THE SEED: the statements are not yours to turn. If you find one false, say at which input.
  Laid BY PROGRAM, IN A SANDBOX (cutbox-rows.mjs): the forced cells as the released guide's own fill.sh prints them over the translation 189b63832503659d… (all of the seat's roots in one cut). By AI agents, Wed Nov 11 2026. No macro, syntax, notation, axiom, sorry.
-/
import Derived.Test.YtiebbbmibbkpcaaGreatChecked
import GoSem.Claim
import GoSem.ClaimJoined
import GoSem.ClaimMapViews
import Derived.JoinedTies
import Derived.KernelRfl
namespace Go.Proofs.YtiebbbmibbkpcaaGreat
/- THE CELL 'sum', in the pinned program and in every row, IS THE sha256 OF THE DUMP (.gsa) THAT YtiebbbmibbkpcaaGreatProg.lean LOADS. Nothing in Lean hashes anything: it is a label: what it is worth is what the hold of that sum in a sandbox is worth. -/
noncomputable def Tryz.pinned : Pinned := { name := "ytiebbbmibbkpcaagreat", sum := "189b63832503659d163fecccf612807a63feb8a0fbbfe8c9d8660aa9070c4ba1", checked := Tryz.checked }
namespace Rows
def none {H : Type} : Left H := { results := [], args := [] }

/-- 'laws.FnExactTrueRoutes': WHATEVER THE INPUT: true; the input reads as it did. -/
def fnExactTrueRoutesSpec : ChangeSpec := { name := "fnExactTrueRoutes", fn := fun _ => fun
  | [d1, d2, d3, d4] => { results := [.lit (.bool true)], args := [d1, d2, d3, d4] }
  | _ => none }
def fnExactTrueRoutesRow : OpenClaim := { program := "ytiebbbmibbkpcaagreat", sum := "189b63832503659d163fecccf612807a63feb8a0fbbfe8c9d8660aa9070c4ba1", func := "loop.example/g00177/laws.FnExactTrueRoutes", spec := "fnExactTrueRoutes", unfollowed := true, recurses := true, apart := false }
def FnExactTrueRoutesSaid : Prop := fnExactTrueRoutesRow.holds Tryz.pinned (OpenSpec.ofChange fnExactTrueRoutesSpec)

/-- ITS FALSE NEIGHBOUR: 'it returns false'. Refute it at one input. -/
def fnExactTrueRoutesWrong : ChangeSpec := { name := "fnExactTrueRoutes", fn := fun _ => fun
  | [d1, d2, d3, d4] => { results := [.lit (.bool false)], args := [d1, d2, d3, d4] }
  | _ => none }
def FnExactTrueRoutesWrongFalsely : Prop := fnExactTrueRoutesRow.holds Tryz.pinned (OpenSpec.ofChange fnExactTrueRoutesWrong)

/-- 'laws.FnExactRoutes': WHATEVER THE INPUT: true; the input reads as it did. -/
def fnExactRoutesSpec : ChangeSpec := { name := "fnExactRoutes", fn := fun _ => fun
  | [d] => { results := [.lit (.bool true)], args := [d] }
  | _ => none }
def fnExactRoutesRow : OpenClaim := { program := "ytiebbbmibbkpcaagreat", sum := "189b63832503659d163fecccf612807a63feb8a0fbbfe8c9d8660aa9070c4ba1", func := "loop.example/g00177/laws.FnExactRoutes", spec := "fnExactRoutes", apart := false }
def FnExactRoutesSaid : Prop := fnExactRoutesRow.holds Tryz.pinned (OpenSpec.ofChange fnExactRoutesSpec)

/-- ITS FALSE NEIGHBOUR: 'it returns false'. Refute it at one input. -/
def fnExactRoutesWrong : ChangeSpec := { name := "fnExactRoutes", fn := fun _ => fun
  | [d] => { results := [.lit (.bool false)], args := [d] }
  | _ => none }
def FnExactRoutesWrongFalsely : Prop := fnExactRoutesRow.holds Tryz.pinned (OpenSpec.ofChange fnExactRoutesWrong)

/-- 'laws.FnExactRenew': WHATEVER THE INPUT: true; the input reads as it did. -/
def fnExactRenewSpec : ChangeSpec := { name := "fnExactRenew", fn := fun _ => fun
  | [d] => { results := [.lit (.bool true)], args := [d] }
  | _ => none }
def fnExactRenewRow : OpenClaim := { program := "ytiebbbmibbkpcaagreat", sum := "189b63832503659d163fecccf612807a63feb8a0fbbfe8c9d8660aa9070c4ba1", func := "loop.example/g00177/laws.FnExactRenew", spec := "fnExactRenew", unfollowed := true, recurses := true, apart := false }
def FnExactRenewSaid : Prop := fnExactRenewRow.holds Tryz.pinned (OpenSpec.ofChange fnExactRenewSpec)

/-- ITS FALSE NEIGHBOUR: 'it returns false'. Refute it at one input. -/
def fnExactRenewWrong : ChangeSpec := { name := "fnExactRenew", fn := fun _ => fun
  | [d] => { results := [.lit (.bool false)], args := [d] }
  | _ => none }
def FnExactRenewWrongFalsely : Prop := fnExactRenewRow.holds Tryz.pinned (OpenSpec.ofChange fnExactRenewWrong)

/-- 'laws.FnExactNodeNew': WHATEVER THE INPUT: true; the input reads as it did. -/
def fnExactNodeNewSpec : ChangeSpec := { name := "fnExactNodeNew", fn := fun _ => fun
  | [d1, d2, d3] => { results := [.lit (.bool true)], args := [d1, d2, d3] }
  | _ => none }
def fnExactNodeNewRow : OpenClaim := { program := "ytiebbbmibbkpcaagreat", sum := "189b63832503659d163fecccf612807a63feb8a0fbbfe8c9d8660aa9070c4ba1", func := "loop.example/g00177/laws.FnExactNodeNew", spec := "fnExactNodeNew", unfollowed := true, recurses := true, apart := false }
def FnExactNodeNewSaid : Prop := fnExactNodeNewRow.holds Tryz.pinned (OpenSpec.ofChange fnExactNodeNewSpec)

/-- ITS FALSE NEIGHBOUR: 'it returns false'. Refute it at one input. -/
def fnExactNodeNewWrong : ChangeSpec := { name := "fnExactNodeNew", fn := fun _ => fun
  | [d1, d2, d3] => { results := [.lit (.bool false)], args := [d1, d2, d3] }
  | _ => none }
def FnExactNodeNewWrongFalsely : Prop := fnExactNodeNewRow.holds Tryz.pinned (OpenSpec.ofChange fnExactNodeNewWrong)

/-- 'laws.FnExactSettled': WHATEVER THE INPUT: true; the input reads as it did. -/
def fnExactSettledSpec : ChangeSpec := { name := "fnExactSettled", fn := fun _ => fun
  | [d] => { results := [.lit (.bool true)], args := [d] }
  | _ => none }
def fnExactSettledRow : OpenClaim := { program := "ytiebbbmibbkpcaagreat", sum := "189b63832503659d163fecccf612807a63feb8a0fbbfe8c9d8660aa9070c4ba1", func := "loop.example/g00177/laws.FnExactSettled", spec := "fnExactSettled", unfollowed := true, recurses := true, apart := false }
def FnExactSettledSaid : Prop := fnExactSettledRow.holds Tryz.pinned (OpenSpec.ofChange fnExactSettledSpec)

/-- ITS FALSE NEIGHBOUR: 'it returns false'. Refute it at one input. -/
def fnExactSettledWrong : ChangeSpec := { name := "fnExactSettled", fn := fun _ => fun
  | [d] => { results := [.lit (.bool false)], args := [d] }
  | _ => none }
def FnExactSettledWrongFalsely : Prop := fnExactSettledRow.holds Tryz.pinned (OpenSpec.ofChange fnExactSettledWrong)

/-- 'laws.FnExactWorldNew': WHATEVER THE INPUT: true; the input reads as it did. -/
def fnExactWorldNewSpec : ChangeSpec := { name := "fnExactWorldNew", fn := fun _ => fun
  | [d] => { results := [.lit (.bool true)], args := [d] }
  | _ => none }
def fnExactWorldNewRow : OpenClaim := { program := "ytiebbbmibbkpcaagreat", sum := "189b63832503659d163fecccf612807a63feb8a0fbbfe8c9d8660aa9070c4ba1", func := "loop.example/g00177/laws.FnExactWorldNew", spec := "fnExactWorldNew", unfollowed := true, recurses := true, apart := false }
def FnExactWorldNewSaid : Prop := fnExactWorldNewRow.holds Tryz.pinned (OpenSpec.ofChange fnExactWorldNewSpec)

/-- ITS FALSE NEIGHBOUR: 'it returns false'. Refute it at one input. -/
def fnExactWorldNewWrong : ChangeSpec := { name := "fnExactWorldNew", fn := fun _ => fun
  | [d] => { results := [.lit (.bool false)], args := [d] }
  | _ => none }
def FnExactWorldNewWrongFalsely : Prop := fnExactWorldNewRow.holds Tryz.pinned (OpenSpec.ofChange fnExactWorldNewWrong)

/-- 'laws.FnExactTickNode': WHATEVER THE INPUT: true; the input reads as it did. -/
def fnExactTickNodeSpec : ChangeSpec := { name := "fnExactTickNode", fn := fun _ => fun
  | [d] => { results := [.lit (.bool true)], args := [d] }
  | _ => none }
def fnExactTickNodeRow : OpenClaim := { program := "ytiebbbmibbkpcaagreat", sum := "189b63832503659d163fecccf612807a63feb8a0fbbfe8c9d8660aa9070c4ba1", func := "loop.example/g00177/laws.FnExactTickNode", spec := "fnExactTickNode", unfollowed := true, recurses := true, apart := false }
def FnExactTickNodeSaid : Prop := fnExactTickNodeRow.holds Tryz.pinned (OpenSpec.ofChange fnExactTickNodeSpec)

/-- ITS FALSE NEIGHBOUR: 'it returns false'. Refute it at one input. -/
def fnExactTickNodeWrong : ChangeSpec := { name := "fnExactTickNode", fn := fun _ => fun
  | [d] => { results := [.lit (.bool false)], args := [d] }
  | _ => none }
def FnExactTickNodeWrongFalsely : Prop := fnExactTickNodeRow.holds Tryz.pinned (OpenSpec.ofChange fnExactTickNodeWrong)

/-- 'laws.FnExactHearNode': WHATEVER THE INPUT: true; the input reads as it did. -/
def fnExactHearNodeSpec : ChangeSpec := { name := "fnExactHearNode", fn := fun _ => fun
  | [d1, d2] => { results := [.lit (.bool true)], args := [d1, d2] }
  | _ => none }
def fnExactHearNodeRow : OpenClaim := { program := "ytiebbbmibbkpcaagreat", sum := "189b63832503659d163fecccf612807a63feb8a0fbbfe8c9d8660aa9070c4ba1", func := "loop.example/g00177/laws.FnExactHearNode", spec := "fnExactHearNode", unfollowed := true, recurses := true, apart := false }
def FnExactHearNodeSaid : Prop := fnExactHearNodeRow.holds Tryz.pinned (OpenSpec.ofChange fnExactHearNodeSpec)

/-- ITS FALSE NEIGHBOUR: 'it returns false'. Refute it at one input. -/
def fnExactHearNodeWrong : ChangeSpec := { name := "fnExactHearNode", fn := fun _ => fun
  | [d1, d2] => { results := [.lit (.bool false)], args := [d1, d2] }
  | _ => none }
def FnExactHearNodeWrongFalsely : Prop := fnExactHearNodeRow.holds Tryz.pinned (OpenSpec.ofChange fnExactHearNodeWrong)

/-- 'laws.FnExactRunNet': WHATEVER THE INPUT: true; the input reads as it did. -/
def fnExactRunNetSpec : ChangeSpec := { name := "fnExactRunNet", fn := fun _ => fun
  | [d1, d2] => { results := [.lit (.bool true)], args := [d1, d2] }
  | _ => none }
def fnExactRunNetRow : OpenClaim := { program := "ytiebbbmibbkpcaagreat", sum := "189b63832503659d163fecccf612807a63feb8a0fbbfe8c9d8660aa9070c4ba1", func := "loop.example/g00177/laws.FnExactRunNet", spec := "fnExactRunNet", unfollowed := true, recurses := true, apart := false }
def FnExactRunNetSaid : Prop := fnExactRunNetRow.holds Tryz.pinned (OpenSpec.ofChange fnExactRunNetSpec)

/-- ITS FALSE NEIGHBOUR: 'it returns false'. Refute it at one input. -/
def fnExactRunNetWrong : ChangeSpec := { name := "fnExactRunNet", fn := fun _ => fun
  | [d1, d2] => { results := [.lit (.bool false)], args := [d1, d2] }
  | _ => none }
def FnExactRunNetWrongFalsely : Prop := fnExactRunNetRow.holds Tryz.pinned (OpenSpec.ofChange fnExactRunNetWrong)

/- THE SECOND FORM. 'bulk': how many values and letters a reading holds, each counted each time it is reached (what is shared counts as often as it is met; a slice's spare places count too). A statement '..UptoSaid' is the law's where the arguments, and the package variables that the reading takes, are together of bulk at most 1048576: NARROWER than '..Said'. Prove '..Said' where nothing that the law and all that it calls make is longer than what came in: it says more and counts as full. Else prove '..UptoSaid'. A law counts once. -/
mutual
def uptoBulk {H : Type} : DataW H → Nat
  | .lit (.string bytes) => bytes.length + 1
  | .lit _ => 1
  | .nil => 1
  | .ptr d => uptoBulk d + 1
  | .slice elems spare => uptoBulkAll elems + uptoBulkAll spare + 1
  | .agg parts => uptoBulkAll parts + 1
  | .iface _ d => uptoBulk d + 1
  | .map entries => uptoBulkEntries entries + 1
  | .held _ => 1
def uptoBulkAll {H : Type} : List (DataW H) → Nat
  | [] => 0
  | d :: r => uptoBulk d + uptoBulkAll r
def uptoBulkEntries {H : Type} : List (Lit × DataW H) → Nat
  | [] => 0
  | x :: r => uptoBulkEntry x + uptoBulkEntries r
def uptoBulkEntry {H : Type} : Lit × DataW H → Nat
  | (.string bytes, d) => bytes.length + uptoBulk d + 1
  | (_, d) => uptoBulk d + 1
 end
def uptoSmall : (H : Type) → List (DataW H) → Bool := fun _ ds => decide (uptoBulkAll ds ≤ 1048576)
def OpenSpec.upto (s : _root_.Go.ChangeSpec) : _root_.Go.OpenSpec := { _root_.Go.OpenSpec.ofChange s with cond := some uptoSmall }

/-- 'laws.FnExactTrueRoutes', WHERE WHAT IT READS IS OF BULK AT MOST 1048576: true; the input reads as it did. -/
def fnExactTrueRoutesUptoRow : OpenClaim := { program := "ytiebbbmibbkpcaagreat", sum := "189b63832503659d163fecccf612807a63feb8a0fbbfe8c9d8660aa9070c4ba1", func := "loop.example/g00177/laws.FnExactTrueRoutes", spec := "fnExactTrueRoutes", unfollowed := true, recurses := true, apart := false, narrowed := true }
def FnExactTrueRoutesUptoSaid : Prop := fnExactTrueRoutesUptoRow.holds Tryz.pinned (OpenSpec.upto fnExactTrueRoutesSpec)

/-- 'laws.FnExactRoutes', WHERE WHAT IT READS IS OF BULK AT MOST 1048576: true; the input reads as it did. -/
def fnExactRoutesUptoRow : OpenClaim := { program := "ytiebbbmibbkpcaagreat", sum := "189b63832503659d163fecccf612807a63feb8a0fbbfe8c9d8660aa9070c4ba1", func := "loop.example/g00177/laws.FnExactRoutes", spec := "fnExactRoutes", apart := false, narrowed := true }
def FnExactRoutesUptoSaid : Prop := fnExactRoutesUptoRow.holds Tryz.pinned (OpenSpec.upto fnExactRoutesSpec)

/-- 'laws.FnExactRenew', WHERE WHAT IT READS IS OF BULK AT MOST 1048576: true; the input reads as it did. -/
def fnExactRenewUptoRow : OpenClaim := { program := "ytiebbbmibbkpcaagreat", sum := "189b63832503659d163fecccf612807a63feb8a0fbbfe8c9d8660aa9070c4ba1", func := "loop.example/g00177/laws.FnExactRenew", spec := "fnExactRenew", unfollowed := true, recurses := true, apart := false, narrowed := true }
def FnExactRenewUptoSaid : Prop := fnExactRenewUptoRow.holds Tryz.pinned (OpenSpec.upto fnExactRenewSpec)

/-- 'laws.FnExactNodeNew', WHERE WHAT IT READS IS OF BULK AT MOST 1048576: true; the input reads as it did. -/
def fnExactNodeNewUptoRow : OpenClaim := { program := "ytiebbbmibbkpcaagreat", sum := "189b63832503659d163fecccf612807a63feb8a0fbbfe8c9d8660aa9070c4ba1", func := "loop.example/g00177/laws.FnExactNodeNew", spec := "fnExactNodeNew", unfollowed := true, recurses := true, apart := false, narrowed := true }
def FnExactNodeNewUptoSaid : Prop := fnExactNodeNewUptoRow.holds Tryz.pinned (OpenSpec.upto fnExactNodeNewSpec)

/-- 'laws.FnExactSettled', WHERE WHAT IT READS IS OF BULK AT MOST 1048576: true; the input reads as it did. -/
def fnExactSettledUptoRow : OpenClaim := { program := "ytiebbbmibbkpcaagreat", sum := "189b63832503659d163fecccf612807a63feb8a0fbbfe8c9d8660aa9070c4ba1", func := "loop.example/g00177/laws.FnExactSettled", spec := "fnExactSettled", unfollowed := true, recurses := true, apart := false, narrowed := true }
def FnExactSettledUptoSaid : Prop := fnExactSettledUptoRow.holds Tryz.pinned (OpenSpec.upto fnExactSettledSpec)

/-- 'laws.FnExactWorldNew', WHERE WHAT IT READS IS OF BULK AT MOST 1048576: true; the input reads as it did. -/
def fnExactWorldNewUptoRow : OpenClaim := { program := "ytiebbbmibbkpcaagreat", sum := "189b63832503659d163fecccf612807a63feb8a0fbbfe8c9d8660aa9070c4ba1", func := "loop.example/g00177/laws.FnExactWorldNew", spec := "fnExactWorldNew", unfollowed := true, recurses := true, apart := false, narrowed := true }
def FnExactWorldNewUptoSaid : Prop := fnExactWorldNewUptoRow.holds Tryz.pinned (OpenSpec.upto fnExactWorldNewSpec)

/-- 'laws.FnExactTickNode', WHERE WHAT IT READS IS OF BULK AT MOST 1048576: true; the input reads as it did. -/
def fnExactTickNodeUptoRow : OpenClaim := { program := "ytiebbbmibbkpcaagreat", sum := "189b63832503659d163fecccf612807a63feb8a0fbbfe8c9d8660aa9070c4ba1", func := "loop.example/g00177/laws.FnExactTickNode", spec := "fnExactTickNode", unfollowed := true, recurses := true, apart := false, narrowed := true }
def FnExactTickNodeUptoSaid : Prop := fnExactTickNodeUptoRow.holds Tryz.pinned (OpenSpec.upto fnExactTickNodeSpec)

/-- 'laws.FnExactHearNode', WHERE WHAT IT READS IS OF BULK AT MOST 1048576: true; the input reads as it did. -/
def fnExactHearNodeUptoRow : OpenClaim := { program := "ytiebbbmibbkpcaagreat", sum := "189b63832503659d163fecccf612807a63feb8a0fbbfe8c9d8660aa9070c4ba1", func := "loop.example/g00177/laws.FnExactHearNode", spec := "fnExactHearNode", unfollowed := true, recurses := true, apart := false, narrowed := true }
def FnExactHearNodeUptoSaid : Prop := fnExactHearNodeUptoRow.holds Tryz.pinned (OpenSpec.upto fnExactHearNodeSpec)

/-- 'laws.FnExactRunNet', WHERE WHAT IT READS IS OF BULK AT MOST 1048576: true; the input reads as it did. -/
def fnExactRunNetUptoRow : OpenClaim := { program := "ytiebbbmibbkpcaagreat", sum := "189b63832503659d163fecccf612807a63feb8a0fbbfe8c9d8660aa9070c4ba1", func := "loop.example/g00177/laws.FnExactRunNet", spec := "fnExactRunNet", unfollowed := true, recurses := true, apart := false, narrowed := true }
def FnExactRunNetUptoSaid : Prop := fnExactRunNetUptoRow.holds Tryz.pinned (OpenSpec.upto fnExactRunNetSpec)

end Rows
end Go.Proofs.YtiebbbmibbkpcaaGreat

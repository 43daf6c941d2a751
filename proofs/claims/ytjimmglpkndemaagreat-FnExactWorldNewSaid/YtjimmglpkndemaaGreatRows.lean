/-
  No cell of these rows narrows 'for every input' (looked for: loops, veiled, ifaces, maps, wideKeys, modest, calm, conditions, laid).
  DERIVED. THE GIVEN ROWS OF THIS SEAT. 6 by the template 'for every input the law returns true; each argument reads behind the call as it read before'; 0 by the template 'total and deterministic' (their statements: YtjimmglpkndemaaGreatTotals.lean).
  GIVEN WITH THE SEED: the statements are not yours to turn. If you find one false, say at which input.
  Laid BY PROGRAM, IN A SANDBOX (cutbox-rows.mjs): the forced cells as the released guide's own fill.sh prints them over the translation b0d0646cb12d6d4e… (all of the seat's roots in one cut). By AI agents, Wed Nov 11 2026. No macro, syntax, notation, axiom, sorry.
-/
import Derived.Test.YtjimmglpkndemaaGreatChecked
import GoSem.Claim
import GoSem.ClaimJoined
import GoSem.ClaimMapViews
import Derived.JoinedTies
import Derived.KernelRfl
namespace Go.Proofs.YtjimmglpkndemaaGreat
/- THE CELL 'sum', in the pinned program and in every row, IS THE sha256 OF THE DUMP (.gsa) THAT YtjimmglpkndemaaGreatProg.lean LOADS. Nothing in Lean hashes anything: it is a label: what it is worth is what the hold of that sum in a sandbox is worth. -/
noncomputable def Tryz.pinned : Pinned := { name := "ytjimmglpkndemaagreat", sum := "b0d0646cb12d6d4eeeb6720eb86b6be24eccb3e6195e5589d1e182f0430a32e6", checked := Tryz.checked }
namespace Rows
def none {H : Type} : Left H := { results := [], args := [] }

/-- 'laws.FnRenews': WHATEVER THE INPUT: true; the input reads as it did. -/
def fnRenewsSpec : ChangeSpec := { name := "fnRenews", fn := fun _ => fun
  | [d] => { results := [.lit (.bool true)], args := [d] }
  | _ => none }
def fnRenewsRow : OpenClaim := { program := "ytjimmglpkndemaagreat", sum := "b0d0646cb12d6d4eeeb6720eb86b6be24eccb3e6195e5589d1e182f0430a32e6", func := "loop.example/g00177/laws.FnRenews", spec := "fnRenews", unfollowed := true, recurses := true, apart := false }
def FnRenewsSaid : Prop := fnRenewsRow.holds Tryz.pinned (OpenSpec.ofChange fnRenewsSpec)

/-- ITS FALSE NEIGHBOUR: 'it returns false'. Refute it at one input. -/
def fnRenewsWrong : ChangeSpec := { name := "fnRenews", fn := fun _ => fun
  | [d] => { results := [.lit (.bool false)], args := [d] }
  | _ => none }
def FnRenewsWrongFalsely : Prop := fnRenewsRow.holds Tryz.pinned (OpenSpec.ofChange fnRenewsWrong)

/-- 'laws.FnEars': WHATEVER THE INPUT: true; the input reads as it did. -/
def fnEarsSpec : ChangeSpec := { name := "fnEars", fn := fun _ => fun
  | [d] => { results := [.lit (.bool true)], args := [d] }
  | _ => none }
def fnEarsRow : OpenClaim := { program := "ytjimmglpkndemaagreat", sum := "b0d0646cb12d6d4eeeb6720eb86b6be24eccb3e6195e5589d1e182f0430a32e6", func := "loop.example/g00177/laws.FnEars", spec := "fnEars", unfollowed := true, recurses := true, apart := false }
def FnEarsSaid : Prop := fnEarsRow.holds Tryz.pinned (OpenSpec.ofChange fnEarsSpec)

/-- ITS FALSE NEIGHBOUR: 'it returns false'. Refute it at one input. -/
def fnEarsWrong : ChangeSpec := { name := "fnEars", fn := fun _ => fun
  | [d] => { results := [.lit (.bool false)], args := [d] }
  | _ => none }
def FnEarsWrongFalsely : Prop := fnEarsRow.holds Tryz.pinned (OpenSpec.ofChange fnEarsWrong)

/-- 'laws.FnNodes': WHATEVER THE INPUT: true; the input reads as it did. -/
def fnNodesSpec : ChangeSpec := { name := "fnNodes", fn := fun _ => fun
  | [d] => { results := [.lit (.bool true)], args := [d] }
  | _ => none }
def fnNodesRow : OpenClaim := { program := "ytjimmglpkndemaagreat", sum := "b0d0646cb12d6d4eeeb6720eb86b6be24eccb3e6195e5589d1e182f0430a32e6", func := "loop.example/g00177/laws.FnNodes", spec := "fnNodes", unfollowed := true, recurses := true, apart := false }
def FnNodesSaid : Prop := fnNodesRow.holds Tryz.pinned (OpenSpec.ofChange fnNodesSpec)

/-- ITS FALSE NEIGHBOUR: 'it returns false'. Refute it at one input. -/
def fnNodesWrong : ChangeSpec := { name := "fnNodes", fn := fun _ => fun
  | [d] => { results := [.lit (.bool false)], args := [d] }
  | _ => none }
def FnNodesWrongFalsely : Prop := fnNodesRow.holds Tryz.pinned (OpenSpec.ofChange fnNodesWrong)

/-- 'laws.FnExactTickNode': WHATEVER THE INPUT: true; the input reads as it did. -/
def fnExactTickNodeSpec : ChangeSpec := { name := "fnExactTickNode", fn := fun _ => fun
  | [d] => { results := [.lit (.bool true)], args := [d] }
  | _ => none }
def fnExactTickNodeRow : OpenClaim := { program := "ytjimmglpkndemaagreat", sum := "b0d0646cb12d6d4eeeb6720eb86b6be24eccb3e6195e5589d1e182f0430a32e6", func := "loop.example/g00177/laws.FnExactTickNode", spec := "fnExactTickNode", unfollowed := true, recurses := true, apart := false }
def FnExactTickNodeSaid : Prop := fnExactTickNodeRow.holds Tryz.pinned (OpenSpec.ofChange fnExactTickNodeSpec)

/-- ITS FALSE NEIGHBOUR: 'it returns false'. Refute it at one input. -/
def fnExactTickNodeWrong : ChangeSpec := { name := "fnExactTickNode", fn := fun _ => fun
  | [d] => { results := [.lit (.bool false)], args := [d] }
  | _ => none }
def FnExactTickNodeWrongFalsely : Prop := fnExactTickNodeRow.holds Tryz.pinned (OpenSpec.ofChange fnExactTickNodeWrong)

/-- 'laws.FnExactHearNode': WHATEVER THE INPUT: true; the input reads as it did. -/
def fnExactHearNodeSpec : ChangeSpec := { name := "fnExactHearNode", fn := fun _ => fun
  | [d1, d2] => { results := [.lit (.bool true)], args := [d1, d2] }
  | _ => none }
def fnExactHearNodeRow : OpenClaim := { program := "ytjimmglpkndemaagreat", sum := "b0d0646cb12d6d4eeeb6720eb86b6be24eccb3e6195e5589d1e182f0430a32e6", func := "loop.example/g00177/laws.FnExactHearNode", spec := "fnExactHearNode", unfollowed := true, recurses := true, apart := false }
def FnExactHearNodeSaid : Prop := fnExactHearNodeRow.holds Tryz.pinned (OpenSpec.ofChange fnExactHearNodeSpec)

/-- ITS FALSE NEIGHBOUR: 'it returns false'. Refute it at one input. -/
def fnExactHearNodeWrong : ChangeSpec := { name := "fnExactHearNode", fn := fun _ => fun
  | [d1, d2] => { results := [.lit (.bool false)], args := [d1, d2] }
  | _ => none }
def FnExactHearNodeWrongFalsely : Prop := fnExactHearNodeRow.holds Tryz.pinned (OpenSpec.ofChange fnExactHearNodeWrong)

/-- 'laws.FnExactWorldNew': WHATEVER THE INPUT: true; the input reads as it did. -/
def fnExactWorldNewSpec : ChangeSpec := { name := "fnExactWorldNew", fn := fun _ => fun
  | [d] => { results := [.lit (.bool true)], args := [d] }
  | _ => none }
def fnExactWorldNewRow : OpenClaim := { program := "ytjimmglpkndemaagreat", sum := "b0d0646cb12d6d4eeeb6720eb86b6be24eccb3e6195e5589d1e182f0430a32e6", func := "loop.example/g00177/laws.FnExactWorldNew", spec := "fnExactWorldNew", unfollowed := true, recurses := true, apart := false }
def FnExactWorldNewSaid : Prop := fnExactWorldNewRow.holds Tryz.pinned (OpenSpec.ofChange fnExactWorldNewSpec)

/-- ITS FALSE NEIGHBOUR: 'it returns false'. Refute it at one input. -/
def fnExactWorldNewWrong : ChangeSpec := { name := "fnExactWorldNew", fn := fun _ => fun
  | [d] => { results := [.lit (.bool false)], args := [d] }
  | _ => none }
def FnExactWorldNewWrongFalsely : Prop := fnExactWorldNewRow.holds Tryz.pinned (OpenSpec.ofChange fnExactWorldNewWrong)

/- THE SECOND FORM. 'bulk': how many values and letters a reading holds, each counted each time it is reached (what is shared counts as often as it is met; a slice's spare places count too). A statement '..UptoSaid' is the law's where the arguments, and the package variables that the reading takes, are together of bulk at most 1048576: NARROWER than '..Said'. Prove '..Said' where nothing that the law and all that it calls make is longer than what came in: it says more and counts as full. Else prove '..UptoSaid'. A law counts once. -/
mutual
def uptoBulk {H : Type} : DataW H → Nat
  | .lit (.string bytes) => bytes.length + 1
  | .lit _ => 1
  | .nil => 1
  | .ptr d => uptoBulk d + 1
  | .slice elems spare => uptoBulkAll elems + uptoBulkAll spare + 1
  | .agg parts => uptoBulkAll parts + 1
  | .iface _ d => uptoBulk d + 1
  | .map entries => uptoBulkEntries entries + 1
  | .held _ => 1
def uptoBulkAll {H : Type} : List (DataW H) → Nat
  | [] => 0
  | d :: r => uptoBulk d + uptoBulkAll r
def uptoBulkEntries {H : Type} : List (Lit × DataW H) → Nat
  | [] => 0
  | x :: r => uptoBulkEntry x + uptoBulkEntries r
def uptoBulkEntry {H : Type} : Lit × DataW H → Nat
  | (.string bytes, d) => bytes.length + uptoBulk d + 1
  | (_, d) => uptoBulk d + 1
 end
def uptoSmall : (H : Type) → List (DataW H) → Bool := fun _ ds => decide (uptoBulkAll ds ≤ 1048576)
def OpenSpec.upto (s : _root_.Go.ChangeSpec) : _root_.Go.OpenSpec := { _root_.Go.OpenSpec.ofChange s with cond := some uptoSmall }

/-- 'laws.FnRenews', WHERE WHAT IT READS IS OF BULK AT MOST 1048576: true; the input reads as it did. -/
def fnRenewsUptoRow : OpenClaim := { program := "ytjimmglpkndemaagreat", sum := "b0d0646cb12d6d4eeeb6720eb86b6be24eccb3e6195e5589d1e182f0430a32e6", func := "loop.example/g00177/laws.FnRenews", spec := "fnRenews", unfollowed := true, recurses := true, apart := false, narrowed := true }
def FnRenewsUptoSaid : Prop := fnRenewsUptoRow.holds Tryz.pinned (OpenSpec.upto fnRenewsSpec)

/-- 'laws.FnEars', WHERE WHAT IT READS IS OF BULK AT MOST 1048576: true; the input reads as it did. -/
def fnEarsUptoRow : OpenClaim := { program := "ytjimmglpkndemaagreat", sum := "b0d0646cb12d6d4eeeb6720eb86b6be24eccb3e6195e5589d1e182f0430a32e6", func := "loop.example/g00177/laws.FnEars", spec := "fnEars", unfollowed := true, recurses := true, apart := false, narrowed := true }
def FnEarsUptoSaid : Prop := fnEarsUptoRow.holds Tryz.pinned (OpenSpec.upto fnEarsSpec)

/-- 'laws.FnNodes', WHERE WHAT IT READS IS OF BULK AT MOST 1048576: true; the input reads as it did. -/
def fnNodesUptoRow : OpenClaim := { program := "ytjimmglpkndemaagreat", sum := "b0d0646cb12d6d4eeeb6720eb86b6be24eccb3e6195e5589d1e182f0430a32e6", func := "loop.example/g00177/laws.FnNodes", spec := "fnNodes", unfollowed := true, recurses := true, apart := false, narrowed := true }
def FnNodesUptoSaid : Prop := fnNodesUptoRow.holds Tryz.pinned (OpenSpec.upto fnNodesSpec)

/-- 'laws.FnExactTickNode', WHERE WHAT IT READS IS OF BULK AT MOST 1048576: true; the input reads as it did. -/
def fnExactTickNodeUptoRow : OpenClaim := { program := "ytjimmglpkndemaagreat", sum := "b0d0646cb12d6d4eeeb6720eb86b6be24eccb3e6195e5589d1e182f0430a32e6", func := "loop.example/g00177/laws.FnExactTickNode", spec := "fnExactTickNode", unfollowed := true, recurses := true, apart := false, narrowed := true }
def FnExactTickNodeUptoSaid : Prop := fnExactTickNodeUptoRow.holds Tryz.pinned (OpenSpec.upto fnExactTickNodeSpec)

/-- 'laws.FnExactHearNode', WHERE WHAT IT READS IS OF BULK AT MOST 1048576: true; the input reads as it did. -/
def fnExactHearNodeUptoRow : OpenClaim := { program := "ytjimmglpkndemaagreat", sum := "b0d0646cb12d6d4eeeb6720eb86b6be24eccb3e6195e5589d1e182f0430a32e6", func := "loop.example/g00177/laws.FnExactHearNode", spec := "fnExactHearNode", unfollowed := true, recurses := true, apart := false, narrowed := true }
def FnExactHearNodeUptoSaid : Prop := fnExactHearNodeUptoRow.holds Tryz.pinned (OpenSpec.upto fnExactHearNodeSpec)

/-- 'laws.FnExactWorldNew', WHERE WHAT IT READS IS OF BULK AT MOST 1048576: true; the input reads as it did. -/
def fnExactWorldNewUptoRow : OpenClaim := { program := "ytjimmglpkndemaagreat", sum := "b0d0646cb12d6d4eeeb6720eb86b6be24eccb3e6195e5589d1e182f0430a32e6", func := "loop.example/g00177/laws.FnExactWorldNew", spec := "fnExactWorldNew", unfollowed := true, recurses := true, apart := false, narrowed := true }
def FnExactWorldNewUptoSaid : Prop := fnExactWorldNewUptoRow.holds Tryz.pinned (OpenSpec.upto fnExactWorldNewSpec)

end Rows
end Go.Proofs.YtjimmglpkndemaaGreat

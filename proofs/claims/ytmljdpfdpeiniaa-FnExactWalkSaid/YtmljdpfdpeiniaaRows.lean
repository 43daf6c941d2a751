/-
  No cell of these rows narrows 'for every input' (looked for: loops, veiled, ifaces, maps, wideKeys, modest, calm, conditions, laid).
  DERIVED. THE GIVEN ROWS OF THIS SEAT. 5 by the template 'for every input the law returns true; each argument reads behind the call as it read before'; 0 by the template 'total and deterministic' (their statements: YtmljdpfdpeiniaaTotals.lean).
  GIVEN WITH THE SEED: the statements are not yours to turn. If you find one false, say at which input.
  Laid BY PROGRAM, IN A SANDBOX (cutbox-rows.mjs): the forced cells as the released guide's own fill.sh prints them over the translation df2ab0ca1387cb80… (all of the seat's roots in one cut). By AI agents, Wed Nov 11 2026. No macro, syntax, notation, axiom, sorry.
-/
import Derived.Test.YtmljdpfdpeiniaaChecked
import GoSem.Claim
import GoSem.ClaimJoined
import GoSem.ClaimMapViews
import Derived.JoinedTies
import Derived.KernelRfl
namespace Go.Proofs.Ytmljdpfdpeiniaa
/- THE CELL 'sum', in the pinned program and in every row, IS THE sha256 OF THE DUMP (.gsa) THAT YtmljdpfdpeiniaaProg.lean LOADS. Nothing in Lean hashes anything: it is a label: what it is worth is what the hold of that sum in a sandbox is worth. -/
noncomputable def Try.pinned : Pinned := { name := "ytmljdpfdpeiniaa", sum := "df2ab0ca1387cb80f5548c98ef48fdfa8c8143b44b2ff63a4682e8b2532eb35f", checked := Try.checked }
namespace Rows
def none {H : Type} : Left H := { results := [], args := [] }

/-- 'laws.FnExactEventOk': WHATEVER THE INPUT: true; the input reads as it did. -/
def fnExactEventOkSpec : ChangeSpec := { name := "fnExactEventOk", fn := fun _ => fun
  | [d1, d2] => { results := [.lit (.bool true)], args := [d1, d2] }
  | _ => none }
def fnExactEventOkRow : OpenClaim := { program := "ytmljdpfdpeiniaa", sum := "df2ab0ca1387cb80f5548c98ef48fdfa8c8143b44b2ff63a4682e8b2532eb35f", func := "loop.example/g00177/laws.FnExactEventOk", spec := "fnExactEventOk", apart := false }
def FnExactEventOkSaid : Prop := fnExactEventOkRow.holds Try.pinned (OpenSpec.ofChange fnExactEventOkSpec)

/-- ITS FALSE NEIGHBOUR: 'it returns false'. Refute it at one input. -/
def fnExactEventOkWrong : ChangeSpec := { name := "fnExactEventOk", fn := fun _ => fun
  | [d1, d2] => { results := [.lit (.bool false)], args := [d1, d2] }
  | _ => none }
def FnExactEventOkWrongFalsely : Prop := fnExactEventOkRow.holds Try.pinned (OpenSpec.ofChange fnExactEventOkWrong)

/-- 'laws.FnExactTrueTold': WHATEVER THE INPUT: true; the input reads as it did. -/
def fnExactTrueToldSpec : ChangeSpec := { name := "fnExactTrueTold", fn := fun _ => fun
  | [d1, d2] => { results := [.lit (.bool true)], args := [d1, d2] }
  | _ => none }
def fnExactTrueToldRow : OpenClaim := { program := "ytmljdpfdpeiniaa", sum := "df2ab0ca1387cb80f5548c98ef48fdfa8c8143b44b2ff63a4682e8b2532eb35f", func := "loop.example/g00177/laws.FnExactTrueTold", spec := "fnExactTrueTold", apart := false }
def FnExactTrueToldSaid : Prop := fnExactTrueToldRow.holds Try.pinned (OpenSpec.ofChange fnExactTrueToldSpec)

/-- ITS FALSE NEIGHBOUR: 'it returns false'. Refute it at one input. -/
def fnExactTrueToldWrong : ChangeSpec := { name := "fnExactTrueTold", fn := fun _ => fun
  | [d1, d2] => { results := [.lit (.bool false)], args := [d1, d2] }
  | _ => none }
def FnExactTrueToldWrongFalsely : Prop := fnExactTrueToldRow.holds Try.pinned (OpenSpec.ofChange fnExactTrueToldWrong)

/-- 'laws.FnExactWalk': WHATEVER THE INPUT: true; the input reads as it did. -/
def fnExactWalkSpec : ChangeSpec := { name := "fnExactWalk", fn := fun _ => fun
  | [d1, d2, d3, d4] => { results := [.lit (.bool true)], args := [d1, d2, d3, d4] }
  | _ => none }
def fnExactWalkRow : OpenClaim := { program := "ytmljdpfdpeiniaa", sum := "df2ab0ca1387cb80f5548c98ef48fdfa8c8143b44b2ff63a4682e8b2532eb35f", func := "loop.example/g00177/laws.FnExactWalk", spec := "fnExactWalk", apart := false }
def FnExactWalkSaid : Prop := fnExactWalkRow.holds Try.pinned (OpenSpec.ofChange fnExactWalkSpec)

/-- ITS FALSE NEIGHBOUR: 'it returns false'. Refute it at one input. -/
def fnExactWalkWrong : ChangeSpec := { name := "fnExactWalk", fn := fun _ => fun
  | [d1, d2, d3, d4] => { results := [.lit (.bool false)], args := [d1, d2, d3, d4] }
  | _ => none }
def FnExactWalkWrongFalsely : Prop := fnExactWalkRow.holds Try.pinned (OpenSpec.ofChange fnExactWalkWrong)

/-- 'laws.FnExactTableOf': WHATEVER THE INPUT: true; the input reads as it did. -/
def fnExactTableOfSpec : ChangeSpec := { name := "fnExactTableOf", fn := fun _ => fun
  | [d] => { results := [.lit (.bool true)], args := [d] }
  | _ => none }
def fnExactTableOfRow : OpenClaim := { program := "ytmljdpfdpeiniaa", sum := "df2ab0ca1387cb80f5548c98ef48fdfa8c8143b44b2ff63a4682e8b2532eb35f", func := "loop.example/g00177/laws.FnExactTableOf", spec := "fnExactTableOf", apart := false }
def FnExactTableOfSaid : Prop := fnExactTableOfRow.holds Try.pinned (OpenSpec.ofChange fnExactTableOfSpec)

/-- ITS FALSE NEIGHBOUR: 'it returns false'. Refute it at one input. -/
def fnExactTableOfWrong : ChangeSpec := { name := "fnExactTableOf", fn := fun _ => fun
  | [d] => { results := [.lit (.bool false)], args := [d] }
  | _ => none }
def FnExactTableOfWrongFalsely : Prop := fnExactTableOfRow.holds Try.pinned (OpenSpec.ofChange fnExactTableOfWrong)

/-- 'laws.FnExactDiffer': WHATEVER THE INPUT: true; the input reads as it did. -/
def fnExactDifferSpec : ChangeSpec := { name := "fnExactDiffer", fn := fun _ => fun
  | [d1, d2] => { results := [.lit (.bool true)], args := [d1, d2] }
  | _ => none }
def fnExactDifferRow : OpenClaim := { program := "ytmljdpfdpeiniaa", sum := "df2ab0ca1387cb80f5548c98ef48fdfa8c8143b44b2ff63a4682e8b2532eb35f", func := "loop.example/g00177/laws.FnExactDiffer", spec := "fnExactDiffer", apart := false }
def FnExactDifferSaid : Prop := fnExactDifferRow.holds Try.pinned (OpenSpec.ofChange fnExactDifferSpec)

/-- ITS FALSE NEIGHBOUR: 'it returns false'. Refute it at one input. -/
def fnExactDifferWrong : ChangeSpec := { name := "fnExactDiffer", fn := fun _ => fun
  | [d1, d2] => { results := [.lit (.bool false)], args := [d1, d2] }
  | _ => none }
def FnExactDifferWrongFalsely : Prop := fnExactDifferRow.holds Try.pinned (OpenSpec.ofChange fnExactDifferWrong)

/- THE SECOND FORM. 'bulk': how many values and letters a reading holds, each counted each time it is reached (what is shared counts as often as it is met; a slice's spare places count too). A statement '..UptoSaid' is the law's where the arguments, and the package variables that the reading takes, are together of bulk at most 1048576: NARROWER than '..Said'. Prove '..Said' where nothing that the law and all that it calls make is longer than what came in: it says more and counts as full. Else prove '..UptoSaid'. A law counts once. -/
mutual
def uptoBulk {H : Type} : DataW H → Nat
  | .lit (.string bytes) => bytes.length + 1
  | .lit _ => 1
  | .nil => 1
  | .ptr d => uptoBulk d + 1
  | .slice elems spare => uptoBulkAll elems + uptoBulkAll spare + 1
  | .agg parts => uptoBulkAll parts + 1
  | .iface _ d => uptoBulk d + 1
  | .map entries => uptoBulkEntries entries + 1
  | .held _ => 1
def uptoBulkAll {H : Type} : List (DataW H) → Nat
  | [] => 0
  | d :: r => uptoBulk d + uptoBulkAll r
def uptoBulkEntries {H : Type} : List (Lit × DataW H) → Nat
  | [] => 0
  | x :: r => uptoBulkEntry x + uptoBulkEntries r
def uptoBulkEntry {H : Type} : Lit × DataW H → Nat
  | (.string bytes, d) => bytes.length + uptoBulk d + 1
  | (_, d) => uptoBulk d + 1
 end
def uptoSmall : (H : Type) → List (DataW H) → Bool := fun _ ds => decide (uptoBulkAll ds ≤ 1048576)
def OpenSpec.upto (s : _root_.Go.ChangeSpec) : _root_.Go.OpenSpec := { _root_.Go.OpenSpec.ofChange s with cond := some uptoSmall }

/-- 'laws.FnExactEventOk', WHERE WHAT IT READS IS OF BULK AT MOST 1048576: true; the input reads as it did. -/
def fnExactEventOkUptoRow : OpenClaim := { program := "ytmljdpfdpeiniaa", sum := "df2ab0ca1387cb80f5548c98ef48fdfa8c8143b44b2ff63a4682e8b2532eb35f", func := "loop.example/g00177/laws.FnExactEventOk", spec := "fnExactEventOk", apart := false, narrowed := true }
def FnExactEventOkUptoSaid : Prop := fnExactEventOkUptoRow.holds Try.pinned (OpenSpec.upto fnExactEventOkSpec)

/-- 'laws.FnExactTrueTold', WHERE WHAT IT READS IS OF BULK AT MOST 1048576: true; the input reads as it did. -/
def fnExactTrueToldUptoRow : OpenClaim := { program := "ytmljdpfdpeiniaa", sum := "df2ab0ca1387cb80f5548c98ef48fdfa8c8143b44b2ff63a4682e8b2532eb35f", func := "loop.example/g00177/laws.FnExactTrueTold", spec := "fnExactTrueTold", apart := false, narrowed := true }
def FnExactTrueToldUptoSaid : Prop := fnExactTrueToldUptoRow.holds Try.pinned (OpenSpec.upto fnExactTrueToldSpec)

/-- 'laws.FnExactWalk', WHERE WHAT IT READS IS OF BULK AT MOST 1048576: true; the input reads as it did. -/
def fnExactWalkUptoRow : OpenClaim := { program := "ytmljdpfdpeiniaa", sum := "df2ab0ca1387cb80f5548c98ef48fdfa8c8143b44b2ff63a4682e8b2532eb35f", func := "loop.example/g00177/laws.FnExactWalk", spec := "fnExactWalk", apart := false, narrowed := true }
def FnExactWalkUptoSaid : Prop := fnExactWalkUptoRow.holds Try.pinned (OpenSpec.upto fnExactWalkSpec)

/-- 'laws.FnExactTableOf', WHERE WHAT IT READS IS OF BULK AT MOST 1048576: true; the input reads as it did. -/
def fnExactTableOfUptoRow : OpenClaim := { program := "ytmljdpfdpeiniaa", sum := "df2ab0ca1387cb80f5548c98ef48fdfa8c8143b44b2ff63a4682e8b2532eb35f", func := "loop.example/g00177/laws.FnExactTableOf", spec := "fnExactTableOf", apart := false, narrowed := true }
def FnExactTableOfUptoSaid : Prop := fnExactTableOfUptoRow.holds Try.pinned (OpenSpec.upto fnExactTableOfSpec)

/-- 'laws.FnExactDiffer', WHERE WHAT IT READS IS OF BULK AT MOST 1048576: true; the input reads as it did. -/
def fnExactDifferUptoRow : OpenClaim := { program := "ytmljdpfdpeiniaa", sum := "df2ab0ca1387cb80f5548c98ef48fdfa8c8143b44b2ff63a4682e8b2532eb35f", func := "loop.example/g00177/laws.FnExactDiffer", spec := "fnExactDiffer", apart := false, narrowed := true }
def FnExactDifferUptoSaid : Prop := fnExactDifferUptoRow.holds Try.pinned (OpenSpec.upto fnExactDifferSpec)

end Rows
end Go.Proofs.Ytmljdpfdpeiniaa

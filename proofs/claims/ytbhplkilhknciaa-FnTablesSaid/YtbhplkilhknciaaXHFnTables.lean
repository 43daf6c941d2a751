/- The row of FnTables. Conditions: none. -/
import Derived.Test.YtbhplkilhknciaaXWB
import Derived.Test.YtbhplkilhknciaaKe
import Derived.Test.YtbhplkilhknciaaRows
import Derived.Test.YtbhplkilhknciaaXSR
namespace Go.Proofs.Ytbhplkilhknciaa.HFnTables
open Go.Proofs.YtbhplkilhknciaaC Go.Proofs.Ytbhplkilhknciaa Go.Proofs.YtbhplkilhknciaaWB
theorem lifted (os : Os) (started : os.Started) (H : Type) (enc : TypeId × Value → H) :
    ReturnsInHanded {} Try.checked os 3 .any (Rows.fnTablesSpec.pre6 enc Try.prog Try.f3 Rows.fnTablesRow.domain false) (Rows.fnTablesSpec.post enc Try.prog Try.f3 Rows.fnTablesRow.apart Rows.fnTablesRow.fresh Rows.fnTablesRow.handsOn Rows.fnTablesRow.again) :=
  Th (C := Try.checked) (s := Rows.fnTablesSpec) (f := 3) (fn := Try.f3) (sg := nN.sg) (F := Ob) (ys := Nn) (rt := 4) (by kernel_rfl) started (by kernel_rfl) Try.func3
    (ChangeSpec.witness6 (enc := enc) (C := Try.checked) false ⟨#[], #[.slice none 0 0], []⟩ 8 (by kernel_rfl) (by kernel_rfl) (by kernel_rfl) (by kernel_rfl))
    rfl (fun ds h => by
      match ds, h with
      | [_], _ => rfl) (by kernel_rfl) (by kernel_rfl) (by kernel_rfl) (by kernel_rfl) rfl nN.ok (by kernel_rfl) adA

set_option maxHeartbeats 4000000 in
theorem holds : Rows.FnTablesSaid :=
  OpenClaim.holds_of_wide 3 Try.f3 rfl rfl rfl rfl rfl rfl rfl ⟨rfl, rfl, rfl, rfl, rfl⟩ rfl rfl rfl rfl rfl (by as_aux_lemma => kernel_rfl) Try.func3 (by
      unfold joinedFacts
      simp only [Bool.and_eq_true]
      repeat' apply And.intro
      all_goals (as_aux_lemma => kernel_rfl))
    (of_decide_eq_true (by kernel_rfl)) (by unfold Func.isWrapper; first | (rw [if_pos (by decide +kernel)]; kernel_rfl) | (rw [if_neg (by decide +kernel)]; exact ⟨rfl, rfl⟩))
    (fun os started H enc _ => lifted os started H enc)

#print axioms holds
end Go.Proofs.Ytbhplkilhknciaa.HFnTables

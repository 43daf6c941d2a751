/- The row of FnExactBeyond. Conditions: none. -/
import Derived.Test.YtiebbbmibbkpcaaXWB
import Derived.Test.YtiebbbmibbkpcaaKe
import Derived.Test.YtiebbbmibbkpcaaRows
import Derived.Test.YtiebbbmibbkpcaaXLFnExactBeyond
namespace Go.Proofs.Ytiebbbmibbkpcaa.HFnExactBeyond
open Go.Proofs.YtiebbbmibbkpcaaC Go.Proofs.Ytiebbbmibbkpcaa Go.Proofs.YtiebbbmibbkpcaaWB
theorem lifted (os : Os) (started : os.Started) (H : Type) (enc : TypeId × Value → H) :
    ReturnsInHanded {} Try.checked os 3 .any (Rows.fnExactBeyondSpec.pre6 enc Try.prog Try.f3 Rows.fnExactBeyondRow.domain false) (Rows.fnExactBeyondSpec.post enc Try.prog Try.f3 Rows.fnExactBeyondRow.apart Rows.fnExactBeyondRow.fresh Rows.fnExactBeyondRow.handsOn Rows.fnExactBeyondRow.again) :=
  law_lifted (C := Try.checked) (s := Rows.fnExactBeyondSpec) (f := 3) (fn := Try.f3) (sg := k_FnExactBeyond.sg) (F := F_FnExactBeyond) (ys := ys_FnExactBeyond) (rt := 4) (by kernel_rfl) started (by kernel_rfl) Try.func3
    (ChangeSpec.witness6 (enc := enc) (C := Try.checked) false ⟨#[], #[.slice none 0 0, .slice none 0 0, .int .i64 0, .int .i64 0], []⟩ 8 (by kernel_rfl) (by kernel_rfl) (by kernel_rfl) (by kernel_rfl))
    rfl (fun ds h => by
      match ds, h with
      | [_, _, _, _], _ => rfl) (by kernel_rfl) (by kernel_rfl) (by kernel_rfl) (by kernel_rfl) rfl k_FnExactBeyond.ok (by kernel_rfl) true_FnExactBeyond

set_option maxHeartbeats 4000000 in
theorem holds : Rows.FnExactBeyondSaid :=
  OpenClaim.holds_of_wide 3 Try.f3 rfl rfl rfl rfl rfl rfl rfl ⟨rfl, rfl, rfl, rfl, rfl⟩ rfl rfl rfl rfl rfl (by as_aux_lemma => kernel_rfl) Try.func3 (by
      unfold joinedFacts
      simp only [Bool.and_eq_true]
      repeat' apply And.intro
      all_goals (as_aux_lemma => kernel_rfl))
    (of_decide_eq_true (by kernel_rfl)) (by unfold Func.isWrapper; first | (rw [if_pos (by decide +kernel)]; kernel_rfl) | (rw [if_neg (by decide +kernel)]; exact ⟨rfl, rfl⟩))
    (fun os started H enc _ => lifted os started H enc)

#print axioms holds
end Go.Proofs.Ytiebbbmibbkpcaa.HFnExactBeyond

/- The row of FnExactRenew. Conditions: none. -/
import Derived.Test.YtiebbbmibbkpcaaGreatXWR
import Derived.Test.YtiebbbmibbkpcaaGreatKe
import Derived.Test.YtiebbbmibbkpcaaGreatRows
import Derived.Test.YtiebbbmibbkpcaaGreatXLFnExactRenew
namespace Go.Proofs.YtiebbbmibbkpcaaGreat.HFnExactRenew
open Go.Proofs.YtiebbbmibbkpcaaGreatC Go.Proofs.YtiebbbmibbkpcaaGreat Go.Proofs.YtiebbbmibbkpcaaGreatWR
theorem lifted (os : Os) (started : os.Started) (H : Type) (enc : TypeId × Value → H) :
    ReturnsInHanded {} Tryz.checked os 5 .any (Rows.fnExactRenewSpec.pre6 enc Tryz.prog Tryz.f5 Rows.fnExactRenewRow.domain false) (Rows.fnExactRenewSpec.post enc Tryz.prog Tryz.f5 Rows.fnExactRenewRow.apart Rows.fnExactRenewRow.fresh Rows.fnExactRenewRow.handsOn Rows.fnExactRenewRow.again) :=
  aDt_ (C := Tryz.checked) (s := Rows.fnExactRenewSpec) (f := 5) (fn := Tryz.f5) (sg := k_FnExactRenew.sg) (F := ui_) (ys := adx_) (rt := 4) (by kernel_rfl) started (by kernel_rfl) Tryz.func5
    (ChangeSpec.witness6 (enc := enc) (C := Tryz.checked) false ⟨#[], #[.agg #[.int .i64 0, .int .i64 0, .int .i64 0, .slice none 0 0, .slice none 0 0, .slice none 0 0, .slice none 0 0]], []⟩ 8 (by kernel_rfl) (by kernel_rfl) (by kernel_rfl) (by kernel_rfl))
    rfl (fun ds h => by
      match ds, h with
      | [_], _ => rfl) (by kernel_rfl) (by kernel_rfl) (by kernel_rfl) (by kernel_rfl) rfl k_FnExactRenew.ok (by kernel_rfl) al3_

set_option maxHeartbeats 4000000 in
theorem holds : Rows.FnExactRenewSaid :=
  OpenClaim.holds_of_wide 5 Tryz.f5 rfl rfl rfl rfl rfl rfl rfl ⟨rfl, rfl, rfl, rfl, rfl⟩ rfl rfl rfl rfl rfl (by as_aux_lemma => kernel_rfl) Tryz.func5 (by
      unfold joinedFacts
      simp only [Bool.and_eq_true]
      repeat' apply And.intro
      all_goals (as_aux_lemma => kernel_rfl))
    (of_decide_eq_true (by kernel_rfl)) (by unfold Func.isWrapper; first | (rw [if_pos (by decide +kernel)]; kernel_rfl) | (rw [if_neg (by decide +kernel)]; exact ⟨rfl, rfl⟩))
    (fun os started H enc _ => lifted os started H enc)

#print axioms holds
end Go.Proofs.YtiebbbmibbkpcaaGreat.HFnExactRenew

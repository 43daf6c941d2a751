/- The row of FnExactRoutes. Conditions: none. -/
import Derived.Test.YtiebbbmibbkpcaaGreatXWR
import Derived.Test.YtiebbbmibbkpcaaGreatKe
import Derived.Test.YtiebbbmibbkpcaaGreatRows
import Derived.Test.YtiebbbmibbkpcaaGreatXLFnExactRoutes
namespace Go.Proofs.YtiebbbmibbkpcaaGreat.HFnExactRoutes
open Go.Proofs.YtiebbbmibbkpcaaGreatC Go.Proofs.YtiebbbmibbkpcaaGreat Go.Proofs.YtiebbbmibbkpcaaGreatWR
theorem lifted (os : Os) (started : os.Started) (H : Type) (enc : TypeId × Value → H) :
    ReturnsInHanded {} Tryz.checked os 4 .any (Rows.fnExactRoutesSpec.pre6 enc Tryz.prog Tryz.f4 Rows.fnExactRoutesRow.domain false) (Rows.fnExactRoutesSpec.post enc Tryz.prog Tryz.f4 Rows.fnExactRoutesRow.apart Rows.fnExactRoutesRow.fresh Rows.fnExactRoutesRow.handsOn Rows.fnExactRoutesRow.again) :=
  law_lifted (C := Tryz.checked) (s := Rows.fnExactRoutesSpec) (f := 4) (fn := Tryz.f4) (sg := k_FnExactRoutes.sg) (F := F_FnExactRoutes) (ys := ys_FnExactRoutes) (rt := 4) (by kernel_rfl) started (by kernel_rfl) Tryz.func4
    (ChangeSpec.witness6 (enc := enc) (C := Tryz.checked) false ⟨#[], #[.agg #[.int .i64 0, .int .i64 0, .int .i64 0, .slice none 0 0, .slice none 0 0, .slice none 0 0, .slice none 0 0, .slice none 0 0]], []⟩ 8 (by kernel_rfl) (by kernel_rfl) (by kernel_rfl) (by kernel_rfl))
    rfl (fun ds h => by
      match ds, h with
      | [_], _ => rfl) (by kernel_rfl) (by kernel_rfl) (by kernel_rfl) (by kernel_rfl) rfl k_FnExactRoutes.ok (by kernel_rfl) true_FnExactRoutes

set_option maxHeartbeats 4000000 in
theorem holds : Rows.FnExactRoutesSaid :=
  OpenClaim.holds_of_wide 4 Tryz.f4 rfl rfl rfl rfl rfl rfl rfl ⟨rfl, rfl, rfl, rfl, rfl⟩ rfl rfl rfl rfl rfl (by as_aux_lemma => kernel_rfl) Tryz.func4 (by
      unfold joinedFacts
      simp only [Bool.and_eq_true]
      repeat' apply And.intro
      all_goals (as_aux_lemma => kernel_rfl))
    (of_decide_eq_true (by kernel_rfl)) (by unfold Func.isWrapper; first | (rw [if_pos (by decide +kernel)]; kernel_rfl) | (rw [if_neg (by decide +kernel)]; exact ⟨rfl, rfl⟩))
    (fun os started H enc _ => lifted os started H enc)

#print axioms holds
end Go.Proofs.YtiebbbmibbkpcaaGreat.HFnExactRoutes

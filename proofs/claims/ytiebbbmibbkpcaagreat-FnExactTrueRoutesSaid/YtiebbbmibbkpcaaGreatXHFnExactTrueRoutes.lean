/- The row of FnExactTrueRoutes. Conditions: none. -/
import Derived.Test.YtiebbbmibbkpcaaGreatXWR
import Derived.Test.YtiebbbmibbkpcaaGreatKe
import Derived.Test.YtiebbbmibbkpcaaGreatRows
import Derived.Test.YtiebbbmibbkpcaaGreatXLFnExactTrueRoutes
namespace Go.Proofs.YtiebbbmibbkpcaaGreat.HFnExactTrueRoutes
open Go.Proofs.YtiebbbmibbkpcaaGreatC Go.Proofs.YtiebbbmibbkpcaaGreat Go.Proofs.YtiebbbmibbkpcaaGreatWR
theorem lifted (os : Os) (started : os.Started) (H : Type) (enc : TypeId × Value → H) :
    ReturnsInHanded {} Tryz.checked os 3 .any (Rows.fnExactTrueRoutesSpec.pre6 enc Tryz.prog Tryz.f3 Rows.fnExactTrueRoutesRow.domain false) (Rows.fnExactTrueRoutesSpec.post enc Tryz.prog Tryz.f3 Rows.fnExactTrueRoutesRow.apart Rows.fnExactTrueRoutesRow.fresh Rows.fnExactTrueRoutesRow.handsOn Rows.fnExactTrueRoutesRow.again) :=
  law_lifted (C := Tryz.checked) (s := Rows.fnExactTrueRoutesSpec) (f := 3) (fn := Tryz.f3) (sg := k_FnExactTrueRoutes.sg) (F := F_FnExactTrueRoutes) (ys := ys_FnExactTrueRoutes) (rt := 4) (by kernel_rfl) started (by kernel_rfl) Tryz.func3
    (ChangeSpec.witness6 (enc := enc) (C := Tryz.checked) false ⟨#[], #[.agg #[.int .i64 0, .slice none 0 0, .slice none 0 0], .slice none 0 0, .slice none 0 0, .int .i64 0], []⟩ 8 (by kernel_rfl) (by kernel_rfl) (by kernel_rfl) (by kernel_rfl))
    rfl (fun ds h => by
      match ds, h with
      | [_, _, _, _], _ => rfl) (by kernel_rfl) (by kernel_rfl) (by kernel_rfl) (by kernel_rfl) rfl k_FnExactTrueRoutes.ok (by kernel_rfl) true_FnExactTrueRoutes

set_option maxHeartbeats 4000000 in
theorem holds : Rows.FnExactTrueRoutesSaid :=
  OpenClaim.holds_of_wide 3 Tryz.f3 rfl rfl rfl rfl rfl rfl rfl ⟨rfl, rfl, rfl, rfl, rfl⟩ rfl rfl rfl rfl rfl (by as_aux_lemma => kernel_rfl) Tryz.func3 (by
      unfold joinedFacts
      simp only [Bool.and_eq_true]
      repeat' apply And.intro
      all_goals (as_aux_lemma => kernel_rfl))
    (of_decide_eq_true (by kernel_rfl)) (by unfold Func.isWrapper; first | (rw [if_pos (by decide +kernel)]; kernel_rfl) | (rw [if_neg (by decide +kernel)]; exact ⟨rfl, rfl⟩))
    (fun os started H enc _ => lifted os started H enc)

#print axioms holds
end Go.Proofs.YtiebbbmibbkpcaaGreat.HFnExactTrueRoutes

/- The row of FnExactSettled. Conditions: none. -/
import Derived.Test.YtiebbbmibbkpcaaGreatXWR
import Derived.Test.YtiebbbmibbkpcaaGreatKe
import Derived.Test.YtiebbbmibbkpcaaGreatRows
import Derived.Test.YtiebbbmibbkpcaaGreatXLFnExactSettled
namespace Go.Proofs.YtiebbbmibbkpcaaGreat.HFnExactSettled
open Go.Proofs.YtiebbbmibbkpcaaGreatC Go.Proofs.YtiebbbmibbkpcaaGreat Go.Proofs.YtiebbbmibbkpcaaGreatWR
theorem lifted (os : Os) (started : os.Started) (H : Type) (enc : TypeId × Value → H) :
    ReturnsInHanded {} Tryz.checked os 7 .any (Rows.fnExactSettledSpec.pre6 enc Tryz.prog Tryz.f7 Rows.fnExactSettledRow.domain false) (Rows.fnExactSettledSpec.post enc Tryz.prog Tryz.f7 Rows.fnExactSettledRow.apart Rows.fnExactSettledRow.fresh Rows.fnExactSettledRow.handsOn Rows.fnExactSettledRow.again) :=
  aJj_ (C := Tryz.checked) (s := Rows.fnExactSettledSpec) (f := 7) (fn := Tryz.f7) (sg := k_FnExactSettled.sg) (F := vq_) (ys := aaw_) (rt := 4) (by kernel_rfl) started (by kernel_rfl) Tryz.func7
    (ChangeSpec.witness6 (enc := enc) (C := Tryz.checked) false ⟨#[], #[.agg #[.int .i64 0, .slice none 0 0, .slice none 0 0, .slice none 0 0, .slice none 0 0, .slice none 0 0, .slice none 0 0, .slice none 0 0, .slice none 0 0, .int .i64 0]], []⟩ 8 (by kernel_rfl) (by kernel_rfl) (by kernel_rfl) (by kernel_rfl))
    rfl (fun ds h => by
      match ds, h with
      | [_], _ => rfl) (by kernel_rfl) (by kernel_rfl) (by kernel_rfl) (by kernel_rfl) rfl k_FnExactSettled.ok (by kernel_rfl) ajn_

set_option maxHeartbeats 4000000 in
theorem holds : Rows.FnExactSettledSaid :=
  OpenClaim.holds_of_wide 7 Tryz.f7 rfl rfl rfl rfl rfl rfl rfl ⟨rfl, rfl, rfl, rfl, rfl⟩ rfl rfl rfl rfl rfl (by as_aux_lemma => kernel_rfl) Tryz.func7 (by
      unfold joinedFacts
      simp only [Bool.and_eq_true]
      repeat' apply And.intro
      all_goals (as_aux_lemma => kernel_rfl))
    (of_decide_eq_true (by kernel_rfl)) (by unfold Func.isWrapper; first | (rw [if_pos (by decide +kernel)]; kernel_rfl) | (rw [if_neg (by decide +kernel)]; exact ⟨rfl, rfl⟩))
    (fun os started H enc _ => lifted os started H enc)

#print axioms holds
end Go.Proofs.YtiebbbmibbkpcaaGreat.HFnExactSettled

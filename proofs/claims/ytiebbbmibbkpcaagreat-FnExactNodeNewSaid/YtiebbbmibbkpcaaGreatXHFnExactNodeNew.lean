/- The row of FnExactNodeNew. Conditions: none. -/
import Derived.Test.YtiebbbmibbkpcaaGreatXWR
import Derived.Test.YtiebbbmibbkpcaaGreatKe
import Derived.Test.YtiebbbmibbkpcaaGreatRows
import Derived.Test.YtiebbbmibbkpcaaGreatXLFnExactNodeNew
namespace Go.Proofs.YtiebbbmibbkpcaaGreat.HFnExactNodeNew
open Go.Proofs.YtiebbbmibbkpcaaGreatC Go.Proofs.YtiebbbmibbkpcaaGreat Go.Proofs.YtiebbbmibbkpcaaGreatWR
theorem lifted (os : Os) (started : os.Started) (H : Type) (enc : TypeId × Value → H) :
    ReturnsInHanded {} Tryz.checked os 6 .any (Rows.fnExactNodeNewSpec.pre6 enc Tryz.prog Tryz.f6 Rows.fnExactNodeNewRow.domain false) (Rows.fnExactNodeNewSpec.post enc Tryz.prog Tryz.f6 Rows.fnExactNodeNewRow.apart Rows.fnExactNodeNewRow.fresh Rows.fnExactNodeNewRow.handsOn Rows.fnExactNodeNewRow.again) :=
  aGc_ (C := Tryz.checked) (s := Rows.fnExactNodeNewSpec) (f := 6) (fn := Tryz.f6) (sg := k_FnExactNodeNew.sg) (F := vw_) (ys := aay_) (rt := 4) (by kernel_rfl) started (by kernel_rfl) Tryz.func6
    (ChangeSpec.witness6 (enc := enc) (C := Tryz.checked) false ⟨#[], #[.agg #[.int .i64 0, .slice none 0 0, .slice none 0 0], .int .i64 0, .int .i64 0], []⟩ 8 (by kernel_rfl) (by kernel_rfl) (by kernel_rfl) (by kernel_rfl))
    rfl (fun ds h => by
      match ds, h with
      | [_, _, _], _ => rfl) (by kernel_rfl) (by kernel_rfl) (by kernel_rfl) (by kernel_rfl) rfl k_FnExactNodeNew.ok (by kernel_rfl) ajp_

set_option maxHeartbeats 4000000 in
theorem holds : Rows.FnExactNodeNewSaid :=
  OpenClaim.holds_of_wide 6 Tryz.f6 rfl rfl rfl rfl rfl rfl rfl ⟨rfl, rfl, rfl, rfl, rfl⟩ rfl rfl rfl rfl rfl (by as_aux_lemma => kernel_rfl) Tryz.func6 (by
      unfold joinedFacts
      simp only [Bool.and_eq_true]
      repeat' apply And.intro
      all_goals (as_aux_lemma => kernel_rfl))
    (of_decide_eq_true (by kernel_rfl)) (by unfold Func.isWrapper; first | (rw [if_pos (by decide +kernel)]; kernel_rfl) | (rw [if_neg (by decide +kernel)]; exact ⟨rfl, rfl⟩))
    (fun os started H enc _ => lifted os started H enc)

#print axioms holds
end Go.Proofs.YtiebbbmibbkpcaaGreat.HFnExactNodeNew

/- The row of FnExactIdeal. Conditions: none. -/
import Derived.Test.YtlofiplkmgmnfaaXWI
import Derived.Test.YtlofiplkmgmnfaaKe
import Derived.Test.YtlofiplkmgmnfaaRows
import Derived.Test.YtlofiplkmgmnfaaXLFnExactIdeal
namespace Go.Proofs.Ytlofiplkmgmnfaa.HFnExactIdeal
open Go.Proofs.YtlofiplkmgmnfaaC Go.Proofs.Ytlofiplkmgmnfaa Go.Proofs.YtlofiplkmgmnfaaWI
theorem lifted (os : Os) (started : os.Started) (H : Type) (enc : TypeId × Value → H) :
    ReturnsInHanded {} Try.checked os 6 .any (Rows.fnExactIdealSpec.pre6 enc Try.prog Try.f6 Rows.fnExactIdealRow.domain false) (Rows.fnExactIdealSpec.post enc Try.prog Try.f6 Rows.fnExactIdealRow.apart Rows.fnExactIdealRow.fresh Rows.fnExactIdealRow.handsOn Rows.fnExactIdealRow.again) :=
  law_lifted (C := Try.checked) (s := Rows.fnExactIdealSpec) (f := 6) (fn := Try.f6) (sg := k_FnExactIdeal.sg) (F := F_FnExactIdeal) (ys := ys_FnExactIdeal) (rt := 4) (by kernel_rfl) started (by kernel_rfl) Try.func6
    (ChangeSpec.witness6 (enc := enc) (C := Try.checked) false ⟨#[], #[.agg #[.int .i64 0, .slice none 0 0, .slice none 0 0], .slice none 0 0, .slice none 0 0], []⟩ 8 (by kernel_rfl) (by kernel_rfl) (by kernel_rfl) (by kernel_rfl))
    rfl (fun ds h => by
      match ds, h with
      | [_, _, _], _ => rfl) (by kernel_rfl) (by kernel_rfl) (by kernel_rfl) (by kernel_rfl) rfl k_FnExactIdeal.ok (by kernel_rfl) true_FnExactIdeal

set_option maxHeartbeats 4000000 in
theorem holds : Rows.FnExactIdealSaid :=
  OpenClaim.holds_of_wide 6 Try.f6 rfl rfl rfl rfl rfl rfl rfl ⟨rfl, rfl, rfl, rfl, rfl⟩ rfl rfl rfl rfl rfl (by as_aux_lemma => kernel_rfl) Try.func6 (by
      unfold joinedFacts
      simp only [Bool.and_eq_true]
      repeat' apply And.intro
      all_goals (as_aux_lemma => kernel_rfl))
    (of_decide_eq_true (by kernel_rfl)) (by unfold Func.isWrapper; first | (rw [if_pos (by decide +kernel)]; kernel_rfl) | (rw [if_neg (by decide +kernel)]; exact ⟨rfl, rfl⟩))
    (fun os started H enc _ => lifted os started H enc)

#print axioms holds
end Go.Proofs.Ytlofiplkmgmnfaa.HFnExactIdeal

/- The row of FnExactWaysIn. Conditions: none. -/
import Derived.Test.YtlofiplkmgmnfaaXWA
import Derived.Test.YtlofiplkmgmnfaaKe
import Derived.Test.YtlofiplkmgmnfaaRows
import Derived.Test.YtlofiplkmgmnfaaXLFnExactWaysIn
namespace Go.Proofs.Ytlofiplkmgmnfaa.HFnExactWaysIn
open Go.Proofs.YtlofiplkmgmnfaaC Go.Proofs.Ytlofiplkmgmnfaa Go.Proofs.YtlofiplkmgmnfaaWA
theorem lifted (os : Os) (started : os.Started) (H : Type) (enc : TypeId × Value → H) :
    ReturnsInHanded {} Try.checked os 3 .any (Rows.fnExactWaysInSpec.pre6 enc Try.prog Try.f3 Rows.fnExactWaysInRow.domain false) (Rows.fnExactWaysInSpec.post enc Try.prog Try.f3 Rows.fnExactWaysInRow.apart Rows.fnExactWaysInRow.fresh Rows.fnExactWaysInRow.handsOn Rows.fnExactWaysInRow.again) :=
  law_lifted (C := Try.checked) (s := Rows.fnExactWaysInSpec) (f := 3) (fn := Try.f3) (sg := k_FnExactWaysIn.sg) (F := F_FnExactWaysIn) (ys := ys_FnExactWaysIn) (rt := 4) (by kernel_rfl) started (by kernel_rfl) Try.func3
    (ChangeSpec.witness6 (enc := enc) (C := Try.checked) false ⟨#[], #[.slice none 0 0, .int .i64 0, .int .i64 0], []⟩ 8 (by kernel_rfl) (by kernel_rfl) (by kernel_rfl) (by kernel_rfl))
    rfl (fun ds h => by
      match ds, h with
      | [_, _, _], _ => rfl) (by kernel_rfl) (by kernel_rfl) (by kernel_rfl) (by kernel_rfl) rfl k_FnExactWaysIn.ok (by kernel_rfl) true_FnExactWaysIn

set_option maxHeartbeats 4000000 in
theorem holds : Rows.FnExactWaysInSaid :=
  OpenClaim.holds_of_wide 3 Try.f3 rfl rfl rfl rfl rfl rfl rfl ⟨rfl, rfl, rfl, rfl, rfl⟩ rfl rfl rfl rfl rfl (by as_aux_lemma => kernel_rfl) Try.func3 (by
      unfold joinedFacts
      simp only [Bool.and_eq_true]
      repeat' apply And.intro
      all_goals (as_aux_lemma => kernel_rfl))
    (of_decide_eq_true (by kernel_rfl)) (by unfold Func.isWrapper; first | (rw [if_pos (by decide +kernel)]; kernel_rfl) | (rw [if_neg (by decide +kernel)]; exact ⟨rfl, rfl⟩))
    (fun os started H enc _ => lifted os started H enc)

#print axioms holds
end Go.Proofs.Ytlofiplkmgmnfaa.HFnExactWaysIn

/- The row of FnLearns. Conditions: none. -/
import Derived.Test.YtlofiplkmgmnfaaXWB
import Derived.Test.YtlofiplkmgmnfaaKe
import Derived.Test.YtlofiplkmgmnfaaRows
import Derived.Test.YtlofiplkmgmnfaaXLFnLearns
namespace Go.Proofs.Ytlofiplkmgmnfaa.HFnLearns
open Go.Proofs.YtlofiplkmgmnfaaC Go.Proofs.Ytlofiplkmgmnfaa Go.Proofs.YtlofiplkmgmnfaaWB
theorem lifted (os : Os) (started : os.Started) (H : Type) (enc : TypeId × Value → H) :
    ReturnsInHanded {} Try.checked os 14 .any (Rows.fnLearnsSpec.pre6 enc Try.prog Try.f14 Rows.fnLearnsRow.domain false) (Rows.fnLearnsSpec.post enc Try.prog Try.f14 Rows.fnLearnsRow.apart Rows.fnLearnsRow.fresh Rows.fnLearnsRow.handsOn Rows.fnLearnsRow.again) :=
  law_lifted (C := Try.checked) (s := Rows.fnLearnsSpec) (f := 14) (fn := Try.f14) (sg := k_FnLearns.sg) (F := F_FnLearns) (ys := ys_FnLearns) (rt := 4) (by kernel_rfl) started (by kernel_rfl) Try.func14
    (ChangeSpec.witness6 (enc := enc) (C := Try.checked) false ⟨#[], #[.slice none 0 0], []⟩ 8 (by kernel_rfl) (by kernel_rfl) (by kernel_rfl) (by kernel_rfl))
    rfl (fun ds h => by
      match ds, h with
      | [_], _ => rfl) (by kernel_rfl) (by kernel_rfl) (by kernel_rfl) (by kernel_rfl) rfl k_FnLearns.ok (by kernel_rfl) true_FnLearns

set_option maxHeartbeats 4000000 in
theorem holds : Rows.FnLearnsSaid :=
  OpenClaim.holds_of_wide 14 Try.f14 rfl rfl rfl rfl rfl rfl rfl ⟨rfl, rfl, rfl, rfl, rfl⟩ rfl rfl rfl rfl rfl (by as_aux_lemma => kernel_rfl) Try.func14 (by
      unfold joinedFacts
      simp only [Bool.and_eq_true]
      repeat' apply And.intro
      all_goals (as_aux_lemma => kernel_rfl))
    (of_decide_eq_true (by kernel_rfl)) (by unfold Func.isWrapper; first | (rw [if_pos (by decide +kernel)]; kernel_rfl) | (rw [if_neg (by decide +kernel)]; exact ⟨rfl, rfl⟩))
    (fun os started H enc _ => lifted os started H enc)

#print axioms holds
end Go.Proofs.Ytlofiplkmgmnfaa.HFnLearns

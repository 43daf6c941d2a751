/- The row of FnOnePlace. Conditions: none. -/
import Derived.Test.YtlofiplkmgmnfaaXWB
import Derived.Test.YtlofiplkmgmnfaaKe
import Derived.Test.YtlofiplkmgmnfaaRows
import Derived.Test.YtlofiplkmgmnfaaXLFnOnePlace
namespace Go.Proofs.Ytlofiplkmgmnfaa.HFnOnePlace
open Go.Proofs.YtlofiplkmgmnfaaC Go.Proofs.Ytlofiplkmgmnfaa Go.Proofs.YtlofiplkmgmnfaaWB
theorem lifted (os : Os) (started : os.Started) (H : Type) (enc : TypeId × Value → H) :
    ReturnsInHanded {} Try.checked os 10 .any (Rows.fnOnePlaceSpec.pre6 enc Try.prog Try.f10 Rows.fnOnePlaceRow.domain false) (Rows.fnOnePlaceSpec.post enc Try.prog Try.f10 Rows.fnOnePlaceRow.apart Rows.fnOnePlaceRow.fresh Rows.fnOnePlaceRow.handsOn Rows.fnOnePlaceRow.again) :=
  law_lifted (C := Try.checked) (s := Rows.fnOnePlaceSpec) (f := 10) (fn := Try.f10) (sg := k_FnOnePlace.sg) (F := F_FnOnePlace) (ys := ys_FnOnePlace) (rt := 4) (by kernel_rfl) started (by kernel_rfl) Try.func10
    (ChangeSpec.witness6 (enc := enc) (C := Try.checked) false ⟨#[], #[.slice none 0 0], []⟩ 8 (by kernel_rfl) (by kernel_rfl) (by kernel_rfl) (by kernel_rfl))
    rfl (fun ds h => by
      match ds, h with
      | [_], _ => rfl) (by kernel_rfl) (by kernel_rfl) (by kernel_rfl) (by kernel_rfl) rfl k_FnOnePlace.ok (by kernel_rfl) true_FnOnePlace

set_option maxHeartbeats 4000000 in
theorem holds : Rows.FnOnePlaceSaid :=
  OpenClaim.holds_of_wide 10 Try.f10 rfl rfl rfl rfl rfl rfl rfl ⟨rfl, rfl, rfl, rfl, rfl⟩ rfl rfl rfl rfl rfl (by as_aux_lemma => kernel_rfl) Try.func10 (by
      unfold joinedFacts
      simp only [Bool.and_eq_true]
      repeat' apply And.intro
      all_goals (as_aux_lemma => kernel_rfl))
    (of_decide_eq_true (by kernel_rfl)) (by unfold Func.isWrapper; first | (rw [if_pos (by decide +kernel)]; kernel_rfl) | (rw [if_neg (by decide +kernel)]; exact ⟨rfl, rfl⟩))
    (fun os started H enc _ => lifted os started H enc)

#print axioms holds
end Go.Proofs.Ytlofiplkmgmnfaa.HFnOnePlace

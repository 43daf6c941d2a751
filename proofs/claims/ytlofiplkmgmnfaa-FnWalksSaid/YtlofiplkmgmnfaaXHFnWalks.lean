/- The row of FnWalks. Conditions: none. -/
import Derived.Test.YtlofiplkmgmnfaaXWB
import Derived.Test.YtlofiplkmgmnfaaKe
import Derived.Test.YtlofiplkmgmnfaaRows
import Derived.Test.YtlofiplkmgmnfaaXLFnWalks
namespace Go.Proofs.Ytlofiplkmgmnfaa.HFnWalks
open Go.Proofs.YtlofiplkmgmnfaaC Go.Proofs.Ytlofiplkmgmnfaa Go.Proofs.YtlofiplkmgmnfaaWB
theorem lifted (os : Os) (started : os.Started) (H : Type) (enc : TypeId × Value → H) :
    ReturnsInHanded {} Try.checked os 12 .any (Rows.fnWalksSpec.pre6 enc Try.prog Try.f12 Rows.fnWalksRow.domain false) (Rows.fnWalksSpec.post enc Try.prog Try.f12 Rows.fnWalksRow.apart Rows.fnWalksRow.fresh Rows.fnWalksRow.handsOn Rows.fnWalksRow.again) :=
  law_lifted (C := Try.checked) (s := Rows.fnWalksSpec) (f := 12) (fn := Try.f12) (sg := k_FnWalks.sg) (F := F_FnWalks) (ys := ys_FnWalks) (rt := 4) (by kernel_rfl) started (by kernel_rfl) Try.func12
    (ChangeSpec.witness6 (enc := enc) (C := Try.checked) false ⟨#[], #[.slice none 0 0], []⟩ 8 (by kernel_rfl) (by kernel_rfl) (by kernel_rfl) (by kernel_rfl))
    rfl (fun ds h => by
      match ds, h with
      | [_], _ => rfl) (by kernel_rfl) (by kernel_rfl) (by kernel_rfl) (by kernel_rfl) rfl k_FnWalks.ok (by kernel_rfl) true_FnWalks

set_option maxHeartbeats 4000000 in
theorem holds : Rows.FnWalksSaid :=
  OpenClaim.holds_of_wide 12 Try.f12 rfl rfl rfl rfl rfl rfl rfl ⟨rfl, rfl, rfl, rfl, rfl⟩ rfl rfl rfl rfl rfl (by as_aux_lemma => kernel_rfl) Try.func12 (by
      unfold joinedFacts
      simp only [Bool.and_eq_true]
      repeat' apply And.intro
      all_goals (as_aux_lemma => kernel_rfl))
    (of_decide_eq_true (by kernel_rfl)) (by unfold Func.isWrapper; first | (rw [if_pos (by decide +kernel)]; kernel_rfl) | (rw [if_neg (by decide +kernel)]; exact ⟨rfl, rfl⟩))
    (fun os started H enc _ => lifted os started H enc)

#print axioms holds
end Go.Proofs.Ytlofiplkmgmnfaa.HFnWalks

/- The row of FnBack. Conditions: none. -/
import Derived.Test.YtlofiplkmgmnfaaXWB
import Derived.Test.YtlofiplkmgmnfaaKe
import Derived.Test.YtlofiplkmgmnfaaRows
import Derived.Test.YtlofiplkmgmnfaaXLFnBack
namespace Go.Proofs.Ytlofiplkmgmnfaa.HFnBack
open Go.Proofs.YtlofiplkmgmnfaaC Go.Proofs.Ytlofiplkmgmnfaa Go.Proofs.YtlofiplkmgmnfaaWB
theorem lifted (os : Os) (started : os.Started) (H : Type) (enc : TypeId × Value → H) :
    ReturnsInHanded {} Try.checked os 8 .any (Rows.fnBackSpec.pre6 enc Try.prog Try.f8 Rows.fnBackRow.domain false) (Rows.fnBackSpec.post enc Try.prog Try.f8 Rows.fnBackRow.apart Rows.fnBackRow.fresh Rows.fnBackRow.handsOn Rows.fnBackRow.again) :=
  law_lifted (C := Try.checked) (s := Rows.fnBackSpec) (f := 8) (fn := Try.f8) (sg := k_FnBack.sg) (F := F_FnBack) (ys := ys_FnBack) (rt := 4) (by kernel_rfl) started (by kernel_rfl) Try.func8
    (ChangeSpec.witness6 (enc := enc) (C := Try.checked) false ⟨#[], #[.slice none 0 0], []⟩ 8 (by kernel_rfl) (by kernel_rfl) (by kernel_rfl) (by kernel_rfl))
    rfl (fun ds h => by
      match ds, h with
      | [_], _ => rfl) (by kernel_rfl) (by kernel_rfl) (by kernel_rfl) (by kernel_rfl) rfl k_FnBack.ok (by kernel_rfl) true_FnBack

set_option maxHeartbeats 4000000 in
theorem holds : Rows.FnBackSaid :=
  OpenClaim.holds_of_wide 8 Try.f8 rfl rfl rfl rfl rfl rfl rfl ⟨rfl, rfl, rfl, rfl, rfl⟩ rfl rfl rfl rfl rfl (by as_aux_lemma => kernel_rfl) Try.func8 (by
      unfold joinedFacts
      simp only [Bool.and_eq_true]
      repeat' apply And.intro
      all_goals (as_aux_lemma => kernel_rfl))
    (of_decide_eq_true (by kernel_rfl)) (by unfold Func.isWrapper; first | (rw [if_pos (by decide +kernel)]; kernel_rfl) | (rw [if_neg (by decide +kernel)]; exact ⟨rfl, rfl⟩))
    (fun os started H enc _ => lifted os started H enc)

#print axioms holds
end Go.Proofs.Ytlofiplkmgmnfaa.HFnBack

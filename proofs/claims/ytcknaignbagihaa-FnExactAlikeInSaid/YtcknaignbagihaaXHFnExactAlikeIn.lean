/- The row of FnExactAlikeIn. Conditions: none. -/
import Derived.Test.YtcknaignbagihaaXWB
import Derived.Test.YtcknaignbagihaaKd
import Derived.Test.YtcknaignbagihaaRows
import Derived.Test.YtcknaignbagihaaXLFnExactAlikeIn
namespace Go.Proofs.Ytcknaignbagihaa.HFnExactAlikeIn
open Go.Proofs.YtcknaignbagihaaC Go.Proofs.Ytcknaignbagihaa Go.Proofs.YtcknaignbagihaaWB
theorem lifted (os : Os) (started : os.Started) (H : Type) (enc : TypeId × Value → H) :
    ReturnsInHanded {} Try.checked os 8 .any (Rows.fnExactAlikeInSpec.pre6 enc Try.prog Try.f8 Rows.fnExactAlikeInRow.domain false) (Rows.fnExactAlikeInSpec.post enc Try.prog Try.f8 Rows.fnExactAlikeInRow.apart Rows.fnExactAlikeInRow.fresh Rows.fnExactAlikeInRow.handsOn Rows.fnExactAlikeInRow.again) :=
  law_lifted (C := Try.checked) (s := Rows.fnExactAlikeInSpec) (f := 8) (fn := Try.f8) (sg := s_FnExactAlikeIn) (F := F_FnExactAlikeIn) (ys := ys_FnExactAlikeIn) (rt := 4) (by kernel_rfl) started (by kernel_rfl) Try.func8
    (ChangeSpec.witness6 (enc := enc) (C := Try.checked) false ⟨#[], #[.agg #[.int .i64 0, .slice none 0 0, .slice none 0 0, .slice none 0 0, .slice none 0 0, .slice none 0 0, .slice none 0 0, .slice none 0 0, .slice none 0 0, .int .i64 0], .int .i64 0], []⟩ 8 (by kernel_rfl) (by kernel_rfl) (by kernel_rfl) (by kernel_rfl))
    rfl (fun ds h => by
      match ds, h with
      | [_, _], _ => rfl) (by kernel_rfl) (by kernel_rfl) (by kernel_rfl) (by kernel_rfl) rfl ok_FnExactAlikeIn (by kernel_rfl) true_FnExactAlikeIn

theorem holds : Rows.FnExactAlikeInSaid :=
  OpenClaim.holds_of_wide 8 Try.f8 rfl rfl rfl rfl rfl rfl rfl ⟨rfl, rfl, rfl, rfl, rfl⟩ rfl rfl rfl rfl rfl (by kernel_rfl) Try.func8 (by kernel_rfl)
    (of_decide_eq_true (by kernel_rfl)) (by unfold Func.isWrapper; first | (rw [if_pos (by decide +kernel)]; kernel_rfl) | (rw [if_neg (by decide +kernel)]; exact ⟨rfl, rfl⟩))
    (fun os started H enc _ => lifted os started H enc)

#print axioms holds
end Go.Proofs.Ytcknaignbagihaa.HFnExactAlikeIn

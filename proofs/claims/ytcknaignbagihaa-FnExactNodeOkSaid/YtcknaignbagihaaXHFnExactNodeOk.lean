/- The row of FnExactNodeOk. Conditions: none. -/
import Derived.Test.YtcknaignbagihaaXWB
import Derived.Test.YtcknaignbagihaaKd
import Derived.Test.YtcknaignbagihaaRows
import Derived.Test.YtcknaignbagihaaXLFnExactNodeOk
namespace Go.Proofs.Ytcknaignbagihaa.HFnExactNodeOk
open Go.Proofs.YtcknaignbagihaaC Go.Proofs.Ytcknaignbagihaa Go.Proofs.YtcknaignbagihaaWB
theorem lifted (os : Os) (started : os.Started) (H : Type) (enc : TypeId × Value → H) :
    ReturnsInHanded {} Try.checked os 6 .any (Rows.fnExactNodeOkSpec.pre6 enc Try.prog Try.f6 Rows.fnExactNodeOkRow.domain false) (Rows.fnExactNodeOkSpec.post enc Try.prog Try.f6 Rows.fnExactNodeOkRow.apart Rows.fnExactNodeOkRow.fresh Rows.fnExactNodeOkRow.handsOn Rows.fnExactNodeOkRow.again) :=
  law_lifted (C := Try.checked) (s := Rows.fnExactNodeOkSpec) (f := 6) (fn := Try.f6) (sg := s_FnExactNodeOk) (F := F_FnExactNodeOk) (ys := ys_FnExactNodeOk) (rt := 4) (by kernel_rfl) started (by kernel_rfl) Try.func6
    (ChangeSpec.witness6 (enc := enc) (C := Try.checked) false ⟨#[], #[.agg #[.int .i64 0, .int .i64 0, .int .i64 0, .slice none 0 0, .slice none 0 0, .slice none 0 0, .slice none 0 0, .slice none 0 0]], []⟩ 8 (by kernel_rfl) (by kernel_rfl) (by kernel_rfl) (by kernel_rfl))
    rfl (fun ds h => by
      match ds, h with
      | [_], _ => rfl) (by kernel_rfl) (by kernel_rfl) (by kernel_rfl) (by kernel_rfl) rfl ok_FnExactNodeOk (by kernel_rfl) true_FnExactNodeOk

theorem holds : Rows.FnExactNodeOkSaid :=
  OpenClaim.holds_of_wide 6 Try.f6 rfl rfl rfl rfl rfl rfl rfl ⟨rfl, rfl, rfl, rfl, rfl⟩ rfl rfl rfl rfl rfl (by kernel_rfl) Try.func6 (by kernel_rfl)
    (of_decide_eq_true (by kernel_rfl)) (by unfold Func.isWrapper; first | (rw [if_pos (by decide +kernel)]; kernel_rfl) | (rw [if_neg (by decide +kernel)]; exact ⟨rfl, rfl⟩))
    (fun os started H enc _ => lifted os started H enc)

#print axioms holds
end Go.Proofs.Ytcknaignbagihaa.HFnExactNodeOk

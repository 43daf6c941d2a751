/- The row of FnExactAllTrue. Conditions: none. -/
import Derived.Test.YtcknaignbagihaaXWB
import Derived.Test.YtcknaignbagihaaKd
import Derived.Test.YtcknaignbagihaaRows
import Derived.Test.YtcknaignbagihaaXLFnExactAllTrue
namespace Go.Proofs.Ytcknaignbagihaa.HFnExactAllTrue
open Go.Proofs.YtcknaignbagihaaC Go.Proofs.Ytcknaignbagihaa Go.Proofs.YtcknaignbagihaaWB
theorem lifted (os : Os) (started : os.Started) (H : Type) (enc : TypeId × Value → H) :
    ReturnsInHanded {} Try.checked os 5 .any (Rows.fnExactAllTrueSpec.pre6 enc Try.prog Try.f5 Rows.fnExactAllTrueRow.domain false) (Rows.fnExactAllTrueSpec.post enc Try.prog Try.f5 Rows.fnExactAllTrueRow.apart Rows.fnExactAllTrueRow.fresh Rows.fnExactAllTrueRow.handsOn Rows.fnExactAllTrueRow.again) :=
  law_lifted (C := Try.checked) (s := Rows.fnExactAllTrueSpec) (f := 5) (fn := Try.f5) (sg := s_FnExactAllTrue) (F := F_FnExactAllTrue) (ys := ys_FnExactAllTrue) (rt := 4) (by kernel_rfl) started (by kernel_rfl) Try.func5
    (ChangeSpec.witness6 (enc := enc) (C := Try.checked) false ⟨#[], #[.agg #[.int .i64 0, .slice none 0 0, .slice none 0 0, .slice none 0 0, .slice none 0 0, .slice none 0 0, .slice none 0 0, .slice none 0 0, .slice none 0 0, .int .i64 0]], []⟩ 8 (by kernel_rfl) (by kernel_rfl) (by kernel_rfl) (by kernel_rfl))
    rfl (fun ds h => by
      match ds, h with
      | [_], _ => rfl) (by kernel_rfl) (by kernel_rfl) (by kernel_rfl) (by kernel_rfl) rfl ok_FnExactAllTrue (by kernel_rfl) true_FnExactAllTrue

theorem holds : Rows.FnExactAllTrueSaid :=
  OpenClaim.holds_of_wide 5 Try.f5 rfl rfl rfl rfl rfl rfl rfl ⟨rfl, rfl, rfl, rfl, rfl⟩ rfl rfl rfl rfl rfl (by kernel_rfl) Try.func5 (by kernel_rfl)
    (of_decide_eq_true (by kernel_rfl)) (by unfold Func.isWrapper; first | (rw [if_pos (by decide +kernel)]; kernel_rfl) | (rw [if_neg (by decide +kernel)]; exact ⟨rfl, rfl⟩))
    (fun os started H enc _ => lifted os started H enc)

#print axioms holds
end Go.Proofs.Ytcknaignbagihaa.HFnExactAllTrue

/- The row of FnExactEventOk. Conditions: none. -/
import Derived.Test.YtmljdpfdpeiniaaXwA
import Derived.Test.YtmljdpfdpeiniaaKd
import Derived.Test.YtmljdpfdpeiniaaRows
import Derived.Test.YtmljdpfdpeiniaaXlFnExactEventOk
namespace Go.Proofs.Ytmljdpfdpeiniaa.HFnExactEventOk
open Go.Proofs.YtmljdpfdpeiniaaC Go.Proofs.Ytmljdpfdpeiniaa Go.Proofs.YtmljdpfdpeiniaaWA
theorem lifted (os : Os) (started : os.Started) (H : Type) (enc : TypeId × Value → H) :
    ReturnsInHanded {} Try.checked os 3 .any (Rows.fnExactEventOkSpec.pre6 enc Try.prog Try.f3 Rows.fnExactEventOkRow.domain false) (Rows.fnExactEventOkSpec.post enc Try.prog Try.f3 Rows.fnExactEventOkRow.apart Rows.fnExactEventOkRow.fresh Rows.fnExactEventOkRow.handsOn Rows.fnExactEventOkRow.again) :=
  law_lifted (C := Try.checked) (s := Rows.fnExactEventOkSpec) (f := 3) (fn := Try.f3) (sg := s_FnExactEventOk) (F := F_FnExactEventOk) (ys := ys_FnExactEventOk) (rt := 4) (by kernel_rfl) started (by kernel_rfl) Try.func3
    (ChangeSpec.witness6 (enc := enc) (C := Try.checked) false ⟨#[], #[.agg #[.int .i64 0, .slice none 0 0, .slice none 0 0], .agg #[.int .i64 0, .int .i64 0, .int .i64 0, .string (ByteArray.mk #[])]], []⟩ 8 (by kernel_rfl) (by kernel_rfl) (by kernel_rfl) (by kernel_rfl))
    rfl (fun ds h => by
      match ds, h with
      | [_, _], _ => rfl) (by kernel_rfl) (by kernel_rfl) (by kernel_rfl) (by kernel_rfl) rfl ok_FnExactEventOk (by kernel_rfl) true_FnExactEventOk

theorem holds : Rows.FnExactEventOkSaid :=
  OpenClaim.holds_of_wide 3 Try.f3 rfl rfl rfl rfl rfl rfl rfl ⟨rfl, rfl, rfl, rfl, rfl⟩ rfl rfl rfl rfl rfl (by kernel_rfl) Try.func3 (by kernel_rfl)
    (of_decide_eq_true (by kernel_rfl)) (by unfold Func.isWrapper; first | (rw [if_pos (by decide +kernel)]; kernel_rfl) | (rw [if_neg (by decide +kernel)]; exact ⟨rfl, rfl⟩))
    (fun os started H enc _ => lifted os started H enc)

#print axioms holds
end Go.Proofs.Ytmljdpfdpeiniaa.HFnExactEventOk

/- The row of FnExactTableOf. Conditions: none. -/
import Derived.Test.YtmljdpfdpeiniaaXwA
import Derived.Test.YtmljdpfdpeiniaaKd
import Derived.Test.YtmljdpfdpeiniaaRows
import Derived.Test.YtmljdpfdpeiniaaXlFnExactTableOf
namespace Go.Proofs.Ytmljdpfdpeiniaa.HFnExactTableOf
open Go.Proofs.YtmljdpfdpeiniaaC Go.Proofs.Ytmljdpfdpeiniaa Go.Proofs.YtmljdpfdpeiniaaWA
theorem lifted (os : Os) (started : os.Started) (H : Type) (enc : TypeId × Value → H) :
    ReturnsInHanded {} Try.checked os 6 .any (Rows.fnExactTableOfSpec.pre6 enc Try.prog Try.f6 Rows.fnExactTableOfRow.domain false) (Rows.fnExactTableOfSpec.post enc Try.prog Try.f6 Rows.fnExactTableOfRow.apart Rows.fnExactTableOfRow.fresh Rows.fnExactTableOfRow.handsOn Rows.fnExactTableOfRow.again) :=
  law_lifted (C := Try.checked) (s := Rows.fnExactTableOfSpec) (f := 6) (fn := Try.f6) (sg := s_FnExactTableOf) (F := F_FnExactTableOf) (ys := ys_FnExactTableOf) (rt := 4) (by kernel_rfl) started (by kernel_rfl) Try.func6
    (ChangeSpec.witness6 (enc := enc) (C := Try.checked) false ⟨#[], #[.slice none 0 0], []⟩ 8 (by kernel_rfl) (by kernel_rfl) (by kernel_rfl) (by kernel_rfl))
    rfl (fun ds h => by
      match ds, h with
      | [_], _ => rfl) (by kernel_rfl) (by kernel_rfl) (by kernel_rfl) (by kernel_rfl) rfl ok_FnExactTableOf (by kernel_rfl) true_FnExactTableOf

theorem holds : Rows.FnExactTableOfSaid :=
  OpenClaim.holds_of_wide 6 Try.f6 rfl rfl rfl rfl rfl rfl rfl ⟨rfl, rfl, rfl, rfl, rfl⟩ rfl rfl rfl rfl rfl (by kernel_rfl) Try.func6 (by kernel_rfl)
    (of_decide_eq_true (by kernel_rfl)) (by unfold Func.isWrapper; first | (rw [if_pos (by decide +kernel)]; kernel_rfl) | (rw [if_neg (by decide +kernel)]; exact ⟨rfl, rfl⟩))
    (fun os started H enc _ => lifted os started H enc)

#print axioms holds
end Go.Proofs.Ytmljdpfdpeiniaa.HFnExactTableOf

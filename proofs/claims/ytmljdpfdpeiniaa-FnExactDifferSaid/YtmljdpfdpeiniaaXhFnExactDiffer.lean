/- The row of FnExactDiffer. Conditions: none. -/
import Derived.Test.YtmljdpfdpeiniaaXwA
import Derived.Test.YtmljdpfdpeiniaaKd
import Derived.Test.YtmljdpfdpeiniaaRows
import Derived.Test.YtmljdpfdpeiniaaXlFnExactDiffer
namespace Go.Proofs.Ytmljdpfdpeiniaa.HFnExactDiffer
open Go.Proofs.YtmljdpfdpeiniaaC Go.Proofs.Ytmljdpfdpeiniaa Go.Proofs.YtmljdpfdpeiniaaWA
theorem lifted (os : Os) (started : os.Started) (H : Type) (enc : TypeId × Value → H) :
    ReturnsInHanded {} Try.checked os 7 .any (Rows.fnExactDifferSpec.pre6 enc Try.prog Try.f7 Rows.fnExactDifferRow.domain false) (Rows.fnExactDifferSpec.post enc Try.prog Try.f7 Rows.fnExactDifferRow.apart Rows.fnExactDifferRow.fresh Rows.fnExactDifferRow.handsOn Rows.fnExactDifferRow.again) :=
  law_lifted (C := Try.checked) (s := Rows.fnExactDifferSpec) (f := 7) (fn := Try.f7) (sg := s_FnExactDiffer) (F := F_FnExactDiffer) (ys := ys_FnExactDiffer) (rt := 4) (by kernel_rfl) started (by kernel_rfl) Try.func7
    (ChangeSpec.witness6 (enc := enc) (C := Try.checked) false ⟨#[], #[.slice none 0 0, .slice none 0 0], []⟩ 8 (by kernel_rfl) (by kernel_rfl) (by kernel_rfl) (by kernel_rfl))
    rfl (fun ds h => by
      match ds, h with
      | [_, _], _ => rfl) (by kernel_rfl) (by kernel_rfl) (by kernel_rfl) (by kernel_rfl) rfl ok_FnExactDiffer (by kernel_rfl) true_FnExactDiffer

theorem holds : Rows.FnExactDifferSaid :=
  OpenClaim.holds_of_wide 7 Try.f7 rfl rfl rfl rfl rfl rfl rfl ⟨rfl, rfl, rfl, rfl, rfl⟩ rfl rfl rfl rfl rfl (by kernel_rfl) Try.func7 (by kernel_rfl)
    (of_decide_eq_true (by kernel_rfl)) (by unfold Func.isWrapper; first | (rw [if_pos (by decide +kernel)]; kernel_rfl) | (rw [if_neg (by decide +kernel)]; exact ⟨rfl, rfl⟩))
    (fun os started H enc _ => lifted os started H enc)

#print axioms holds
end Go.Proofs.Ytmljdpfdpeiniaa.HFnExactDiffer

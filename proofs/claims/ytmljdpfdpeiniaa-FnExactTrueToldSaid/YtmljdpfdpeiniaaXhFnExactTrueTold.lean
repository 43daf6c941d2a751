/- The row of FnExactTrueTold. Conditions: none. -/
import Derived.Test.YtmljdpfdpeiniaaXwA
import Derived.Test.YtmljdpfdpeiniaaKd
import Derived.Test.YtmljdpfdpeiniaaRows
import Derived.Test.YtmljdpfdpeiniaaXlFnExactTrueTold
namespace Go.Proofs.Ytmljdpfdpeiniaa.HFnExactTrueTold
open Go.Proofs.YtmljdpfdpeiniaaC Go.Proofs.Ytmljdpfdpeiniaa Go.Proofs.YtmljdpfdpeiniaaWA
theorem lifted (os : Os) (started : os.Started) (H : Type) (enc : TypeId × Value → H) :
    ReturnsInHanded {} Try.checked os 4 .any (Rows.fnExactTrueToldSpec.pre6 enc Try.prog Try.f4 Rows.fnExactTrueToldRow.domain false) (Rows.fnExactTrueToldSpec.post enc Try.prog Try.f4 Rows.fnExactTrueToldRow.apart Rows.fnExactTrueToldRow.fresh Rows.fnExactTrueToldRow.handsOn Rows.fnExactTrueToldRow.again) :=
  law_lifted (C := Try.checked) (s := Rows.fnExactTrueToldSpec) (f := 4) (fn := Try.f4) (sg := s_FnExactTrueTold) (F := F_FnExactTrueTold) (ys := ys_FnExactTrueTold) (rt := 4) (by kernel_rfl) started (by kernel_rfl) Try.func4
    (ChangeSpec.witness6 (enc := enc) (C := Try.checked) false ⟨#[], #[.slice none 0 0, .slice none 0 0], []⟩ 8 (by kernel_rfl) (by kernel_rfl) (by kernel_rfl) (by kernel_rfl))
    rfl (fun ds h => by
      match ds, h with
      | [_, _], _ => rfl) (by kernel_rfl) (by kernel_rfl) (by kernel_rfl) (by kernel_rfl) rfl ok_FnExactTrueTold (by kernel_rfl) true_FnExactTrueTold

theorem holds : Rows.FnExactTrueToldSaid :=
  OpenClaim.holds_of_wide 4 Try.f4 rfl rfl rfl rfl rfl rfl rfl ⟨rfl, rfl, rfl, rfl, rfl⟩ rfl rfl rfl rfl rfl (by kernel_rfl) Try.func4 (by kernel_rfl)
    (of_decide_eq_true (by kernel_rfl)) (by unfold Func.isWrapper; first | (rw [if_pos (by decide +kernel)]; kernel_rfl) | (rw [if_neg (by decide +kernel)]; exact ⟨rfl, rfl⟩))
    (fun os started H enc _ => lifted os started H enc)

#print axioms holds
end Go.Proofs.Ytmljdpfdpeiniaa.HFnExactTrueTold

/- The row of FnExactWalk. Conditions: none. -/
import Derived.Test.YtmljdpfdpeiniaaXwA
import Derived.Test.YtmljdpfdpeiniaaKd
import Derived.Test.YtmljdpfdpeiniaaRows
import Derived.Test.YtmljdpfdpeiniaaXlFnExactWalk
namespace Go.Proofs.Ytmljdpfdpeiniaa.HFnExactWalk
open Go.Proofs.YtmljdpfdpeiniaaC Go.Proofs.Ytmljdpfdpeiniaa Go.Proofs.YtmljdpfdpeiniaaWA
theorem lifted (os : Os) (started : os.Started) (H : Type) (enc : TypeId × Value → H) :
    ReturnsInHanded {} Try.checked os 5 .any (Rows.fnExactWalkSpec.pre6 enc Try.prog Try.f5 Rows.fnExactWalkRow.domain false) (Rows.fnExactWalkSpec.post enc Try.prog Try.f5 Rows.fnExactWalkRow.apart Rows.fnExactWalkRow.fresh Rows.fnExactWalkRow.handsOn Rows.fnExactWalkRow.again) :=
  law_lifted (C := Try.checked) (s := Rows.fnExactWalkSpec) (f := 5) (fn := Try.f5) (sg := s_FnExactWalk) (F := F_FnExactWalk) (ys := ys_FnExactWalk) (rt := 4) (by kernel_rfl) started (by kernel_rfl) Try.func5
    (ChangeSpec.witness6 (enc := enc) (C := Try.checked) false ⟨#[], #[.slice none 0 0, .int .i64 0, .int .i64 0, .slice none 0 0], []⟩ 8 (by kernel_rfl) (by kernel_rfl) (by kernel_rfl) (by kernel_rfl))
    rfl (fun ds h => by
      match ds, h with
      | [_, _, _, _], _ => rfl) (by kernel_rfl) (by kernel_rfl) (by kernel_rfl) (by kernel_rfl) rfl ok_FnExactWalk (by kernel_rfl) true_FnExactWalk

theorem holds : Rows.FnExactWalkSaid :=
  OpenClaim.holds_of_wide 5 Try.f5 rfl rfl rfl rfl rfl rfl rfl ⟨rfl, rfl, rfl, rfl, rfl⟩ rfl rfl rfl rfl rfl (by kernel_rfl) Try.func5 (by kernel_rfl)
    (of_decide_eq_true (by kernel_rfl)) (by unfold Func.isWrapper; first | (rw [if_pos (by decide +kernel)]; kernel_rfl) | (rw [if_neg (by decide +kernel)]; exact ⟨rfl, rfl⟩))
    (fun os started H enc _ => lifted os started H enc)

#print axioms holds
end Go.Proofs.Ytmljdpfdpeiniaa.HFnExactWalk

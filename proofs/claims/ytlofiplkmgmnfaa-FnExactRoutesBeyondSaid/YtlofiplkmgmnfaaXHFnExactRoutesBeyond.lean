/- The row of FnExactRoutesBeyond. Conditions: none. -/
import Derived.Test.YtlofiplkmgmnfaaXWA
import Derived.Test.YtlofiplkmgmnfaaKe
import Derived.Test.YtlofiplkmgmnfaaRows
import Derived.Test.YtlofiplkmgmnfaaXLFnExactRoutesBeyond
namespace Go.Proofs.Ytlofiplkmgmnfaa.HFnExactRoutesBeyond
open Go.Proofs.YtlofiplkmgmnfaaC Go.Proofs.Ytlofiplkmgmnfaa Go.Proofs.YtlofiplkmgmnfaaWA
theorem lifted (os : Os) (started : os.Started) (H : Type) (enc : TypeId × Value → H) :
    ReturnsInHanded {} Try.checked os 5 .any (Rows.fnExactRoutesBeyondSpec.pre6 enc Try.prog Try.f5 Rows.fnExactRoutesBeyondRow.domain false) (Rows.fnExactRoutesBeyondSpec.post enc Try.prog Try.f5 Rows.fnExactRoutesBeyondRow.apart Rows.fnExactRoutesBeyondRow.fresh Rows.fnExactRoutesBeyondRow.handsOn Rows.fnExactRoutesBeyondRow.again) :=
  law_lifted (C := Try.checked) (s := Rows.fnExactRoutesBeyondSpec) (f := 5) (fn := Try.f5) (sg := k_FnExactRoutesBeyond.sg) (F := F_FnExactRoutesBeyond) (ys := ys_FnExactRoutesBeyond) (rt := 4) (by kernel_rfl) started (by kernel_rfl) Try.func5
    (ChangeSpec.witness6 (enc := enc) (C := Try.checked) false ⟨#[], #[.slice none 0 0, .slice none 0 0, .bool false, .int .i64 0], []⟩ 8 (by kernel_rfl) (by kernel_rfl) (by kernel_rfl) (by kernel_rfl))
    rfl (fun ds h => by
      match ds, h with
      | [_, _, _, _], _ => rfl) (by kernel_rfl) (by kernel_rfl) (by kernel_rfl) (by kernel_rfl) rfl k_FnExactRoutesBeyond.ok (by kernel_rfl) true_FnExactRoutesBeyond

set_option maxHeartbeats 4000000 in
theorem holds : Rows.FnExactRoutesBeyondSaid :=
  OpenClaim.holds_of_wide 5 Try.f5 rfl rfl rfl rfl rfl rfl rfl ⟨rfl, rfl, rfl, rfl, rfl⟩ rfl rfl rfl rfl rfl (by as_aux_lemma => kernel_rfl) Try.func5 (by
      unfold joinedFacts
      simp only [Bool.and_eq_true]
      repeat' apply And.intro
      all_goals (as_aux_lemma => kernel_rfl))
    (of_decide_eq_true (by kernel_rfl)) (by unfold Func.isWrapper; first | (rw [if_pos (by decide +kernel)]; kernel_rfl) | (rw [if_neg (by decide +kernel)]; exact ⟨rfl, rfl⟩))
    (fun os started H enc _ => lifted os started H enc)

#print axioms holds
end Go.Proofs.Ytlofiplkmgmnfaa.HFnExactRoutesBeyond

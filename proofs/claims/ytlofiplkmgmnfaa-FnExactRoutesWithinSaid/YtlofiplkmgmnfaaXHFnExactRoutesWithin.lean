/- The row of FnExactRoutesWithin. Conditions: none. -/
import Derived.Test.YtlofiplkmgmnfaaXWA
import Derived.Test.YtlofiplkmgmnfaaKe
import Derived.Test.YtlofiplkmgmnfaaRows
import Derived.Test.YtlofiplkmgmnfaaXLFnExactRoutesWithin
namespace Go.Proofs.Ytlofiplkmgmnfaa.HFnExactRoutesWithin
open Go.Proofs.YtlofiplkmgmnfaaC Go.Proofs.Ytlofiplkmgmnfaa Go.Proofs.YtlofiplkmgmnfaaWA
theorem lifted (os : Os) (started : os.Started) (H : Type) (enc : TypeId × Value → H) :
    ReturnsInHanded {} Try.checked os 4 .any (Rows.fnExactRoutesWithinSpec.pre6 enc Try.prog Try.f4 Rows.fnExactRoutesWithinRow.domain false) (Rows.fnExactRoutesWithinSpec.post enc Try.prog Try.f4 Rows.fnExactRoutesWithinRow.apart Rows.fnExactRoutesWithinRow.fresh Rows.fnExactRoutesWithinRow.handsOn Rows.fnExactRoutesWithinRow.again) :=
  law_lifted (C := Try.checked) (s := Rows.fnExactRoutesWithinSpec) (f := 4) (fn := Try.f4) (sg := k_FnExactRoutesWithin.sg) (F := F_FnExactRoutesWithin) (ys := ys_FnExactRoutesWithin) (rt := 4) (by kernel_rfl) started (by kernel_rfl) Try.func4
    (ChangeSpec.witness6 (enc := enc) (C := Try.checked) false ⟨#[], #[.slice none 0 0, .slice none 0 0, .int .i64 0], []⟩ 8 (by kernel_rfl) (by kernel_rfl) (by kernel_rfl) (by kernel_rfl))
    rfl (fun ds h => by
      match ds, h with
      | [_, _, _], _ => rfl) (by kernel_rfl) (by kernel_rfl) (by kernel_rfl) (by kernel_rfl) rfl k_FnExactRoutesWithin.ok (by kernel_rfl) true_FnExactRoutesWithin

set_option maxHeartbeats 4000000 in
theorem holds : Rows.FnExactRoutesWithinSaid :=
  OpenClaim.holds_of_wide 4 Try.f4 rfl rfl rfl rfl rfl rfl rfl ⟨rfl, rfl, rfl, rfl, rfl⟩ rfl rfl rfl rfl rfl (by as_aux_lemma => kernel_rfl) Try.func4 (by
      unfold joinedFacts
      simp only [Bool.and_eq_true]
      repeat' apply And.intro
      all_goals (as_aux_lemma => kernel_rfl))
    (of_decide_eq_true (by kernel_rfl)) (by unfold Func.isWrapper; first | (rw [if_pos (by decide +kernel)]; kernel_rfl) | (rw [if_neg (by decide +kernel)]; exact ⟨rfl, rfl⟩))
    (fun os started H enc _ => lifted os started H enc)

#print axioms holds
end Go.Proofs.Ytlofiplkmgmnfaa.HFnExactRoutesWithin

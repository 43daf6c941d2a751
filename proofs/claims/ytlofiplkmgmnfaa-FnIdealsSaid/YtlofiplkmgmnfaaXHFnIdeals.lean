/- The row of FnIdeals. Conditions: none. -/
import Derived.Test.YtlofiplkmgmnfaaXWB
import Derived.Test.YtlofiplkmgmnfaaKe
import Derived.Test.YtlofiplkmgmnfaaRows
import Derived.Test.YtlofiplkmgmnfaaXLFnIdeals
namespace Go.Proofs.Ytlofiplkmgmnfaa.HFnIdeals
open Go.Proofs.YtlofiplkmgmnfaaC Go.Proofs.Ytlofiplkmgmnfaa Go.Proofs.YtlofiplkmgmnfaaWB
theorem lifted (os : Os) (started : os.Started) (H : Type) (enc : TypeId × Value → H) :
    ReturnsInHanded {} Try.checked os 11 .any (Rows.fnIdealsSpec.pre6 enc Try.prog Try.f11 Rows.fnIdealsRow.domain false) (Rows.fnIdealsSpec.post enc Try.prog Try.f11 Rows.fnIdealsRow.apart Rows.fnIdealsRow.fresh Rows.fnIdealsRow.handsOn Rows.fnIdealsRow.again) :=
  law_lifted (C := Try.checked) (s := Rows.fnIdealsSpec) (f := 11) (fn := Try.f11) (sg := k_FnIdeals.sg) (F := F_FnIdeals) (ys := ys_FnIdeals) (rt := 4) (by kernel_rfl) started (by kernel_rfl) Try.func11
    (ChangeSpec.witness6 (enc := enc) (C := Try.checked) false ⟨#[], #[.slice none 0 0], []⟩ 8 (by kernel_rfl) (by kernel_rfl) (by kernel_rfl) (by kernel_rfl))
    rfl (fun ds h => by
      match ds, h with
      | [_], _ => rfl) (by kernel_rfl) (by kernel_rfl) (by kernel_rfl) (by kernel_rfl) rfl k_FnIdeals.ok (by kernel_rfl) true_FnIdeals

set_option maxHeartbeats 4000000 in
theorem holds : Rows.FnIdealsSaid :=
  OpenClaim.holds_of_wide 11 Try.f11 rfl rfl rfl rfl rfl rfl rfl ⟨rfl, rfl, rfl, rfl, rfl⟩ rfl rfl rfl rfl rfl (by as_aux_lemma => kernel_rfl) Try.func11 (by
      unfold joinedFacts
      simp only [Bool.and_eq_true]
      repeat' apply And.intro
      all_goals (as_aux_lemma => kernel_rfl))
    (of_decide_eq_true (by kernel_rfl)) (by unfold Func.isWrapper; first | (rw [if_pos (by decide +kernel)]; kernel_rfl) | (rw [if_neg (by decide +kernel)]; exact ⟨rfl, rfl⟩))
    (fun os started H enc _ => lifted os started H enc)

#print axioms holds
end Go.Proofs.Ytlofiplkmgmnfaa.HFnIdeals

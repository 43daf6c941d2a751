/- The row of FnTalks. Conditions: none. -/
import Derived.Test.YtjimmglpkndemaaXWT
import Derived.Test.YtjimmglpkndemaaKe
import Derived.Test.YtjimmglpkndemaaRows
import Derived.Test.YtjimmglpkndemaaXLFnTalks
namespace Go.Proofs.Ytjimmglpkndemaa.HFnTalks
open Go.Proofs.YtjimmglpkndemaaC Go.Proofs.Ytjimmglpkndemaa Go.Proofs.YtjimmglpkndemaaWT
theorem lifted (os : Os) (started : os.Started) (H : Type) (enc : TypeId × Value → H) :
    ReturnsInHanded {} Try.checked os 3 .any (Rows.fnTalksSpec.pre6 enc Try.prog Try.f3 Rows.fnTalksRow.domain false) (Rows.fnTalksSpec.post enc Try.prog Try.f3 Rows.fnTalksRow.apart Rows.fnTalksRow.fresh Rows.fnTalksRow.handsOn Rows.fnTalksRow.again) :=
  law_lifted (C := Try.checked) (s := Rows.fnTalksSpec) (f := 3) (fn := Try.f3) (sg := k_FnTalks.sg) (F := F_FnTalks) (ys := ys_FnTalks) (rt := 4) (by kernel_rfl) started (by kernel_rfl) Try.func3
    (ChangeSpec.witness6 (enc := enc) (C := Try.checked) false ⟨#[], #[.slice none 0 0], []⟩ 8 (by kernel_rfl) (by kernel_rfl) (by kernel_rfl) (by kernel_rfl))
    rfl (fun ds h => by
      match ds, h with
      | [_], _ => rfl) (by kernel_rfl) (by kernel_rfl) (by kernel_rfl) (by kernel_rfl) rfl k_FnTalks.ok (by kernel_rfl) true_FnTalks

set_option maxHeartbeats 4000000 in
theorem holds : Rows.FnTalksSaid :=
  OpenClaim.holds_of_wide 3 Try.f3 rfl rfl rfl rfl rfl rfl rfl ⟨rfl, rfl, rfl, rfl, rfl⟩ rfl rfl rfl rfl rfl (by as_aux_lemma => kernel_rfl) Try.func3 (by
      unfold joinedFacts
      simp only [Bool.and_eq_true]
      repeat' apply And.intro
      all_goals (as_aux_lemma => kernel_rfl))
    (of_decide_eq_true (by kernel_rfl)) (by unfold Func.isWrapper; first | (rw [if_pos (by decide +kernel)]; kernel_rfl) | (rw [if_neg (by decide +kernel)]; exact ⟨rfl, rfl⟩))
    (fun os started H enc _ => lifted os started H enc)

#print axioms holds
end Go.Proofs.Ytjimmglpkndemaa.HFnTalks

/- The row of FnRenews. Conditions: none. -/
import Derived.Test.YtjimmglpkndemaaGreatXWN
import Derived.Test.YtjimmglpkndemaaGreatKe
import Derived.Test.YtjimmglpkndemaaGreatRows
import Derived.Test.YtjimmglpkndemaaGreatXLFnRenews
namespace Go.Proofs.YtjimmglpkndemaaGreat.HFnRenews
open Go.Proofs.YtjimmglpkndemaaGreatC Go.Proofs.YtjimmglpkndemaaGreat Go.Proofs.YtjimmglpkndemaaGreatWN
theorem lifted (os : Os) (started : os.Started) (H : Type) (enc : TypeId × Value → H) :
    ReturnsInHanded {} Tryz.checked os 3 .any (Rows.fnRenewsSpec.pre6 enc Tryz.prog Tryz.f3 Rows.fnRenewsRow.domain false) (Rows.fnRenewsSpec.post enc Tryz.prog Tryz.f3 Rows.fnRenewsRow.apart Rows.fnRenewsRow.fresh Rows.fnRenewsRow.handsOn Rows.fnRenewsRow.again) :=
  aEw_ (C := Tryz.checked) (s := Rows.fnRenewsSpec) (f := 3) (fn := Tryz.f3) (sg := k_FnRenews.sg) (F := aaq_) (ys := alf_) (rt := 4) (by kernel_rfl) started (by kernel_rfl) Tryz.func3
    (ChangeSpec.witness6 (enc := enc) (C := Tryz.checked) false ⟨#[], #[.slice none 0 0], []⟩ 8 (by kernel_rfl) (by kernel_rfl) (by kernel_rfl) (by kernel_rfl))
    rfl (fun ds h => by
      match ds, h with
      | [_], _ => rfl) (by kernel_rfl) (by kernel_rfl) (by kernel_rfl) (by kernel_rfl) rfl k_FnRenews.ok (by kernel_rfl) asg_

set_option maxHeartbeats 4000000 in
theorem holds : Rows.FnRenewsSaid :=
  OpenClaim.holds_of_wide 3 Tryz.f3 rfl rfl rfl rfl rfl rfl rfl ⟨rfl, rfl, rfl, rfl, rfl⟩ rfl rfl rfl rfl rfl (by as_aux_lemma => kernel_rfl) Tryz.func3 (by
      unfold joinedFacts
      simp only [Bool.and_eq_true]
      repeat' apply And.intro
      all_goals (as_aux_lemma => kernel_rfl))
    (of_decide_eq_true (by kernel_rfl)) (by unfold Func.isWrapper; first | (rw [if_pos (by decide +kernel)]; kernel_rfl) | (rw [if_neg (by decide +kernel)]; exact ⟨rfl, rfl⟩))
    (fun os started H enc _ => lifted os started H enc)

#print axioms holds
end Go.Proofs.YtjimmglpkndemaaGreat.HFnRenews

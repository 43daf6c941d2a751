/- The row of FnEars. Conditions: none. -/
import Derived.Test.YtjimmglpkndemaaGreatXWE
import Derived.Test.YtjimmglpkndemaaGreatKe
import Derived.Test.YtjimmglpkndemaaGreatRows
import Derived.Test.YtjimmglpkndemaaGreatXSHd
namespace Go.Proofs.YtjimmglpkndemaaGreat.HFnEars
open Go.Proofs.YtjimmglpkndemaaGreatC Go.Proofs.YtjimmglpkndemaaGreat Go.Proofs.YtjimmglpkndemaaGreatWE
theorem lifted (os : Os) (started : os.Started) (H : Type) (enc : TypeId × Value → H) :
    ReturnsInHanded {} Tryz.checked os 4 .any (Rows.fnEarsSpec.pre6 enc Tryz.prog Tryz.f4 Rows.fnEarsRow.domain false) (Rows.fnEarsSpec.post enc Tryz.prog Tryz.f4 Rows.fnEarsRow.apart Rows.fnEarsRow.fresh Rows.fnEarsRow.handsOn Rows.fnEarsRow.again) :=
  aen (C := Tryz.checked) (s := Rows.fnEarsSpec) (f := 4) (fn := Tryz.f4) (sg := we.sg) (F := G7) (ys := ZQ) (rt := 4) (by kernel_rfl) started (by kernel_rfl) Tryz.func4
    (ChangeSpec.witness6 (enc := enc) (C := Tryz.checked) false ⟨#[], #[.slice none 0 0], []⟩ 8 (by kernel_rfl) (by kernel_rfl) (by kernel_rfl) (by kernel_rfl))
    rfl (fun ds h => by
      match ds, h with
      | [_], _ => rfl) (by kernel_rfl) (by kernel_rfl) (by kernel_rfl) (by kernel_rfl) rfl we.ok (by kernel_rfl) arm

set_option maxHeartbeats 4000000 in
theorem holds : Rows.FnEarsSaid :=
  OpenClaim.holds_of_wide 4 Tryz.f4 rfl rfl rfl rfl rfl rfl rfl ⟨rfl, rfl, rfl, rfl, rfl⟩ rfl rfl rfl rfl rfl (by as_aux_lemma => kernel_rfl) Tryz.func4 (by
      unfold joinedFacts
      simp only [Bool.and_eq_true]
      repeat' apply And.intro
      all_goals (as_aux_lemma => kernel_rfl))
    (of_decide_eq_true (by kernel_rfl)) (by unfold Func.isWrapper; first | (rw [if_pos (by decide +kernel)]; kernel_rfl) | (rw [if_neg (by decide +kernel)]; exact ⟨rfl, rfl⟩))
    (fun os started H enc _ => lifted os started H enc)

#print axioms holds
end Go.Proofs.YtjimmglpkndemaaGreat.HFnEars

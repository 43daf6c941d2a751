/- The row of FnNodes. Conditions: none. -/
import Derived.Test.YtjimmglpkndemaaGreatXPH
import Derived.Test.YtjimmglpkndemaaGreatKe
import Derived.Test.YtjimmglpkndemaaGreatRows
import Derived.Test.YtjimmglpkndemaaGreatXSHg
namespace Go.Proofs.YtjimmglpkndemaaGreat.HFnNodes
open Go.Proofs.YtjimmglpkndemaaGreatC Go.Proofs.YtjimmglpkndemaaGreat
theorem lifted (os : Os) (started : os.Started) (H : Type) (enc : TypeId × Value → H) :
    ReturnsInHanded {} Tryz.checked os 5 .any (Rows.fnNodesSpec.pre6 enc Tryz.prog Tryz.f5 Rows.fnNodesRow.domain false) (Rows.fnNodesSpec.post enc Tryz.prog Tryz.f5 Rows.fnNodesRow.apart Rows.fnNodesRow.fresh Rows.fnNodesRow.handsOn Rows.fnNodesRow.again) :=
  aiQ (C := Tryz.checked) (s := Rows.fnNodesSpec) (f := 5) (fn := Tryz.f5) (sg := rJ.sg) (F := Gp) (ys := aes) (rt := 4) (by kernel_rfl) started (by kernel_rfl) Tryz.func5
    (ChangeSpec.witness6 (enc := enc) (C := Tryz.checked) false ⟨#[], #[.slice none 0 0], []⟩ 8 (by kernel_rfl) (by kernel_rfl) (by kernel_rfl) (by kernel_rfl))
    rfl (fun ds h => by
      match ds, h with
      | [_], _ => rfl) (by kernel_rfl) (by kernel_rfl) (by kernel_rfl) (by kernel_rfl) rfl rJ.ok (by kernel_rfl) awp

set_option maxHeartbeats 4000000 in
theorem holds : Rows.FnNodesSaid :=
  OpenClaim.holds_of_wide 5 Tryz.f5 rfl rfl rfl rfl rfl rfl rfl ⟨rfl, rfl, rfl, rfl, rfl⟩ rfl rfl rfl rfl rfl (by as_aux_lemma => kernel_rfl) Tryz.func5 (by
      unfold joinedFacts
      simp only [Bool.and_eq_true]
      repeat' apply And.intro
      all_goals (as_aux_lemma => kernel_rfl))
    (of_decide_eq_true (by kernel_rfl)) (by unfold Func.isWrapper; first | (rw [if_pos (by decide +kernel)]; kernel_rfl) | (rw [if_neg (by decide +kernel)]; exact ⟨rfl, rfl⟩))
    (fun os started H enc _ => lifted os started H enc)

#print axioms holds
end Go.Proofs.YtjimmglpkndemaaGreat.HFnNodes

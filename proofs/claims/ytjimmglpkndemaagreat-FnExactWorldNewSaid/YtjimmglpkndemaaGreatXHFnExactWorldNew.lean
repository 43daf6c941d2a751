/- The row of FnExactWorldNew. Conditions: none. -/
import Derived.Test.YtjimmglpkndemaaGreatXPV
import Derived.Test.YtjimmglpkndemaaGreatKe
import Derived.Test.YtjimmglpkndemaaGreatRows
import Derived.Test.YtjimmglpkndemaaGreatXSZd
namespace Go.Proofs.YtjimmglpkndemaaGreat.HFnExactWorldNew
open Go.Proofs.YtjimmglpkndemaaGreatC Go.Proofs.YtjimmglpkndemaaGreat
theorem lifted (os : Os) (started : os.Started) (H : Type) (enc : TypeId × Value → H) :
    ReturnsInHanded {} Tryz.checked os 8 .any (Rows.fnExactWorldNewSpec.pre6 enc Tryz.prog Tryz.f8 Rows.fnExactWorldNewRow.domain false) (Rows.fnExactWorldNewSpec.post enc Tryz.prog Tryz.f8 Rows.fnExactWorldNewRow.apart Rows.fnExactWorldNewRow.fresh Rows.fnExactWorldNewRow.handsOn Rows.fnExactWorldNewRow.again) :=
  afk (C := Tryz.checked) (s := Rows.fnExactWorldNewSpec) (f := 8) (fn := Tryz.f8) (sg := iX.sg) (F := N3) (ys := aal) (rt := 4) (by kernel_rfl) started (by kernel_rfl) Tryz.func8
    (ChangeSpec.witness6 (enc := enc) (C := Tryz.checked) false ⟨#[], #[.agg #[.int .i64 0, .slice none 0 0, .slice none 0 0]], []⟩ 8 (by kernel_rfl) (by kernel_rfl) (by kernel_rfl) (by kernel_rfl))
    rfl (fun ds h => by
      match ds, h with
      | [_], _ => rfl) (by kernel_rfl) (by kernel_rfl) (by kernel_rfl) (by kernel_rfl) rfl iX.ok (by kernel_rfl) asj

set_option maxHeartbeats 4000000 in
theorem holds : Rows.FnExactWorldNewSaid :=
  OpenClaim.holds_of_wide 8 Tryz.f8 rfl rfl rfl rfl rfl rfl rfl ⟨rfl, rfl, rfl, rfl, rfl⟩ rfl rfl rfl rfl rfl (by as_aux_lemma => kernel_rfl) Tryz.func8 (by
      unfold joinedFacts
      simp only [Bool.and_eq_true]
      repeat' apply And.intro
      all_goals (as_aux_lemma => kernel_rfl))
    (of_decide_eq_true (by kernel_rfl)) (by unfold Func.isWrapper; first | (rw [if_pos (by decide +kernel)]; kernel_rfl) | (rw [if_neg (by decide +kernel)]; exact ⟨rfl, rfl⟩))
    (fun os started H enc _ => lifted os started H enc)

#print axioms holds
end Go.Proofs.YtjimmglpkndemaaGreat.HFnExactWorldNew

/- The row of FnExactHearNode. Conditions: none. -/
import Derived.Test.YtjimmglpkndemaaGreatXPX
import Derived.Test.YtjimmglpkndemaaGreatKe
import Derived.Test.YtjimmglpkndemaaGreatRows
import Derived.Test.YtjimmglpkndemaaGreatXLFnExactHearNode
namespace Go.Proofs.YtjimmglpkndemaaGreat.HFnExactHearNode
open Go.Proofs.YtjimmglpkndemaaGreatC Go.Proofs.YtjimmglpkndemaaGreat
theorem lifted (os : Os) (started : os.Started) (H : Type) (enc : TypeId × Value → H) :
    ReturnsInHanded {} Tryz.checked os 7 .any (Rows.fnExactHearNodeSpec.pre6 enc Tryz.prog Tryz.f7 Rows.fnExactHearNodeRow.domain false) (Rows.fnExactHearNodeSpec.post enc Tryz.prog Tryz.f7 Rows.fnExactHearNodeRow.apart Rows.fnExactHearNodeRow.fresh Rows.fnExactHearNodeRow.handsOn Rows.fnExactHearNodeRow.again) :=
  akj (C := Tryz.checked) (s := Rows.fnExactHearNodeSpec) (f := 7) (fn := Tryz.f7) (sg := jH.sg) (F := R1) (ys := afz) (rt := 4) (by kernel_rfl) started (by kernel_rfl) Tryz.func7
    (ChangeSpec.witness6 (enc := enc) (C := Tryz.checked) false ⟨#[], #[.agg #[.int .i64 0, .int .i64 0, .int .i64 0, .slice none 0 0, .slice none 0 0, .slice none 0 0, .slice none 0 0, .slice none 0 0], .agg #[.int .i64 0, .int .i64 0, .int .i64 0, .int .i64 0, .slice none 0 0, .slice none 0 0]], []⟩ 8 (by kernel_rfl) (by kernel_rfl) (by kernel_rfl) (by kernel_rfl))
    rfl (fun ds h => by
      match ds, h with
      | [_, _], _ => rfl) (by kernel_rfl) (by kernel_rfl) (by kernel_rfl) (by kernel_rfl) rfl jH.ok (by kernel_rfl) ayX

set_option maxHeartbeats 4000000 in
theorem holds : Rows.FnExactHearNodeSaid :=
  OpenClaim.holds_of_wide 7 Tryz.f7 rfl rfl rfl rfl rfl rfl rfl ⟨rfl, rfl, rfl, rfl, rfl⟩ rfl rfl rfl rfl rfl (by as_aux_lemma => kernel_rfl) Tryz.func7 (by
      unfold joinedFacts
      simp only [Bool.and_eq_true]
      repeat' apply And.intro
      all_goals (as_aux_lemma => kernel_rfl))
    (of_decide_eq_true (by kernel_rfl)) (by unfold Func.isWrapper; first | (rw [if_pos (by decide +kernel)]; kernel_rfl) | (rw [if_neg (by decide +kernel)]; exact ⟨rfl, rfl⟩))
    (fun os started H enc _ => lifted os started H enc)

#print axioms holds
end Go.Proofs.YtjimmglpkndemaaGreat.HFnExactHearNode

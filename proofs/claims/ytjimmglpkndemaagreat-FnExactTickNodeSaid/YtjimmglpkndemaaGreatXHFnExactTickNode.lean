/- The row of FnExactTickNode. Conditions: none. -/
import Derived.Test.YtjimmglpkndemaaGreatXPX
import Derived.Test.YtjimmglpkndemaaGreatKe
import Derived.Test.YtjimmglpkndemaaGreatRows
import Derived.Test.YtjimmglpkndemaaGreatXSZd
namespace Go.Proofs.YtjimmglpkndemaaGreat.HFnExactTickNode
open Go.Proofs.YtjimmglpkndemaaGreatC Go.Proofs.YtjimmglpkndemaaGreat
theorem lifted (os : Os) (started : os.Started) (H : Type) (enc : TypeId × Value → H) :
    ReturnsInHanded {} Tryz.checked os 6 .any (Rows.fnExactTickNodeSpec.pre6 enc Tryz.prog Tryz.f6 Rows.fnExactTickNodeRow.domain false) (Rows.fnExactTickNodeSpec.post enc Tryz.prog Tryz.f6 Rows.fnExactTickNodeRow.apart Rows.fnExactTickNodeRow.fresh Rows.fnExactTickNodeRow.handsOn Rows.fnExactTickNodeRow.again) :=
  ahq (C := Tryz.checked) (s := Rows.fnExactTickNodeSpec) (f := 6) (fn := Tryz.f6) (sg := jq.sg) (F := ZX) (ys := acx) (rt := 4) (by kernel_rfl) started (by kernel_rfl) Tryz.func6
    (ChangeSpec.witness6 (enc := enc) (C := Tryz.checked) false ⟨#[], #[.agg #[.int .i64 0, .int .i64 0, .int .i64 0, .slice none 0 0, .slice none 0 0, .slice none 0 0, .slice none 0 0, .slice none 0 0]], []⟩ 8 (by kernel_rfl) (by kernel_rfl) (by kernel_rfl) (by kernel_rfl))
    rfl (fun ds h => by
      match ds, h with
      | [_], _ => rfl) (by kernel_rfl) (by kernel_rfl) (by kernel_rfl) (by kernel_rfl) rfl jq.ok (by kernel_rfl) avK

set_option maxHeartbeats 4000000 in
theorem holds : Rows.FnExactTickNodeSaid :=
  OpenClaim.holds_of_wide 6 Tryz.f6 rfl rfl rfl rfl rfl rfl rfl ⟨rfl, rfl, rfl, rfl, rfl⟩ rfl rfl rfl rfl rfl (by as_aux_lemma => kernel_rfl) Tryz.func6 (by
      unfold joinedFacts
      simp only [Bool.and_eq_true]
      repeat' apply And.intro
      all_goals (as_aux_lemma => kernel_rfl))
    (of_decide_eq_true (by kernel_rfl)) (by unfold Func.isWrapper; first | (rw [if_pos (by decide +kernel)]; kernel_rfl) | (rw [if_neg (by decide +kernel)]; exact ⟨rfl, rfl⟩))
    (fun os started H enc _ => lifted os started H enc)

#print axioms holds
end Go.Proofs.YtjimmglpkndemaaGreat.HFnExactTickNode

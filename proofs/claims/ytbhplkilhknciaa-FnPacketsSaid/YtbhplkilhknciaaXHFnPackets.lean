/- The row of FnPackets. Conditions: none. -/
import Derived.Test.YtbhplkilhknciaaXWD
import Derived.Test.YtbhplkilhknciaaKe
import Derived.Test.YtbhplkilhknciaaRows
import Derived.Test.YtbhplkilhknciaaXSCm
namespace Go.Proofs.Ytbhplkilhknciaa.HFnPackets
open Go.Proofs.YtbhplkilhknciaaC Go.Proofs.Ytbhplkilhknciaa Go.Proofs.YtbhplkilhknciaaWD
theorem lifted (os : Os) (started : os.Started) (H : Type) (enc : TypeId × Value → H) :
    ReturnsInHanded {} Try.checked os 4 .any (Rows.fnPacketsSpec.pre6 enc Try.prog Try.f4 Rows.fnPacketsRow.domain false) (Rows.fnPacketsSpec.post enc Try.prog Try.f4 Rows.fnPacketsRow.apart Rows.fnPacketsRow.fresh Rows.fnPacketsRow.handsOn Rows.fnPacketsRow.again) :=
  Wa (C := Try.checked) (s := Rows.fnPacketsSpec) (f := 4) (fn := Try.f4) (sg := nI.sg) (F := RA) (ys := QI) (rt := 4) (by kernel_rfl) started (by kernel_rfl) Try.func4
    (ChangeSpec.witness6 (enc := enc) (C := Try.checked) false ⟨#[], #[.slice none 0 0], []⟩ 8 (by kernel_rfl) (by kernel_rfl) (by kernel_rfl) (by kernel_rfl))
    rfl (fun ds h => by
      match ds, h with
      | [_], _ => rfl) (by kernel_rfl) (by kernel_rfl) (by kernel_rfl) (by kernel_rfl) rfl nI.ok (by kernel_rfl) af6

set_option maxHeartbeats 4000000 in
theorem holds : Rows.FnPacketsSaid :=
  OpenClaim.holds_of_wide 4 Try.f4 rfl rfl rfl rfl rfl rfl rfl ⟨rfl, rfl, rfl, rfl, rfl⟩ rfl rfl rfl rfl rfl (by as_aux_lemma => kernel_rfl) Try.func4 (by
      unfold joinedFacts
      simp only [Bool.and_eq_true]
      repeat' apply And.intro
      all_goals (as_aux_lemma => kernel_rfl))
    (of_decide_eq_true (by kernel_rfl)) (by unfold Func.isWrapper; first | (rw [if_pos (by decide +kernel)]; kernel_rfl) | (rw [if_neg (by decide +kernel)]; exact ⟨rfl, rfl⟩))
    (fun os started H enc _ => lifted os started H enc)

#print axioms holds
end Go.Proofs.Ytbhplkilhknciaa.HFnPackets

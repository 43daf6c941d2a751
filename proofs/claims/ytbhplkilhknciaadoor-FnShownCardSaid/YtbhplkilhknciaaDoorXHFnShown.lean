/- The row and the tied card of FnShown. Conditions: none. -/
import Derived.Test.YtbhplkilhknciaaDoorXWS
import Derived.Test.YtbhplkilhknciaaDoorKe
import Derived.Test.YtbhplkilhknciaaDoorRows
import Derived.Test.YtbhplkilhknciaaDoorTie
import Derived.Test.YtbhplkilhknciaaDoorCards
import Derived.Test.YtbhplkilhknciaaDoorXLFnShown
import Derived.LaidMore
import Derived.ProofKit
import Derived.OpenShut
import Derived.Stop.Joined
import Derived.SevenTiedAt
namespace Go.Proofs.YtbhplkilhknciaaDoor.HFnShown
open Go Go.ChangeShapes Go.WideShapes Go.ChangeAt Go.RowKit Go.Proofs.YtbhplkilhknciaaDoorC Go.Proofs.YtbhplkilhknciaaDoor Go.Proofs.YtbhplkilhknciaaDoorWS
theorem door_met (os : Os) (args : Array Value) : laidMetH Tryd.prog Rows.fnShownRow.laid ((World.doorLaid Tryd.prog 24 os).forCall (fun _ _ => 0) ⟨#[], args, []⟩).memory :=
  laidMetH_of_parts3 (fuel := 8) (laidMet_of_run' 8 (by kernel_rfl) (by kernel_rfl)) (by kernel_rfl) (by kernel_rfl)

theorem glob (W : World) (h : laidMetH Tryd.prog Rows.fnShownRow.laid W) : GlobOk (fun _ => none) W :=
  glob_of (a := (Rows.fnShownRow.named.getD 1 default, Rows.laid_math_bits_deBruijn32tab)) (b := (Rows.fnShownRow.named.getD 2 default, Rows.laid_math_bits_deBruijn64tab)) (name := Rows.fnShownRow.named.getD 0 default)
    (by kernel_rfl) (by kernel_rfl) (by kernel_rfl) (by kernel_rfl) Tryd.underlying123 Tryd.underlying109 (by kernel_rfl) (by kernel_rfl) h

set_option maxRecDepth 100000 in
theorem lifted (os : Os) (started : os.Started) (H : Type) (enc : TypeId × Value → H) :
    ReturnsInHanded {} Tryd.checked os 3 .any (fun w args => (Rows.fnShownSpec.pre enc Tryd.prog Tryd.f3 Rows.fnShownRow.domain false w args ∧ laidMetH Tryd.prog Rows.fnShownRow.laid w) ∧ sizedMet enc Tryd.prog Tryd.f3 (OpenSpec.ofChange Rows.fnShownSpec) false w args)
      (Rows.fnShownSpec.post enc Tryd.prog Tryd.f3 Rows.fnShownRow.apart Rows.fnShownRow.fresh Rows.fnShownRow.handsOn Rows.fnShownRow.again) :=
  law_laid (C := Tryd.checked) (s := Rows.fnShownSpec) (f := 3) (fn := Tryd.f3) (sg := k_FnShown.sg) (F := F_FnShown) (ys := ys_FnShown) (rt := 4) (X := fun w _ => laidMetH Tryd.prog Rows.fnShownRow.laid w) (by kernel_rfl) started (by kernel_rfl) Tryd.func3
    (fun _ _ _ hh h => h.of_heap hh) (fun W _ h => glob W h)
    (ChangeSpec.witness_shaped (enc := enc) (C := Tryd.checked) (os := os) (X := fun w _ => laidMetH Tryd.prog Rows.fnShownRow.laid w) false (World.doorLaid Tryd.prog 24 os) #[.slice none 0 0] 8 rfl (World.shaped_of_RefB (by kernel_rfl) (by kernel_rfl)) (by kernel_rfl) (by kernel_rfl) (by kernel_rfl) (door_met os _))
    rfl (fun ds h => by
      match ds, h with
      | [_], _ => rfl) (by kernel_rfl) (by kernel_rfl) (by kernel_rfl) (by kernel_rfl) rfl k_FnShown.ok (by kernel_rfl) true_FnShown

set_option maxHeartbeats 4000000 in
theorem row : Rows.FnShownSaid :=
  OpenClaim.holds_of_wide 3 Tryd.f3 rfl rfl rfl rfl rfl rfl rfl ⟨rfl, rfl, rfl, rfl, rfl⟩ rfl rfl rfl rfl rfl (by as_aux_lemma => kernel_rfl) Tryd.func3 (by
      unfold joinedFacts
      simp only [Bool.and_eq_true]
      repeat' apply And.intro
      all_goals (as_aux_lemma => kernel_rfl))
    (of_decide_eq_true (by kernel_rfl)) (by unfold Func.isWrapper; first | (rw [if_pos (by decide +kernel)]; kernel_rfl) | (rw [if_neg (by decide +kernel)]; exact ⟨rfl, rfl⟩))
    (fun os started H enc _ => lifted os started H enc)

theorem fnIs : Tryd.prog.funcNamed Rows.fnShownRow.func = some 3 := by kernel_rfl

theorem holds : Rows.FnShownCardSaid :=
  Claim7.holds_tied_plain_at .later [] [.data, .data, .data] true Rows.fnShownCard.stood.harness false
    row (fun _ h => by cases h) (by kernel_rfl) (fun _ h => by cases h) fnShown_row_tie rfl ⟨rfl, rfl⟩ (by kernel_rfl) rfl
    (fun f fn hf hfn => by
      obtain rfl : f = 3 := Option.some.inj (fnIs.symm.trans hf) |>.symm
      obtain rfl : fn = Tryd.f3 := (Option.some.inj (Tryd.func3.symm.trans hfn)).symm
      exact ⟨by kernel_rfl, fun j t ht => by
        have hall : (Tryd.f3.params.toList.all fun u => !Tryd.prog.wantsStandIn u) = true := by kernel_rfl
        have hm : t ∈ Tryd.f3.params.toList := Array.mem_toList_iff.2 (Array.mem_of_getElem? ht)
        exact (show Tryd.prog.wantsStandIn t = false by simpa using List.all_eq_true.1 hall t hm)⟩)
    (by kernel_rfl)

#print axioms holds
end Go.Proofs.YtbhplkilhknciaaDoor.HFnShown

/- The row and the tied card of FnExactShowRoute. Conditions: none. -/
import Derived.Test.YtbhplkilhknciaaDoorXWS
import Derived.Test.YtbhplkilhknciaaDoorKe
import Derived.Test.YtbhplkilhknciaaDoorRows
import Derived.Test.YtbhplkilhknciaaDoorTie
import Derived.Test.YtbhplkilhknciaaDoorCards
import Derived.Test.YtbhplkilhknciaaDoorXLFnExactShowRoute
import Derived.LaidMore
import Derived.ProofKit
import Derived.OpenShut
import Derived.Stop.Joined
import Derived.SevenTiedAt
namespace Go.Proofs.YtbhplkilhknciaaDoor.HFnExactShowRoute
open Go Go.ChangeShapes Go.WideShapes Go.ChangeAt Go.RowKit Go.Proofs.YtbhplkilhknciaaDoorC Go.Proofs.YtbhplkilhknciaaDoor Go.Proofs.YtbhplkilhknciaaDoorWS
theorem door_met (os : Os) (args : Array Value) : laidMetH Tryd.prog Rows.fnExactShowRouteRow.laid ((World.doorLaid Tryd.prog 24 os).forCall (fun _ _ => 0) ⟨#[], args, []⟩).memory :=
  laidMetH_of_parts3 (fuel := 8) (laidMet_of_run' 8 (by kernel_rfl) (by kernel_rfl)) (by kernel_rfl) (by kernel_rfl)

theorem glob (W : World) (h : laidMetH Tryd.prog Rows.fnExactShowRouteRow.laid W) : GlobOk (fun _ => none) W :=
  glob_of (a := (Rows.fnExactShowRouteRow.named.getD 1 default, Rows.laid_math_bits_deBruijn32tab)) (b := (Rows.fnExactShowRouteRow.named.getD 2 default, Rows.laid_math_bits_deBruijn64tab)) (name := Rows.fnExactShowRouteRow.named.getD 0 default)
    (by kernel_rfl) (by kernel_rfl) (by kernel_rfl) (by kernel_rfl) Tryd.underlying123 Tryd.underlying109 (by kernel_rfl) (by kernel_rfl) h

set_option maxRecDepth 100000 in
theorem lifted (os : Os) (started : os.Started) (H : Type) (enc : TypeId × Value → H) :
    ReturnsInHanded {} Tryd.checked os 4 .any (fun w args => (Rows.fnExactShowRouteSpec.pre enc Tryd.prog Tryd.f4 Rows.fnExactShowRouteRow.domain false w args ∧ laidMetH Tryd.prog Rows.fnExactShowRouteRow.laid w) ∧ sizedMet enc Tryd.prog Tryd.f4 (OpenSpec.ofChange Rows.fnExactShowRouteSpec) false w args)
      (Rows.fnExactShowRouteSpec.post enc Tryd.prog Tryd.f4 Rows.fnExactShowRouteRow.apart Rows.fnExactShowRouteRow.fresh Rows.fnExactShowRouteRow.handsOn Rows.fnExactShowRouteRow.again) :=
  law_laid (C := Tryd.checked) (s := Rows.fnExactShowRouteSpec) (f := 4) (fn := Tryd.f4) (sg := k_FnExactShowRoute.sg) (F := F_FnExactShowRoute) (ys := ys_FnExactShowRoute) (rt := 4) (X := fun w _ => laidMetH Tryd.prog Rows.fnExactShowRouteRow.laid w) (by kernel_rfl) started (by kernel_rfl) Tryd.func4
    (fun _ _ _ hh h => h.of_heap hh) (fun W _ h => glob W h)
    (ChangeSpec.witness_shaped (enc := enc) (C := Tryd.checked) (os := os) (X := fun w _ => laidMetH Tryd.prog Rows.fnExactShowRouteRow.laid w) false (World.doorLaid Tryd.prog 24 os) #[.agg #[.bool false, .int .i64 0, .int .i64 0, .int .i64 0, .int .i64 0, .slice none 0 0]] 8 rfl (World.shaped_of_RefB (by kernel_rfl) (by kernel_rfl)) (by kernel_rfl) (by kernel_rfl) (by kernel_rfl) (door_met os _))
    rfl (fun ds h => by
      match ds, h with
      | [_], _ => rfl) (by kernel_rfl) (by kernel_rfl) (by kernel_rfl) (by kernel_rfl) rfl k_FnExactShowRoute.ok (by kernel_rfl) true_FnExactShowRoute

set_option maxHeartbeats 4000000 in
theorem row : Rows.FnExactShowRouteSaid :=
  OpenClaim.holds_of_wide 4 Tryd.f4 rfl rfl rfl rfl rfl rfl rfl ⟨rfl, rfl, rfl, rfl, rfl⟩ rfl rfl rfl rfl rfl (by as_aux_lemma => kernel_rfl) Tryd.func4 (by
      unfold joinedFacts
      simp only [Bool.and_eq_true]
      repeat' apply And.intro
      all_goals (as_aux_lemma => kernel_rfl))
    (of_decide_eq_true (by kernel_rfl)) (by unfold Func.isWrapper; first | (rw [if_pos (by decide +kernel)]; kernel_rfl) | (rw [if_neg (by decide +kernel)]; exact ⟨rfl, rfl⟩))
    (fun os started H enc _ => lifted os started H enc)

theorem fnIs : Tryd.prog.funcNamed Rows.fnExactShowRouteRow.func = some 4 := by kernel_rfl

theorem holds : Rows.FnExactShowRouteCardSaid :=
  Claim7.holds_tied_plain_at .later [] [.data, .data, .data] true Rows.fnExactShowRouteCard.stood.harness false
    row (fun _ h => by cases h) (by kernel_rfl) (fun _ h => by cases h) fnExactShowRoute_row_tie rfl ⟨rfl, rfl⟩ (by kernel_rfl) rfl
    (fun f fn hf hfn => by
      obtain rfl : f = 4 := Option.some.inj (fnIs.symm.trans hf) |>.symm
      obtain rfl : fn = Tryd.f4 := (Option.some.inj (Tryd.func4.symm.trans hfn)).symm
      exact ⟨by kernel_rfl, fun j t ht => by
        have hall : (Tryd.f4.params.toList.all fun u => !Tryd.prog.wantsStandIn u) = true := by kernel_rfl
        have hm : t ∈ Tryd.f4.params.toList := Array.mem_toList_iff.2 (Array.mem_of_getElem? ht)
        exact (show Tryd.prog.wantsStandIn t = false by simpa using List.all_eq_true.1 hall t hm)⟩)
    (by kernel_rfl)

#print axioms holds
end Go.Proofs.YtbhplkilhknciaaDoor.HFnExactShowRoute

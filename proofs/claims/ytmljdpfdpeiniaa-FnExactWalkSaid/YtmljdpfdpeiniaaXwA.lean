/- The walk: each function does as its plain program says (printed by a program). Conditions: none. -/
import Derived.Test.YtmljdpfdpeiniaaChecked
import Derived.Test.YtmljdpfdpeiniaaKd
import Derived.Test.YtmljdpfdpeiniaaXpA
namespace Go.Proofs.YtmljdpfdpeiniaaWA
open Go.Proofs.YtmljdpfdpeiniaaC
def lty : List (Nat × TI) := [
  (3, ⟨1, 8, false, [.p (.k (.int .i64 0))], 0, [], 1⟩),
  (4, ⟨1, 1, false, [.p (.k (.bool false))], 0, [], 4⟩),
  (9, ⟨1, 16, false, [.p (.k (.string ByteArray.empty))], 0, [], 2⟩),
  (22, ⟨1, 24, false, [.n], 114, [], 3⟩),
  (23, ⟨1, 24, false, [.n], 118, [], 3⟩),
  (25, ⟨3, 56, true, [.p (.k (.int .i64 0)), .n, .n], 0, [(0, 1), (1, 1), (2, 1)], 0⟩),
  (27, ⟨4, 40, true, [.p (.k (.int .i64 0)), .p (.k (.int .i64 0)), .p (.k (.int .i64 0)), .p (.k (.string ByteArray.empty))], 0, [(0, 1), (1, 1), (2, 1), (3, 1)], 5⟩),
  (31, ⟨1, 24, false, [.n], 112, [], 3⟩),
  (32, ⟨1, 24, false, [.n], 116, [], 3⟩),
  (34, ⟨3, 56, true, [.p (.k (.int .i64 0)), .n, .n], 0, [(0, 1), (1, 1), (2, 1)], 0⟩),
  (36, ⟨4, 40, true, [.p (.k (.int .i64 0)), .p (.k (.int .i64 0)), .p (.k (.int .i64 0)), .p (.k (.string ByteArray.empty))], 0, [(0, 1), (1, 1), (2, 1), (3, 1)], 5⟩),
  (40, ⟨1, 24, false, [.n], 88, [], 3⟩),
  (43, ⟨1, 24, false, [.n], 92, [], 3⟩),
  (46, ⟨1, 24, false, [.n], 70, [], 3⟩),
  (47, ⟨1, 24, false, [.n], 3, [], 3⟩),
  (51, ⟨1, 24, false, [.n], 61, [], 3⟩),
  (59, ⟨1, 24, false, [.n], 99, [], 3⟩),
  (61, ⟨1, 24, false, [.n], 96, [], 3⟩),
  (63, ⟨1, 24, false, [.n], 100, [], 3⟩),
  (70, ⟨1, 24, false, [.n], 106, [], 3⟩),
  (72, ⟨1, 24, false, [.n], 108, [], 3⟩),
  (86, ⟨1, 24, false, [.n], 127, [], 3⟩),
  (88, ⟨8, 80, true, [.p (.k (.int .i64 0)), .p (.k (.int .i64 0)), .p (.k (.int .i64 0)), .p (.k (.int .i64 0)), .p (.k (.int .i64 0)), .n, .p (.k (.int .i64 0)), .p (.k (.bool false))], 0, [(0, 1), (1, 1), (2, 1), (3, 1), (4, 1), (5, 1), (6, 1), (7, 1)], 0⟩),
  (90, ⟨1, 24, false, [.n], 123, [], 3⟩),
  (92, ⟨8, 80, true, [.p (.k (.int .i64 0)), .p (.k (.int .i64 0)), .p (.k (.int .i64 0)), .p (.k (.int .i64 0)), .p (.k (.int .i64 0)), .n, .p (.k (.int .i64 0)), .p (.k (.bool false))], 0, [(0, 1), (1, 1), (2, 1), (3, 1), (4, 1), (5, 1), (6, 1), (7, 1)], 0⟩),
  (96, ⟨3, 40, true, [.p (.k (.bool false)), .p (.k (.int .i64 0)), .n], 0, [(0, 1), (1, 1), (2, 1)], 0⟩),
  (99, ⟨6, 64, true, [.p (.k (.bool false)), .p (.k (.int .i64 0)), .p (.k (.int .i64 0)), .p (.k (.int .i64 0)), .p (.k (.int .i64 0)), .n], 0, [(0, 1), (1, 1), (2, 1), (3, 1), (4, 1), (5, 1)], 0⟩),
  (100, ⟨6, 64, true, [.p (.k (.bool false)), .p (.k (.int .i64 0)), .p (.k (.int .i64 0)), .p (.k (.int .i64 0)), .p (.k (.int .i64 0)), .n], 0, [(0, 1), (1, 1), (2, 1), (3, 1), (4, 1), (5, 1)], 0⟩),
  (106, ⟨3, 40, true, [.p (.k (.bool false)), .p (.k (.int .i64 0)), .n], 0, [(0, 1), (1, 1), (2, 1)], 0⟩),
  (108, ⟨4, 48, true, [.p (.k (.bool false)), .p (.k (.bool false)), .p (.k (.int .i64 0)), .n], 0, [(0, 1), (1, 3)], 0⟩),
  (112, ⟨4, 32, true, [.p (.k (.int .i64 0)), .p (.k (.int .i64 0)), .p (.k (.int .i64 0)), .p (.k (.int .i64 0))], 0, [(0, 1), (1, 1), (2, 1), (3, 1)], 5⟩),
  (114, ⟨4, 32, true, [.p (.k (.int .i64 0)), .p (.k (.int .i64 0)), .p (.k (.int .i64 0)), .p (.k (.int .i64 0))], 0, [(0, 1), (1, 1), (2, 1), (3, 1)], 5⟩),
  (116, ⟨4, 32, true, [.p (.k (.int .i64 0)), .p (.k (.int .i64 0)), .p (.k (.int .i64 0)), .p (.k (.bool false))], 0, [(0, 1), (1, 1), (2, 1), (3, 1)], 5⟩),
  (118, ⟨4, 32, true, [.p (.k (.int .i64 0)), .p (.k (.int .i64 0)), .p (.k (.int .i64 0)), .p (.k (.bool false))], 0, [(0, 1), (1, 1), (2, 1), (3, 1)], 5⟩),
  (123, ⟨2, 16, true, [.p (.k (.int .i64 0)), .p (.k (.int .i64 0))], 0, [(0, 1), (1, 1)], 5⟩),
  (127, ⟨2, 16, true, [.p (.k (.int .i64 0)), .p (.k (.int .i64 0))], 0, [(0, 1), (1, 1)], 5⟩)]
def lhint : List ((Nat × Nat × Nat) × Js) := [
  ((49, 0, 0), [(4, false, .phi false [.p]), (7, false, .rows [(0, true)])]),
  ((50, 0, 0), [(4, false, .phi false [.p]), (7, false, .rows [(0, true)])]),
  ((52, 0, 0), [(4, false, .phi false [.p]), (5, false, .phi false [.p])]),
  ((53, 0, 0), [(4, false, .phi false [.p]), (5, false, .phi false [.p])]),
  ((15, 0, 0), [(1, false, .phi false [.p]), (4, false, .phi false [.p]), (5, false, .phi false [.p])]),
  ((78, 0, 0), [(4, false, .phi false [.p]), (7, false, .rows [(0, true)])]),
  ((17, 0, 0), [(4, false, .phi false [.p]), (7, false, .rows [(0, true)])]),
  ((55, 0, 0), [(4, false, .phi false [.p]), (5, false, .phi false [.p])]),
  ((16, 0, 0), [(4, false, .phi false [.p]), (5, false, .phi false [.p])]),
  ((16, 0, 2), [(6, false, .phi false [.p]), (7, false, .phi false [.p])]),
  ((57, 0, 0), [(4, false, .phi false [.p]), (36, false, .phi false [.p])]),
  ((18, 0, 0), [(4, false, .phi false [.p]), (12, false, .phi false [.p])]),
  ((18, 0, 2), [(7, false, .phi false [.p]), (18, false, .phi false [.p])]),
  ((80, 0, 0), [(4, false, .phi false [.p]), (5, false, .phi false [.p])]),
  ((19, 0, 0), [(4, false, .phi false [.p]), (5, false, .phi false [.p])]),
  ((30, 0, 0), [(1, false, .phi false [.p]), (4, false, .phi false [.p]), (5, false, .phi false [.p])]),
  ((23, 0, 0), [(4, false, .phi false [.p]), (7, false, .rows [(0, true)])]),
  ((32, 0, 0), [(4, false, .phi false [.p]), (7, false, .rows [(0, true)])]),
  ((59, 0, 0), [(4, false, .phi false [.p]), (5, false, .phi false [.p])]),
  ((31, 0, 0), [(3, false, .phi false [.o true]), (4, false, .phi false [.p])]),
  ((31, 2, 32), [(3, false, .phi false [.o true]), (29, false, .phi false [.d])]),
  ((60, 0, 0), [(4, false, .phi false [.p]), (9, false, .phi false [.p])]),
  ((33, 0, 0), [(3, false, .phi false [.o true]), (9, false, .phi false [.p])]),
  ((33, 2, 23), [(3, false, .phi false [.o true]), (20, false, .phi false [.d])]),
  ((25, 0, 0), [(4, false, .phi false [.p]), (5, false, .phi false [.p])]),
  ((34, 0, 0), [(4, false, .phi false [.p]), (5, false, .phi false [.p])]),
  ((35, 0, 0), [(4, false, .phi false [.p]), (5, false, .phi false [.p])]),
  ((28, 0, 0), [(1, false, .phi false [.p]), (5, false, .phi false [.p]), (0, false, .rows [(0, true)])]),
  ((36, 0, 0), [(1, false, .phi false [.p]), (5, false, .phi false [.p]), (0, false, .rows [(0, true)])]),
  ((37, 0, 0), [(1, false, .phi false [.p]), (5, false, .phi false [.p]), (0, false, .rows [(0, true)])]),
  ((29, 0, 0), [(1, false, .phi false [.p]), (4, false, .phi false [.p]), (5, false, .phi false [.p])]),
  ((38, 0, 0), [(1, false, .phi false [.p]), (4, false, .phi false [.p]), (5, false, .phi false [.p])]),
  ((39, 0, 0), [(1, false, .phi false [.p]), (4, false, .phi false [.p]), (5, false, .phi false [.p])]),
  ((41, 0, 0), [(4, false, .phi false [.p]), (7, false, .rows [(0, true)])]),
  ((68, 0, 0), [(4, false, .phi false [.p]), (5, false, .phi false [.p])]),
  ((40, 0, 0), [(5, false, .phi false [.o true]), (6, false, .phi false [.p])]),
  ((40, 0, 2), [(5, false, .phi false [.o true]), (7, false, .phi false [.p])]),
  ((40, 2, 22), [(5, false, .phi false [.o true])]),
  ((40, 2, 65), [(5, false, .phi false [.o true])]),
  ((70, 0, 0), [(4, false, .phi false [.p]), (13, false, .phi false [.p])]),
  ((42, 0, 0), [(5, false, .phi false [.o true]), (13, false, .phi false [.p])]),
  ((42, 0, 2), [(5, false, .phi false [.o true]), (33, false, .phi false [.p])]),
  ((42, 2, 20), [(5, false, .phi false [.o true])]),
  ((42, 2, 52), [(5, false, .phi false [.o true])]),
  ((43, 0, 0), [(4, false, .phi false [.p]), (5, false, .phi false [.p])]),
  ((44, 0, 0), [(1, false, .phi false [.p]), (5, false, .phi false [.p]), (0, false, .rows [(0, true)])]),
  ((45, 0, 0), [(1, false, .phi false [.p]), (4, false, .phi false [.p]), (5, false, .phi false [.p])]),
  ((20, 0, 0), [(1, false, .phi false [.p]), (4, false, .phi false [.p]), (5, false, .phi false [.p])]),
  ((22, 0, 0), [(4, false, .phi false [.p]), (7, false, .rows [(0, true)])]),
  ((21, 0, 0), [(8, false, .phi false [.o true]), (9, false, .phi false [.p]), (10, false, .phi false [.o true]), (11, false, .phi false [.p]), (12, false, .phi false [.p])]),
  ((21, 2, 68), [(14, false, .phi false [.p])]),
  ((24, 0, 0), [(8, false, .phi false [.o true]), (9, false, .phi false [.p]), (10, false, .phi false [.o true]), (11, false, .phi false [.p])]),
  ((24, 2, 70), [(14, false, .phi false [.p])]),
  ((26, 0, 0), [(4, false, .phi false [.p]), (5, false, .phi false [.p])]),
  ((27, 0, 0), [(1, false, .phi false [.p]), (5, false, .phi false [.p]), (0, false, .rows [(0, true)])])]
def lfz : List (Nat × Nat × Nat) := []
def lnest : List Nat := [3, 4, 28, 36, 37, 6, 44, 7, 27, 5]
noncomputable def lfn : List (Nat × Func) := [(28, Try.f28), (36, Try.f36), (37, Try.f37), (44, Try.f44), (27, Try.f27)]
noncomputable def cx : Cx := { ty := tiOf lty, sg := fun _ => none, fn := fnOf lfn, hint := hintOf lhint, fz := fzOf lfz, nest := memN lnest }
theorem in_szLinkS : FnIn Try.prog 46 := .mk Try.func46 (by kernel_rfl) (by kernel_rfl)
theorem in_szThingS : FnIn Try.prog 47 := .mk Try.func47 (by kernel_rfl) (by kernel_rfl)
theorem in_szNet : FnIn Try.prog 8 := .mk Try.func8 (by kernel_rfl) (by kernel_rfl)
theorem in_szEvent : FnIn Try.prog 9 := .mk Try.func9 (by kernel_rfl) (by kernel_rfl)
theorem in_toLink : FnIn Try.prog 72 := .mk Try.func72 (by kernel_rfl) (by kernel_rfl)
theorem in_toLinkS : FnIn Try.prog 49 := .mk Try.func49 (by kernel_rfl) (by kernel_rfl)
theorem in_toThing : FnIn Try.prog 73 := .mk Try.func73 (by kernel_rfl) (by kernel_rfl)
theorem in_toThingS : FnIn Try.prog 50 := .mk Try.func50 (by kernel_rfl) (by kernel_rfl)
theorem in_toNet : FnIn Try.prog 11 := .mk Try.func11 (by kernel_rfl) (by kernel_rfl)
theorem in_toEvent : FnIn Try.prog 12 := .mk Try.func12 (by kernel_rfl) (by kernel_rfl)
theorem in_s_l01In : FnIn Try.prog 48 := .mk Try.func48 (by kernel_rfl) (by kernel_rfl)
theorem in_s_EventOk : FnIn Try.prog 10 := .mk Try.func10 (by kernel_rfl) (by kernel_rfl)
theorem in_i_in : FnIn Try.prog 51 := .mk Try.func51 (by kernel_rfl) (by kernel_rfl)
theorem in_i_EventOk : FnIn Try.prog 13 := .mk Try.func13 (by kernel_rfl) (by kernel_rfl)
theorem in_eqLink : FnIn Try.prog 74 := .mk Try.func74 (by kernel_rfl) (by kernel_rfl)
theorem in_eqLinkS : FnIn Try.prog 52 := .mk Try.func52 (by kernel_rfl) (by kernel_rfl)
theorem in_eqThing : FnIn Try.prog 75 := .mk Try.func75 (by kernel_rfl) (by kernel_rfl)
theorem in_eqThingS : FnIn Try.prog 53 := .mk Try.func53 (by kernel_rfl) (by kernel_rfl)
theorem in_eqNet : FnIn Try.prog 14 := .mk Try.func14 (by kernel_rfl) (by kernel_rfl)
theorem in_FnExactEventOk : FnIn Try.prog 3 := .mk Try.func3 (by kernel_rfl) (by kernel_rfl)
theorem in_szNearS : FnIn Try.prog 76 := .mk Try.func76 (by kernel_rfl) (by kernel_rfl)
theorem in_szRecord : FnIn Try.prog 54 := .mk Try.func54 (by kernel_rfl) (by kernel_rfl)
theorem in_szRecordS : FnIn Try.prog 15 := .mk Try.func15 (by kernel_rfl) (by kernel_rfl)
theorem in_toNear : FnIn Try.prog 83 := .mk Try.func83 (by kernel_rfl) (by kernel_rfl)
theorem in_toNearS : FnIn Try.prog 78 := .mk Try.func78 (by kernel_rfl) (by kernel_rfl)
theorem in_toRecord : FnIn Try.prog 56 := .mk Try.func56 (by kernel_rfl) (by kernel_rfl)
theorem in_toRecordS : FnIn Try.prog 17 := .mk Try.func17 (by kernel_rfl) (by kernel_rfl)
theorem in_s_SameKey : FnIn Try.prog 77 := .mk Try.func77 (by kernel_rfl) (by kernel_rfl)
theorem in_s_SameBody : FnIn Try.prog 55 := .mk Try.func55 (by kernel_rfl) (by kernel_rfl)
theorem in_s_TrueTold : FnIn Try.prog 16 := .mk Try.func16 (by kernel_rfl) (by kernel_rfl)
theorem in_i_SameKey : FnIn Try.prog 79 := .mk Try.func79 (by kernel_rfl) (by kernel_rfl)
theorem in_i_SameBody : FnIn Try.prog 57 := .mk Try.func57 (by kernel_rfl) (by kernel_rfl)
theorem in_i_TrueTold : FnIn Try.prog 18 := .mk Try.func18 (by kernel_rfl) (by kernel_rfl)
theorem in_eqNear : FnIn Try.prog 84 := .mk Try.func84 (by kernel_rfl) (by kernel_rfl)
theorem in_eqNearS : FnIn Try.prog 80 := .mk Try.func80 (by kernel_rfl) (by kernel_rfl)
theorem in_eqRecord : FnIn Try.prog 58 := .mk Try.func58 (by kernel_rfl) (by kernel_rfl)
theorem in_eqRecordS : FnIn Try.prog 19 := .mk Try.func19 (by kernel_rfl) (by kernel_rfl)
theorem in_FnExactTrueTold : FnIn Try.prog 4 := .mk Try.func4 (by kernel_rfl) (by kernel_rfl)
theorem in_szIntS : FnIn Try.prog 81 := .mk Try.func81 (by kernel_rfl) (by kernel_rfl)
theorem in_szRoute : FnIn Try.prog 61 := .mk Try.func61 (by kernel_rfl) (by kernel_rfl)
theorem in_szRouteS : FnIn Try.prog 30 := .mk Try.func30 (by kernel_rfl) (by kernel_rfl)
theorem in_toIntS : FnIn Try.prog 23 := .mk Try.func23 (by kernel_rfl) (by kernel_rfl)
theorem in_toRoute : FnIn Try.prog 63 := .mk Try.func63 (by kernel_rfl) (by kernel_rfl)
theorem in_toRouteS : FnIn Try.prog 32 := .mk Try.func32 (by kernel_rfl) (by kernel_rfl)
theorem in_s_l11At : FnIn Try.prog 59 := .mk Try.func59 (by kernel_rfl) (by kernel_rfl)
theorem in_s_l11Copy : FnIn Try.prog 62 := .mk Try.func62 (by kernel_rfl) (by kernel_rfl)
theorem in_s_TableOf : FnIn Try.prog 31 := .mk Try.func31 (by kernel_rfl) (by kernel_rfl)
theorem in_i_lineAt : FnIn Try.prog 60 := .mk Try.func60 (by kernel_rfl) (by kernel_rfl)
theorem in_i_copyInts : FnIn Try.prog 82 := .mk Try.func82 (by kernel_rfl) (by kernel_rfl)
theorem in_i_copyLine : FnIn Try.prog 64 := .mk Try.func64 (by kernel_rfl) (by kernel_rfl)
theorem in_i_TableOf : FnIn Try.prog 33 := .mk Try.func33 (by kernel_rfl) (by kernel_rfl)
theorem in_eqIntS : FnIn Try.prog 25 := .mk Try.func25 (by kernel_rfl) (by kernel_rfl)
theorem in_eqLine : FnIn Try.prog 65 := .mk Try.func65 (by kernel_rfl) (by kernel_rfl)
theorem in_eqLineS : FnIn Try.prog 34 := .mk Try.func34 (by kernel_rfl) (by kernel_rfl)
theorem in_eqRoute : FnIn Try.prog 66 := .mk Try.func66 (by kernel_rfl) (by kernel_rfl)
theorem in_eqRouteS : FnIn Try.prog 35 := .mk Try.func35 (by kernel_rfl) (by kernel_rfl)
theorem in_markIntS : FnIn Try.prog 28 := .mk Try.func28 (by kernel_rfl) (by kernel_rfl)
theorem in_markRouteS : FnIn Try.prog 36 := .mk Try.func36 (by kernel_rfl) (by kernel_rfl)
theorem in_markLineS : FnIn Try.prog 37 := .mk Try.func37 (by kernel_rfl) (by kernel_rfl)
theorem in_heldIntS : FnIn Try.prog 29 := .mk Try.func29 (by kernel_rfl) (by kernel_rfl)
theorem in_heldLineS : FnIn Try.prog 38 := .mk Try.func38 (by kernel_rfl) (by kernel_rfl)
theorem in_FnExactTableOf : FnIn Try.prog 6 := .mk Try.func6 (by kernel_rfl) (by kernel_rfl)
theorem in_szLine : FnIn Try.prog 67 := .mk Try.func67 (by kernel_rfl) (by kernel_rfl)
theorem in_szLineS : FnIn Try.prog 39 := .mk Try.func39 (by kernel_rfl) (by kernel_rfl)
theorem in_toLine : FnIn Try.prog 69 := .mk Try.func69 (by kernel_rfl) (by kernel_rfl)
theorem in_toLineS : FnIn Try.prog 41 := .mk Try.func41 (by kernel_rfl) (by kernel_rfl)
theorem in_s_l10SameInts : FnIn Try.prog 68 := .mk Try.func68 (by kernel_rfl) (by kernel_rfl)
theorem in_s_Differ : FnIn Try.prog 40 := .mk Try.func40 (by kernel_rfl) (by kernel_rfl)
theorem in_i_sameInts : FnIn Try.prog 70 := .mk Try.func70 (by kernel_rfl) (by kernel_rfl)
theorem in_i_Differ : FnIn Try.prog 42 := .mk Try.func42 (by kernel_rfl) (by kernel_rfl)
theorem in_eqTurn : FnIn Try.prog 71 := .mk Try.func71 (by kernel_rfl) (by kernel_rfl)
theorem in_eqTurnS : FnIn Try.prog 43 := .mk Try.func43 (by kernel_rfl) (by kernel_rfl)
theorem in_markTurnS : FnIn Try.prog 44 := .mk Try.func44 (by kernel_rfl) (by kernel_rfl)
theorem in_heldTurnS : FnIn Try.prog 45 := .mk Try.func45 (by kernel_rfl) (by kernel_rfl)
theorem in_FnExactDiffer : FnIn Try.prog 7 := .mk Try.func7 (by kernel_rfl) (by kernel_rfl)
theorem in_szLineSS : FnIn Try.prog 20 := .mk Try.func20 (by kernel_rfl) (by kernel_rfl)
theorem in_toLineSS : FnIn Try.prog 22 := .mk Try.func22 (by kernel_rfl) (by kernel_rfl)
theorem in_s_Walk : FnIn Try.prog 21 := .mk Try.func21 (by kernel_rfl) (by kernel_rfl)
theorem in_i_Walk : FnIn Try.prog 24 := .mk Try.func24 (by kernel_rfl) (by kernel_rfl)
theorem in_eqLineSS : FnIn Try.prog 26 := .mk Try.func26 (by kernel_rfl) (by kernel_rfl)
theorem in_markLineSS : FnIn Try.prog 27 := .mk Try.func27 (by kernel_rfl) (by kernel_rfl)
theorem in_FnExactWalk : FnIn Try.prog 5 := .mk Try.func5 (by kernel_rfl) (by kernel_rfl)
theorem seat : Seat Try.prog cx := ⟨tys_ok (l := lty) (by kernel_rfl) rfl, into_of (l := lfn) (List.forall_mem_cons.2 ⟨⟨Try.func28, in_markIntS⟩, List.forall_mem_cons.2 ⟨⟨Try.func36, in_markRouteS⟩, List.forall_mem_cons.2 ⟨⟨Try.func37, in_markLineS⟩, List.forall_mem_cons.2 ⟨⟨Try.func44, in_markTurnS⟩, List.forall_mem_cons.2 ⟨⟨Try.func27, in_markLineSS⟩, fun _ h => nomatch h⟩⟩⟩⟩⟩) rfl, by kernel_rfl⟩
def s_szLinkS : Sig := ⟨[.v false 1, .v false 1], [(false, [.s])]⟩
theorem ok_szLinkS : Fok Try.prog s_szLinkS 46 F_szLinkS := Fok.mk seat (n := 8) (l := []) (S := S_szLinkS) (pl := p_szLinkS) in_szLinkS Try.func46 (fun _ h => nomatch h) (by kernel_rfl)
def s_szThingS : Sig := ⟨[.v false 1, .v false 1], [(false, [.s])]⟩
theorem ok_szThingS : Fok Try.prog s_szThingS 47 F_szThingS := Fok.mk seat (n := 8) (l := []) (S := S_szThingS) (pl := p_szThingS) in_szThingS Try.func47 (fun _ h => nomatch h) (by kernel_rfl)
def s_szNet : Sig := ⟨[.v true 3, .v false 1], [(false, [.s])]⟩
theorem ok_szNet : Fok Try.prog s_szNet 8 F_szNet := Fok.mk seat (n := 8) (l := [(46, s_szLinkS), (47, s_szThingS)]) (S := S_szNet) (pl := p_szNet) in_szNet Try.func8 (List.forall_mem_cons.2 ⟨ok_szLinkS, List.forall_mem_cons.2 ⟨ok_szThingS, fun _ h => nomatch h⟩⟩) (by kernel_rfl)
def s_szEvent : Sig := ⟨[.v true 4, .v false 1], [(false, [.s])]⟩
theorem ok_szEvent : Fok Try.prog s_szEvent 9 F_szEvent := Fok.mk seat (n := 8) (l := []) (S := S_szEvent) (pl := p_szEvent) in_szEvent Try.func9 (fun _ h => nomatch h) (by kernel_rfl)
def s_toLink : Sig := ⟨[.v true 4], [(true, [.s, .s, .s, .s])]⟩
theorem ok_toLink : Fok Try.prog s_toLink 72 F_toLink := Fok.mk seat (n := 8) (l := []) (S := S_toLink) (pl := p_toLink) in_toLink Try.func72 (fun _ h => nomatch h) (by kernel_rfl)
def s_toLinkS : Sig := ⟨[.v false 1], [(false, [.o true])]⟩
theorem ok_toLinkS : Fok Try.prog s_toLinkS 49 F_toLinkS := Fok.mk seat (n := 8) (l := [(72, s_toLink)]) (S := S_toLinkS) (pl := p_toLinkS) in_toLinkS Try.func49 (List.forall_mem_cons.2 ⟨ok_toLink, fun _ h => nomatch h⟩) (by kernel_rfl)
def s_toThing : Sig := ⟨[.v true 4], [(true, [.s, .s, .s, .s])]⟩
theorem ok_toThing : Fok Try.prog s_toThing 73 F_toThing := Fok.mk seat (n := 8) (l := []) (S := S_toThing) (pl := p_toThing) in_toThing Try.func73 (fun _ h => nomatch h) (by kernel_rfl)
def s_toThingS : Sig := ⟨[.v false 1], [(false, [.o true])]⟩
theorem ok_toThingS : Fok Try.prog s_toThingS 50 F_toThingS := Fok.mk seat (n := 8) (l := [(73, s_toThing)]) (S := S_toThingS) (pl := p_toThingS) in_toThingS Try.func50 (List.forall_mem_cons.2 ⟨ok_toThing, fun _ h => nomatch h⟩) (by kernel_rfl)
def s_toNet : Sig := ⟨[.v true 3], [(true, [.s, .o true, .o true])]⟩
theorem ok_toNet : Fok Try.prog s_toNet 11 F_toNet := Fok.mk seat (n := 8) (l := [(49, s_toLinkS), (50, s_toThingS)]) (S := S_toNet) (pl := p_toNet) in_toNet Try.func11 (List.forall_mem_cons.2 ⟨ok_toLinkS, List.forall_mem_cons.2 ⟨ok_toThingS, fun _ h => nomatch h⟩⟩) (by kernel_rfl)
def s_toEvent : Sig := ⟨[.v true 4], [(true, [.s, .s, .s, .s])]⟩
theorem ok_toEvent : Fok Try.prog s_toEvent 12 F_toEvent := Fok.mk seat (n := 8) (l := []) (S := S_toEvent) (pl := p_toEvent) in_toEvent Try.func12 (fun _ h => nomatch h) (by kernel_rfl)
def s_s_l01In : Sig := ⟨[.v false 1, .v false 1, .v false 1], [(false, [.s])]⟩
theorem ok_s_l01In : Fok Try.prog s_s_l01In 48 F_s_l01In := Fok.mk seat (n := 8) (l := []) (S := S_s_l01In) (pl := p_s_l01In) in_s_l01In Try.func48 (fun _ h => nomatch h) (by kernel_rfl)
def s_s_EventOk : Sig := ⟨[.v true 3, .v true 4], [(false, [.s])]⟩
theorem ok_s_EventOk : Fok Try.prog s_s_EventOk 10 F_s_EventOk := Fok.mk seat (n := 8) (l := [(48, s_s_l01In)]) (S := S_s_EventOk) (pl := p_s_EventOk) in_s_EventOk Try.func10 (List.forall_mem_cons.2 ⟨ok_s_l01In, fun _ h => nomatch h⟩) (by kernel_rfl)
def s_i_in : Sig := ⟨[.v false 1, .v false 1, .v false 1], [(false, [.s])]⟩
theorem ok_i_in : Fok Try.prog s_i_in 51 F_i_in := Fok.mk seat (n := 8) (l := []) (S := S_i_in) (pl := p_i_in) in_i_in Try.func51 (fun _ h => nomatch h) (by kernel_rfl)
def s_i_EventOk : Sig := ⟨[.v true 3, .v true 4], [(false, [.s])]⟩
theorem ok_i_EventOk : Fok Try.prog s_i_EventOk 13 F_i_EventOk := Fok.mk seat (n := 8) (l := [(51, s_i_in)]) (S := S_i_EventOk) (pl := p_i_EventOk) in_i_EventOk Try.func13 (List.forall_mem_cons.2 ⟨ok_i_in, fun _ h => nomatch h⟩) (by kernel_rfl)
def s_eqLink : Sig := ⟨[.v true 4, .v true 4], [(false, [.s])]⟩
theorem ok_eqLink : Fok Try.prog s_eqLink 74 F_eqLink := Fok.mk seat (n := 8) (l := []) (S := S_eqLink) (pl := p_eqLink) in_eqLink Try.func74 (fun _ h => nomatch h) (by kernel_rfl)
def s_eqLinkS : Sig := ⟨[.v false 1, .v false 1], [(false, [.s])]⟩
theorem ok_eqLinkS : Fok Try.prog s_eqLinkS 52 F_eqLinkS := Fok.mk seat (n := 8) (l := [(74, s_eqLink)]) (S := S_eqLinkS) (pl := p_eqLinkS) in_eqLinkS Try.func52 (List.forall_mem_cons.2 ⟨ok_eqLink, fun _ h => nomatch h⟩) (by kernel_rfl)
def s_eqThing : Sig := ⟨[.v true 4, .v true 4], [(false, [.s])]⟩
theorem ok_eqThing : Fok Try.prog s_eqThing 75 F_eqThing := Fok.mk seat (n := 8) (l := []) (S := S_eqThing) (pl := p_eqThing) in_eqThing Try.func75 (fun _ h => nomatch h) (by kernel_rfl)
def s_eqThingS : Sig := ⟨[.v false 1, .v false 1], [(false, [.s])]⟩
theorem ok_eqThingS : Fok Try.prog s_eqThingS 53 F_eqThingS := Fok.mk seat (n := 8) (l := [(75, s_eqThing)]) (S := S_eqThingS) (pl := p_eqThingS) in_eqThingS Try.func53 (List.forall_mem_cons.2 ⟨ok_eqThing, fun _ h => nomatch h⟩) (by kernel_rfl)
def s_eqNet : Sig := ⟨[.v true 3, .v true 3], [(false, [.s])]⟩
theorem ok_eqNet : Fok Try.prog s_eqNet 14 F_eqNet := Fok.mk seat (n := 8) (l := [(52, s_eqLinkS), (53, s_eqThingS)]) (S := S_eqNet) (pl := p_eqNet) in_eqNet Try.func14 (List.forall_mem_cons.2 ⟨ok_eqLinkS, List.forall_mem_cons.2 ⟨ok_eqThingS, fun _ h => nomatch h⟩⟩) (by kernel_rfl)
def s_FnExactEventOk : Sig := ⟨[.v true 3, .v true 4], [(false, [.s])]⟩
theorem ok_FnExactEventOk : Fok Try.prog s_FnExactEventOk 3 F_FnExactEventOk := Fok.mk seat (n := 8) (l := [(8, s_szNet), (9, s_szEvent), (10, s_s_EventOk), (11, s_toNet), (12, s_toEvent), (13, s_i_EventOk), (14, s_eqNet)]) (S := S_FnExactEventOk) (pl := p_FnExactEventOk) in_FnExactEventOk Try.func3 (List.forall_mem_cons.2 ⟨ok_szNet, List.forall_mem_cons.2 ⟨ok_szEvent, List.forall_mem_cons.2 ⟨ok_s_EventOk, List.forall_mem_cons.2 ⟨ok_toNet, List.forall_mem_cons.2 ⟨ok_toEvent, List.forall_mem_cons.2 ⟨ok_i_EventOk, List.forall_mem_cons.2 ⟨ok_eqNet, fun _ h => nomatch h⟩⟩⟩⟩⟩⟩⟩) (by kernel_rfl)
def s_szNearS : Sig := ⟨[.v false 1, .v false 1], [(false, [.s])]⟩
theorem ok_szNearS : Fok Try.prog s_szNearS 76 F_szNearS := Fok.mk seat (n := 8) (l := []) (S := S_szNearS) (pl := p_szNearS) in_szNearS Try.func76 (fun _ h => nomatch h) (by kernel_rfl)
def s_szRecord : Sig := ⟨[.v true 8, .v false 1], [(false, [.s])]⟩
theorem ok_szRecord : Fok Try.prog s_szRecord 54 F_szRecord := Fok.mk seat (n := 8) (l := [(76, s_szNearS)]) (S := S_szRecord) (pl := p_szRecord) in_szRecord Try.func54 (List.forall_mem_cons.2 ⟨ok_szNearS, fun _ h => nomatch h⟩) (by kernel_rfl)
def s_szRecordS : Sig := ⟨[.v false 1, .v false 1], [(false, [.s])]⟩
theorem ok_szRecordS : Fok Try.prog s_szRecordS 15 F_szRecordS := Fok.mk seat (n := 8) (l := [(54, s_szRecord)]) (S := S_szRecordS) (pl := p_szRecordS) in_szRecordS Try.func15 (List.forall_mem_cons.2 ⟨ok_szRecord, fun _ h => nomatch h⟩) (by kernel_rfl)
def s_toNear : Sig := ⟨[.v true 2], [(true, [.s, .s])]⟩
theorem ok_toNear : Fok Try.prog s_toNear 83 F_toNear := Fok.mk seat (n := 8) (l := []) (S := S_toNear) (pl := p_toNear) in_toNear Try.func83 (fun _ h => nomatch h) (by kernel_rfl)
def s_toNearS : Sig := ⟨[.v false 1], [(false, [.o true])]⟩
theorem ok_toNearS : Fok Try.prog s_toNearS 78 F_toNearS := Fok.mk seat (n := 8) (l := [(83, s_toNear)]) (S := S_toNearS) (pl := p_toNearS) in_toNearS Try.func78 (List.forall_mem_cons.2 ⟨ok_toNear, fun _ h => nomatch h⟩) (by kernel_rfl)
def s_toRecord : Sig := ⟨[.v true 8], [(true, [.s, .s, .s, .s, .s, .o true, .s, .s])]⟩
theorem ok_toRecord : Fok Try.prog s_toRecord 56 F_toRecord := Fok.mk seat (n := 8) (l := [(78, s_toNearS)]) (S := S_toRecord) (pl := p_toRecord) in_toRecord Try.func56 (List.forall_mem_cons.2 ⟨ok_toNearS, fun _ h => nomatch h⟩) (by kernel_rfl)
def s_toRecordS : Sig := ⟨[.v false 1], [(false, [.o true])]⟩
theorem ok_toRecordS : Fok Try.prog s_toRecordS 17 F_toRecordS := Fok.mk seat (n := 8) (l := [(56, s_toRecord)]) (S := S_toRecordS) (pl := p_toRecordS) in_toRecordS Try.func17 (List.forall_mem_cons.2 ⟨ok_toRecord, fun _ h => nomatch h⟩) (by kernel_rfl)
def s_s_SameKey : Sig := ⟨[.v true 8, .v true 8], [(false, [.s])]⟩
theorem ok_s_SameKey : Fok Try.prog s_s_SameKey 77 F_s_SameKey := Fok.mk seat (n := 8) (l := []) (S := S_s_SameKey) (pl := p_s_SameKey) in_s_SameKey Try.func77 (fun _ h => nomatch h) (by kernel_rfl)
def s_s_SameBody : Sig := ⟨[.v true 8, .v true 8], [(false, [.s])]⟩
theorem ok_s_SameBody : Fok Try.prog s_s_SameBody 55 F_s_SameBody := Fok.mk seat (n := 8) (l := [(77, s_s_SameKey)]) (S := S_s_SameBody) (pl := p_s_SameBody) in_s_SameBody Try.func55 (List.forall_mem_cons.2 ⟨ok_s_SameKey, fun _ h => nomatch h⟩) (by kernel_rfl)
def s_s_TrueTold : Sig := ⟨[.v false 1, .v false 1], [(false, [.s])]⟩
theorem ok_s_TrueTold : Fok Try.prog s_s_TrueTold 16 F_s_TrueTold := Fok.mk seat (n := 8) (l := [(55, s_s_SameBody)]) (S := S_s_TrueTold) (pl := p_s_TrueTold) in_s_TrueTold Try.func16 (List.forall_mem_cons.2 ⟨ok_s_SameBody, fun _ h => nomatch h⟩) (by kernel_rfl)
def s_i_SameKey : Sig := ⟨[.v true 8, .v true 8], [(false, [.s])]⟩
theorem ok_i_SameKey : Fok Try.prog s_i_SameKey 79 F_i_SameKey := Fok.mk seat (n := 8) (l := []) (S := S_i_SameKey) (pl := p_i_SameKey) in_i_SameKey Try.func79 (fun _ h => nomatch h) (by kernel_rfl)
def s_i_SameBody : Sig := ⟨[.v true 8, .v true 8], [(false, [.s])]⟩
theorem ok_i_SameBody : Fok Try.prog s_i_SameBody 57 F_i_SameBody := Fok.mk seat (n := 8) (l := [(79, s_i_SameKey)]) (S := S_i_SameBody) (pl := p_i_SameBody) in_i_SameBody Try.func57 (List.forall_mem_cons.2 ⟨ok_i_SameKey, fun _ h => nomatch h⟩) (by kernel_rfl)
def s_i_TrueTold : Sig := ⟨[.v false 1, .v false 1], [(false, [.s])]⟩
theorem ok_i_TrueTold : Fok Try.prog s_i_TrueTold 18 F_i_TrueTold := Fok.mk seat (n := 8) (l := [(57, s_i_SameBody)]) (S := S_i_TrueTold) (pl := p_i_TrueTold) in_i_TrueTold Try.func18 (List.forall_mem_cons.2 ⟨ok_i_SameBody, fun _ h => nomatch h⟩) (by kernel_rfl)
def s_eqNear : Sig := ⟨[.v true 2, .v true 2], [(false, [.s])]⟩
theorem ok_eqNear : Fok Try.prog s_eqNear 84 F_eqNear := Fok.mk seat (n := 8) (l := []) (S := S_eqNear) (pl := p_eqNear) in_eqNear Try.func84 (fun _ h => nomatch h) (by kernel_rfl)
def s_eqNearS : Sig := ⟨[.v false 1, .v false 1], [(false, [.s])]⟩
theorem ok_eqNearS : Fok Try.prog s_eqNearS 80 F_eqNearS := Fok.mk seat (n := 8) (l := [(84, s_eqNear)]) (S := S_eqNearS) (pl := p_eqNearS) in_eqNearS Try.func80 (List.forall_mem_cons.2 ⟨ok_eqNear, fun _ h => nomatch h⟩) (by kernel_rfl)
def s_eqRecord : Sig := ⟨[.v true 8, .v true 8], [(false, [.s])]⟩
theorem ok_eqRecord : Fok Try.prog s_eqRecord 58 F_eqRecord := Fok.mk seat (n := 8) (l := [(80, s_eqNearS)]) (S := S_eqRecord) (pl := p_eqRecord) in_eqRecord Try.func58 (List.forall_mem_cons.2 ⟨ok_eqNearS, fun _ h => nomatch h⟩) (by kernel_rfl)
def s_eqRecordS : Sig := ⟨[.v false 1, .v false 1], [(false, [.s])]⟩
theorem ok_eqRecordS : Fok Try.prog s_eqRecordS 19 F_eqRecordS := Fok.mk seat (n := 8) (l := [(58, s_eqRecord)]) (S := S_eqRecordS) (pl := p_eqRecordS) in_eqRecordS Try.func19 (List.forall_mem_cons.2 ⟨ok_eqRecord, fun _ h => nomatch h⟩) (by kernel_rfl)
def s_FnExactTrueTold : Sig := ⟨[.v false 1, .v false 1], [(false, [.s])]⟩
theorem ok_FnExactTrueTold : Fok Try.prog s_FnExactTrueTold 4 F_FnExactTrueTold := Fok.mk seat (n := 8) (l := [(15, s_szRecordS), (16, s_s_TrueTold), (17, s_toRecordS), (18, s_i_TrueTold), (19, s_eqRecordS)]) (S := S_FnExactTrueTold) (pl := p_FnExactTrueTold) in_FnExactTrueTold Try.func4 (List.forall_mem_cons.2 ⟨ok_szRecordS, List.forall_mem_cons.2 ⟨ok_s_TrueTold, List.forall_mem_cons.2 ⟨ok_toRecordS, List.forall_mem_cons.2 ⟨ok_i_TrueTold, List.forall_mem_cons.2 ⟨ok_eqRecordS, fun _ h => nomatch h⟩⟩⟩⟩⟩) (by kernel_rfl)
def s_szIntS : Sig := ⟨[.v false 1, .v false 1], [(false, [.s])]⟩
theorem ok_szIntS : Fok Try.prog s_szIntS 81 F_szIntS := Fok.mk seat (n := 8) (l := []) (S := S_szIntS) (pl := p_szIntS) in_szIntS Try.func81 (fun _ h => nomatch h) (by kernel_rfl)
def s_szRoute : Sig := ⟨[.v true 6, .v false 1], [(false, [.s])]⟩
theorem ok_szRoute : Fok Try.prog s_szRoute 61 F_szRoute := Fok.mk seat (n := 8) (l := [(81, s_szIntS)]) (S := S_szRoute) (pl := p_szRoute) in_szRoute Try.func61 (List.forall_mem_cons.2 ⟨ok_szIntS, fun _ h => nomatch h⟩) (by kernel_rfl)
def s_szRouteS : Sig := ⟨[.v false 1, .v false 1], [(false, [.s])]⟩
theorem ok_szRouteS : Fok Try.prog s_szRouteS 30 F_szRouteS := Fok.mk seat (n := 8) (l := [(61, s_szRoute)]) (S := S_szRouteS) (pl := p_szRouteS) in_szRouteS Try.func30 (List.forall_mem_cons.2 ⟨ok_szRoute, fun _ h => nomatch h⟩) (by kernel_rfl)
def s_toIntS : Sig := ⟨[.v false 1], [(false, [.o true])]⟩
theorem ok_toIntS : Fok Try.prog s_toIntS 23 F_toIntS := Fok.mk seat (n := 8) (l := []) (S := S_toIntS) (pl := p_toIntS) in_toIntS Try.func23 (fun _ h => nomatch h) (by kernel_rfl)
def s_toRoute : Sig := ⟨[.v true 6], [(true, [.s, .s, .s, .s, .s, .o true])]⟩
theorem ok_toRoute : Fok Try.prog s_toRoute 63 F_toRoute := Fok.mk seat (n := 8) (l := [(23, s_toIntS)]) (S := S_toRoute) (pl := p_toRoute) in_toRoute Try.func63 (List.forall_mem_cons.2 ⟨ok_toIntS, fun _ h => nomatch h⟩) (by kernel_rfl)
def s_toRouteS : Sig := ⟨[.v false 1], [(false, [.o true])]⟩
theorem ok_toRouteS : Fok Try.prog s_toRouteS 32 F_toRouteS := Fok.mk seat (n := 8) (l := [(63, s_toRoute)]) (S := S_toRouteS) (pl := p_toRouteS) in_toRouteS Try.func32 (List.forall_mem_cons.2 ⟨ok_toRoute, fun _ h => nomatch h⟩) (by kernel_rfl)
def s_s_l11At : Sig := ⟨[.v false 1, .v true 3], [(false, [.s])]⟩
theorem ok_s_l11At : Fok Try.prog s_s_l11At 59 F_s_l11At := Fok.mk seat (n := 8) (l := []) (S := S_s_l11At) (pl := p_s_l11At) in_s_l11At Try.func59 (fun _ h => nomatch h) (by kernel_rfl)
def s_s_l11Copy : Sig := ⟨[.v true 3], [(true, [.s, .s, .o true])]⟩
theorem ok_s_l11Copy : Fok Try.prog s_s_l11Copy 62 F_s_l11Copy := Fok.mk seat (n := 8) (l := []) (S := S_s_l11Copy) (pl := p_s_l11Copy) in_s_l11Copy Try.func62 (fun _ h => nomatch h) (by kernel_rfl)
def s_s_TableOf : Sig := ⟨[.v false 1], [(false, [.o true])]⟩
theorem ok_s_TableOf : Fok Try.prog s_s_TableOf 31 F_s_TableOf := Fok.mk seat (n := 8) (l := [(59, s_s_l11At), (62, s_s_l11Copy)]) (S := S_s_TableOf) (pl := p_s_TableOf) in_s_TableOf Try.func31 (List.forall_mem_cons.2 ⟨ok_s_l11At, List.forall_mem_cons.2 ⟨ok_s_l11Copy, fun _ h => nomatch h⟩⟩) (by kernel_rfl)
def s_i_lineAt : Sig := ⟨[.v false 1, .v true 3], [(false, [.s])]⟩
theorem ok_i_lineAt : Fok Try.prog s_i_lineAt 60 F_i_lineAt := Fok.mk seat (n := 8) (l := []) (S := S_i_lineAt) (pl := p_i_lineAt) in_i_lineAt Try.func60 (fun _ h => nomatch h) (by kernel_rfl)
def s_i_copyInts : Sig := ⟨[.v false 1], [(false, [.o true])]⟩
theorem ok_i_copyInts : Fok Try.prog s_i_copyInts 82 F_i_copyInts := Fok.mk seat (n := 8) (l := []) (S := S_i_copyInts) (pl := p_i_copyInts) in_i_copyInts Try.func82 (fun _ h => nomatch h) (by kernel_rfl)
def s_i_copyLine : Sig := ⟨[.v true 3], [(true, [.s, .s, .o true])]⟩
theorem ok_i_copyLine : Fok Try.prog s_i_copyLine 64 F_i_copyLine := Fok.mk seat (n := 8) (l := [(82, s_i_copyInts)]) (S := S_i_copyLine) (pl := p_i_copyLine) in_i_copyLine Try.func64 (List.forall_mem_cons.2 ⟨ok_i_copyInts, fun _ h => nomatch h⟩) (by kernel_rfl)
def s_i_TableOf : Sig := ⟨[.v false 1], [(false, [.o true])]⟩
theorem ok_i_TableOf : Fok Try.prog s_i_TableOf 33 F_i_TableOf := Fok.mk seat (n := 8) (l := [(60, s_i_lineAt), (64, s_i_copyLine)]) (S := S_i_TableOf) (pl := p_i_TableOf) in_i_TableOf Try.func33 (List.forall_mem_cons.2 ⟨ok_i_lineAt, List.forall_mem_cons.2 ⟨ok_i_copyLine, fun _ h => nomatch h⟩⟩) (by kernel_rfl)
def s_eqIntS : Sig := ⟨[.v false 1, .v false 1], [(false, [.s])]⟩
theorem ok_eqIntS : Fok Try.prog s_eqIntS 25 F_eqIntS := Fok.mk seat (n := 8) (l := []) (S := S_eqIntS) (pl := p_eqIntS) in_eqIntS Try.func25 (fun _ h => nomatch h) (by kernel_rfl)
def s_eqLine : Sig := ⟨[.v true 3, .v true 3], [(false, [.s])]⟩
theorem ok_eqLine : Fok Try.prog s_eqLine 65 F_eqLine := Fok.mk seat (n := 8) (l := [(25, s_eqIntS)]) (S := S_eqLine) (pl := p_eqLine) in_eqLine Try.func65 (List.forall_mem_cons.2 ⟨ok_eqIntS, fun _ h => nomatch h⟩) (by kernel_rfl)
def s_eqLineS : Sig := ⟨[.v false 1, .v false 1], [(false, [.s])]⟩
theorem ok_eqLineS : Fok Try.prog s_eqLineS 34 F_eqLineS := Fok.mk seat (n := 8) (l := [(65, s_eqLine)]) (S := S_eqLineS) (pl := p_eqLineS) in_eqLineS Try.func34 (List.forall_mem_cons.2 ⟨ok_eqLine, fun _ h => nomatch h⟩) (by kernel_rfl)
def s_eqRoute : Sig := ⟨[.v true 6, .v true 6], [(false, [.s])]⟩
theorem ok_eqRoute : Fok Try.prog s_eqRoute 66 F_eqRoute := Fok.mk seat (n := 8) (l := [(25, s_eqIntS)]) (S := S_eqRoute) (pl := p_eqRoute) in_eqRoute Try.func66 (List.forall_mem_cons.2 ⟨ok_eqIntS, fun _ h => nomatch h⟩) (by kernel_rfl)
def s_eqRouteS : Sig := ⟨[.v false 1, .v false 1], [(false, [.s])]⟩
theorem ok_eqRouteS : Fok Try.prog s_eqRouteS 35 F_eqRouteS := Fok.mk seat (n := 8) (l := [(66, s_eqRoute)]) (S := S_eqRouteS) (pl := p_eqRouteS) in_eqRouteS Try.func35 (List.forall_mem_cons.2 ⟨ok_eqRoute, fun _ h => nomatch h⟩) (by kernel_rfl)
def s_heldIntS : Sig := ⟨[.v false 1, .v false 1], [(false, [.s])]⟩
theorem ok_heldIntS : Fok Try.prog s_heldIntS 29 F_heldIntS := Fok.mk seat (n := 8) (l := []) (S := S_heldIntS) (pl := p_heldIntS) in_heldIntS Try.func29 (fun _ h => nomatch h) (by kernel_rfl)
def s_heldLineS : Sig := ⟨[.v false 1, .v false 1], [(false, [.s])]⟩
theorem ok_heldLineS : Fok Try.prog s_heldLineS 38 F_heldLineS := Fok.mk seat (n := 8) (l := [(29, s_heldIntS)]) (S := S_heldLineS) (pl := p_heldLineS) in_heldLineS Try.func38 (List.forall_mem_cons.2 ⟨ok_heldIntS, fun _ h => nomatch h⟩) (by kernel_rfl)
def s_FnExactTableOf : Sig := ⟨[.v false 1], [(false, [.s])]⟩
theorem ok_FnExactTableOf : Fok Try.prog s_FnExactTableOf 6 F_FnExactTableOf := Fok.mk seat (n := 8) (l := [(30, s_szRouteS), (31, s_s_TableOf), (32, s_toRouteS), (33, s_i_TableOf), (34, s_eqLineS), (35, s_eqRouteS), (38, s_heldLineS)]) (S := S_FnExactTableOf) (pl := p_FnExactTableOf) in_FnExactTableOf Try.func6 (List.forall_mem_cons.2 ⟨ok_szRouteS, List.forall_mem_cons.2 ⟨ok_s_TableOf, List.forall_mem_cons.2 ⟨ok_toRouteS, List.forall_mem_cons.2 ⟨ok_i_TableOf, List.forall_mem_cons.2 ⟨ok_eqLineS, List.forall_mem_cons.2 ⟨ok_eqRouteS, List.forall_mem_cons.2 ⟨ok_heldLineS, fun _ h => nomatch h⟩⟩⟩⟩⟩⟩⟩) (by kernel_rfl)
def s_szLine : Sig := ⟨[.v true 3, .v false 1], [(false, [.s])]⟩
theorem ok_szLine : Fok Try.prog s_szLine 67 F_szLine := Fok.mk seat (n := 8) (l := [(81, s_szIntS)]) (S := S_szLine) (pl := p_szLine) in_szLine Try.func67 (List.forall_mem_cons.2 ⟨ok_szIntS, fun _ h => nomatch h⟩) (by kernel_rfl)
def s_szLineS : Sig := ⟨[.v false 1, .v false 1], [(false, [.s])]⟩
theorem ok_szLineS : Fok Try.prog s_szLineS 39 F_szLineS := Fok.mk seat (n := 8) (l := [(67, s_szLine)]) (S := S_szLineS) (pl := p_szLineS) in_szLineS Try.func39 (List.forall_mem_cons.2 ⟨ok_szLine, fun _ h => nomatch h⟩) (by kernel_rfl)
def s_toLine : Sig := ⟨[.v true 3], [(true, [.s, .s, .o true])]⟩
theorem ok_toLine : Fok Try.prog s_toLine 69 F_toLine := Fok.mk seat (n := 8) (l := [(23, s_toIntS)]) (S := S_toLine) (pl := p_toLine) in_toLine Try.func69 (List.forall_mem_cons.2 ⟨ok_toIntS, fun _ h => nomatch h⟩) (by kernel_rfl)
def s_toLineS : Sig := ⟨[.v false 1], [(false, [.o true])]⟩
theorem ok_toLineS : Fok Try.prog s_toLineS 41 F_toLineS := Fok.mk seat (n := 8) (l := [(69, s_toLine)]) (S := S_toLineS) (pl := p_toLineS) in_toLineS Try.func41 (List.forall_mem_cons.2 ⟨ok_toLine, fun _ h => nomatch h⟩) (by kernel_rfl)
def s_s_l10SameInts : Sig := ⟨[.v false 1, .v false 1], [(false, [.s])]⟩
theorem ok_s_l10SameInts : Fok Try.prog s_s_l10SameInts 68 F_s_l10SameInts := Fok.mk seat (n := 8) (l := []) (S := S_s_l10SameInts) (pl := p_s_l10SameInts) in_s_l10SameInts Try.func68 (fun _ h => nomatch h) (by kernel_rfl)
def s_s_Differ : Sig := ⟨[.v false 1, .v false 1], [(false, [.o true])]⟩
theorem ok_s_Differ : Fok Try.prog s_s_Differ 40 F_s_Differ := Fok.mk seat (n := 8) (l := [(59, s_s_l11At), (62, s_s_l11Copy), (68, s_s_l10SameInts)]) (S := S_s_Differ) (pl := p_s_Differ) in_s_Differ Try.func40 (List.forall_mem_cons.2 ⟨ok_s_l11At, List.forall_mem_cons.2 ⟨ok_s_l11Copy, List.forall_mem_cons.2 ⟨ok_s_l10SameInts, fun _ h => nomatch h⟩⟩⟩) (by kernel_rfl)
def s_i_sameInts : Sig := ⟨[.v false 1, .v false 1], [(false, [.s])]⟩
theorem ok_i_sameInts : Fok Try.prog s_i_sameInts 70 F_i_sameInts := Fok.mk seat (n := 8) (l := []) (S := S_i_sameInts) (pl := p_i_sameInts) in_i_sameInts Try.func70 (fun _ h => nomatch h) (by kernel_rfl)
def s_i_Differ : Sig := ⟨[.v false 1, .v false 1], [(false, [.o true])]⟩
theorem ok_i_Differ : Fok Try.prog s_i_Differ 42 F_i_Differ := Fok.mk seat (n := 8) (l := [(60, s_i_lineAt), (64, s_i_copyLine), (70, s_i_sameInts)]) (S := S_i_Differ) (pl := p_i_Differ) in_i_Differ Try.func42 (List.forall_mem_cons.2 ⟨ok_i_lineAt, List.forall_mem_cons.2 ⟨ok_i_copyLine, List.forall_mem_cons.2 ⟨ok_i_sameInts, fun _ h => nomatch h⟩⟩⟩) (by kernel_rfl)
def s_eqTurn : Sig := ⟨[.v true 4, .v true 4], [(false, [.s])]⟩
theorem ok_eqTurn : Fok Try.prog s_eqTurn 71 F_eqTurn := Fok.mk seat (n := 8) (l := [(65, s_eqLine)]) (S := S_eqTurn) (pl := p_eqTurn) in_eqTurn Try.func71 (List.forall_mem_cons.2 ⟨ok_eqLine, fun _ h => nomatch h⟩) (by kernel_rfl)
def s_eqTurnS : Sig := ⟨[.v false 1, .v false 1], [(false, [.s])]⟩
theorem ok_eqTurnS : Fok Try.prog s_eqTurnS 43 F_eqTurnS := Fok.mk seat (n := 8) (l := [(71, s_eqTurn)]) (S := S_eqTurnS) (pl := p_eqTurnS) in_eqTurnS Try.func43 (List.forall_mem_cons.2 ⟨ok_eqTurn, fun _ h => nomatch h⟩) (by kernel_rfl)
def s_heldTurnS : Sig := ⟨[.v false 1, .v false 1], [(false, [.s])]⟩
theorem ok_heldTurnS : Fok Try.prog s_heldTurnS 45 F_heldTurnS := Fok.mk seat (n := 8) (l := [(29, s_heldIntS)]) (S := S_heldTurnS) (pl := p_heldTurnS) in_heldTurnS Try.func45 (List.forall_mem_cons.2 ⟨ok_heldIntS, fun _ h => nomatch h⟩) (by kernel_rfl)
def s_FnExactDiffer : Sig := ⟨[.v false 1, .v false 1], [(false, [.s])]⟩
theorem ok_FnExactDiffer : Fok Try.prog s_FnExactDiffer 7 F_FnExactDiffer := Fok.mk seat (n := 8) (l := [(34, s_eqLineS), (39, s_szLineS), (40, s_s_Differ), (41, s_toLineS), (42, s_i_Differ), (43, s_eqTurnS), (45, s_heldTurnS)]) (S := S_FnExactDiffer) (pl := p_FnExactDiffer) in_FnExactDiffer Try.func7 (List.forall_mem_cons.2 ⟨ok_eqLineS, List.forall_mem_cons.2 ⟨ok_szLineS, List.forall_mem_cons.2 ⟨ok_s_Differ, List.forall_mem_cons.2 ⟨ok_toLineS, List.forall_mem_cons.2 ⟨ok_i_Differ, List.forall_mem_cons.2 ⟨ok_eqTurnS, List.forall_mem_cons.2 ⟨ok_heldTurnS, fun _ h => nomatch h⟩⟩⟩⟩⟩⟩⟩) (by kernel_rfl)
def s_szLineSS : Sig := ⟨[.v false 1, .v false 1], [(false, [.s])]⟩
theorem ok_szLineSS : Fok Try.prog s_szLineSS 20 F_szLineSS := Fok.mk seat (n := 8) (l := [(39, s_szLineS)]) (S := S_szLineSS) (pl := p_szLineSS) in_szLineSS Try.func20 (List.forall_mem_cons.2 ⟨ok_szLineS, fun _ h => nomatch h⟩) (by kernel_rfl)
def s_toLineSS : Sig := ⟨[.v false 1], [(false, [.o true])]⟩
theorem ok_toLineSS : Fok Try.prog s_toLineSS 22 F_toLineSS := Fok.mk seat (n := 8) (l := [(41, s_toLineS)]) (S := S_toLineSS) (pl := p_toLineSS) in_toLineSS Try.func22 (List.forall_mem_cons.2 ⟨ok_toLineS, fun _ h => nomatch h⟩) (by kernel_rfl)
def s_s_Walk : Sig := ⟨[.v false 1, .v false 1, .v false 1, .v false 1], [(false, [.o true]), (false, [.s])]⟩
theorem ok_s_Walk : Fok Try.prog s_s_Walk 21 F_s_Walk := Fok.mk seat (n := 8) (l := [(48, s_s_l01In), (59, s_s_l11At)]) (S := S_s_Walk) (pl := p_s_Walk) in_s_Walk Try.func21 (List.forall_mem_cons.2 ⟨ok_s_l01In, List.forall_mem_cons.2 ⟨ok_s_l11At, fun _ h => nomatch h⟩⟩) (by kernel_rfl)
def s_i_Walk : Sig := ⟨[.v false 1, .v false 1, .v false 1, .v false 1], [(false, [.o true]), (false, [.s])]⟩
theorem ok_i_Walk : Fok Try.prog s_i_Walk 24 F_i_Walk := Fok.mk seat (n := 8) (l := [(51, s_i_in), (60, s_i_lineAt)]) (S := S_i_Walk) (pl := p_i_Walk) in_i_Walk Try.func24 (List.forall_mem_cons.2 ⟨ok_i_in, List.forall_mem_cons.2 ⟨ok_i_lineAt, fun _ h => nomatch h⟩⟩) (by kernel_rfl)
def s_eqLineSS : Sig := ⟨[.v false 1, .v false 1], [(false, [.s])]⟩
theorem ok_eqLineSS : Fok Try.prog s_eqLineSS 26 F_eqLineSS := Fok.mk seat (n := 8) (l := [(34, s_eqLineS)]) (S := S_eqLineSS) (pl := p_eqLineSS) in_eqLineSS Try.func26 (List.forall_mem_cons.2 ⟨ok_eqLineS, fun _ h => nomatch h⟩) (by kernel_rfl)
def s_FnExactWalk : Sig := ⟨[.v false 1, .v false 1, .v false 1, .v false 1], [(false, [.s])]⟩
theorem ok_FnExactWalk : Fok Try.prog s_FnExactWalk 5 F_FnExactWalk := Fok.mk seat (n := 8) (l := [(20, s_szLineSS), (21, s_s_Walk), (22, s_toLineSS), (23, s_toIntS), (24, s_i_Walk), (25, s_eqIntS), (26, s_eqLineSS), (29, s_heldIntS)]) (S := S_FnExactWalk) (pl := p_FnExactWalk) in_FnExactWalk Try.func5 (List.forall_mem_cons.2 ⟨ok_szLineSS, List.forall_mem_cons.2 ⟨ok_s_Walk, List.forall_mem_cons.2 ⟨ok_toLineSS, List.forall_mem_cons.2 ⟨ok_toIntS, List.forall_mem_cons.2 ⟨ok_i_Walk, List.forall_mem_cons.2 ⟨ok_eqIntS, List.forall_mem_cons.2 ⟨ok_eqLineSS, List.forall_mem_cons.2 ⟨ok_heldIntS, fun _ h => nomatch h⟩⟩⟩⟩⟩⟩⟩⟩) (by kernel_rfl)
end Go.Proofs.YtmljdpfdpeiniaaWA

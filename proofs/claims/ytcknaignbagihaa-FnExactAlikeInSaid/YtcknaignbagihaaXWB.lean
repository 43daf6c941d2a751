/- The walk: each function does as its plain program says (printed by a program). Conditions: none. -/
import Derived.Test.YtcknaignbagihaaChecked
import Derived.Test.YtcknaignbagihaaKd
import Derived.Test.YtcknaignbagihaaXPB
namespace Go.Proofs.YtcknaignbagihaaWB
open Go.Proofs.YtcknaignbagihaaC
def lty : List (Nat × TI) := [
  (3, ⟨1, 8, false, [.p (.k (.int .i64 0))], 0, [], 1⟩),
  (4, ⟨1, 1, false, [.p (.k (.bool false))], 0, [], 4⟩),
  (22, ⟨1, 24, false, [.n], 83, [], 3⟩),
  (26, ⟨1, 24, false, [.n], 86, [], 3⟩),
  (33, ⟨1, 24, false, [.n], 3, [], 3⟩),
  (39, ⟨1, 24, false, [.n], 170, [], 3⟩),
  (40, ⟨1, 24, false, [.n], 174, [], 3⟩),
  (42, ⟨3, 56, true, [.p (.k (.int .i64 0)), .n, .n], 0, [(0, 1), (1, 1), (2, 1)], 0⟩),
  (43, ⟨1, 24, false, [.n], 4, [], 3⟩),
  (44, ⟨1, 24, false, [.n], 65, [], 3⟩),
  (45, ⟨1, 24, false, [.n], 148, [], 3⟩),
  (47, ⟨10, 208, true, [.p (.k (.int .i64 0)), .n, .n, .n, .n, .n, .n, .n, .n, .p (.k (.int .i64 0))], 0, [(0, 3), (3, 1), (4, 1), (5, 1), (6, 1), (7, 1), (8, 1), (9, 1)], 0⟩),
  (50, ⟨1, 24, false, [.n], 160, [], 3⟩),
  (51, ⟨1, 24, false, [.n], 172, [], 3⟩),
  (53, ⟨3, 56, true, [.p (.k (.int .i64 0)), .n, .n], 0, [(0, 1), (1, 1), (2, 1)], 0⟩),
  (54, ⟨1, 24, false, [.n], 72, [], 3⟩),
  (55, ⟨1, 24, false, [.n], 152, [], 3⟩),
  (57, ⟨10, 208, true, [.p (.k (.int .i64 0)), .n, .n, .n, .n, .n, .n, .n, .n, .p (.k (.int .i64 0))], 0, [(0, 3), (3, 1), (4, 1), (5, 1), (6, 1), (7, 1), (8, 1), (9, 1)], 0⟩),
  (62, ⟨7, 120, true, [.p (.k (.int .i64 0)), .p (.k (.int .i64 0)), .p (.k (.int .i64 0)), .n, .n, .n, .n], 0, [(0, 1), (1, 1), (2, 3), (5, 1), (6, 1)], 0⟩),
  (63, ⟨1, 24, false, [.n], 162, [], 3⟩),
  (65, ⟨8, 144, true, [.p (.k (.int .i64 0)), .p (.k (.int .i64 0)), .p (.k (.int .i64 0)), .n, .n, .n, .n, .n], 0, [(0, 7), (7, 1)], 0⟩),
  (69, ⟨7, 120, true, [.p (.k (.int .i64 0)), .p (.k (.int .i64 0)), .p (.k (.int .i64 0)), .n, .n, .n, .n], 0, [(0, 1), (1, 1), (2, 3), (5, 1), (6, 1)], 0⟩),
  (70, ⟨1, 24, false, [.n], 126, [], 3⟩),
  (72, ⟨8, 144, true, [.p (.k (.int .i64 0)), .p (.k (.int .i64 0)), .p (.k (.int .i64 0)), .n, .n, .n, .n, .n], 0, [(0, 7), (7, 1)], 0⟩),
  (81, ⟨1, 24, false, [.n], 166, [], 3⟩),
  (83, ⟨8, 80, true, [.p (.k (.int .i64 0)), .p (.k (.int .i64 0)), .p (.k (.int .i64 0)), .p (.k (.int .i64 0)), .p (.k (.int .i64 0)), .n, .p (.k (.int .i64 0)), .p (.k (.bool false))], 0, [(0, 1), (1, 1), (2, 1), (3, 1), (4, 1), (5, 1), (6, 1), (7, 1)], 0⟩),
  (84, ⟨1, 24, false, [.n], 139, [], 3⟩),
  (86, ⟨8, 80, true, [.p (.k (.int .i64 0)), .p (.k (.int .i64 0)), .p (.k (.int .i64 0)), .p (.k (.int .i64 0)), .p (.k (.int .i64 0)), .n, .p (.k (.int .i64 0)), .p (.k (.bool false))], 0, [(0, 1), (1, 1), (2, 1), (3, 1), (4, 1), (5, 1), (6, 1), (7, 1)], 0⟩),
  (126, ⟨4, 32, true, [.p (.k (.int .i64 0)), .p (.k (.int .i64 0)), .p (.k (.int .i64 0)), .p (.k (.bool false))], 0, [(0, 1), (1, 1), (2, 1), (3, 1)], 5⟩),
  (139, ⟨2, 16, true, [.p (.k (.int .i64 0)), .p (.k (.int .i64 0))], 0, [(0, 1), (1, 1)], 5⟩),
  (148, ⟨6, 80, true, [.p (.k (.int .i64 0)), .p (.k (.int .i64 0)), .p (.k (.int .i64 0)), .p (.k (.int .i64 0)), .n, .n], 0, [(0, 1), (1, 1), (2, 1), (3, 1), (4, 1), (5, 1)], 0⟩),
  (152, ⟨6, 80, true, [.p (.k (.int .i64 0)), .p (.k (.int .i64 0)), .p (.k (.int .i64 0)), .p (.k (.int .i64 0)), .n, .n], 0, [(0, 1), (1, 1), (2, 1), (3, 1), (4, 1), (5, 1)], 0⟩),
  (160, ⟨4, 32, true, [.p (.k (.int .i64 0)), .p (.k (.int .i64 0)), .p (.k (.int .i64 0)), .p (.k (.int .i64 0))], 0, [(0, 1), (1, 1), (2, 1), (3, 1)], 5⟩),
  (162, ⟨4, 32, true, [.p (.k (.int .i64 0)), .p (.k (.int .i64 0)), .p (.k (.int .i64 0)), .p (.k (.bool false))], 0, [(0, 1), (1, 1), (2, 1), (3, 1)], 5⟩),
  (166, ⟨2, 16, true, [.p (.k (.int .i64 0)), .p (.k (.int .i64 0))], 0, [(0, 1), (1, 1)], 5⟩),
  (170, ⟨4, 32, true, [.p (.k (.int .i64 0)), .p (.k (.int .i64 0)), .p (.k (.int .i64 0)), .p (.k (.int .i64 0))], 0, [(0, 1), (1, 1), (2, 1), (3, 1)], 5⟩),
  (172, ⟨4, 32, true, [.p (.k (.int .i64 0)), .p (.k (.int .i64 0)), .p (.k (.int .i64 0)), .p (.k (.bool false))], 0, [(0, 1), (1, 1), (2, 1), (3, 1)], 5⟩),
  (174, ⟨4, 32, true, [.p (.k (.int .i64 0)), .p (.k (.int .i64 0)), .p (.k (.int .i64 0)), .p (.k (.bool false))], 0, [(0, 1), (1, 1), (2, 1), (3, 1)], 5⟩)]
def lhint : List ((Nat × Nat × Nat) × Js) := [
  ((9, 0, 0), [(1, false, .phi false [.p]), (4, false, .phi false [.p]), (5, false, .phi false [.p])]),
  ((59, 0, 0), [(1, false, .phi false [.p]), (4, false, .phi false [.p]), (5, false, .phi false [.p])]),
  ((60, 0, 0), [(1, false, .phi false [.p]), (4, false, .phi false [.p]), (5, false, .phi false [.p])]),
  ((115, 0, 0), [(4, false, .phi false [.p]), (7, false, .rows [(0, true)])]),
  ((116, 0, 0), [(4, false, .phi false [.p]), (7, false, .rows [(0, true)])]),
  ((63, 0, 0), [(4, false, .phi false [.p]), (7, false, .rows [(0, true)])]),
  ((19, 0, 0), [(4, false, .phi false [.p]), (7, false, .rows [(0, true)])]),
  ((100, 0, 0), [(4, false, .phi false [.p]), (7, false, .rows [(0, true)])]),
  ((11, 0, 0), [(4, false, .phi false [.p]), (7, false, .rows [(0, true)])]),
  ((79, 0, 0), [(4, false, .phi false [.p]), (7, false, .rows [(0, true)])]),
  ((64, 0, 0), [(4, false, .phi false [.p]), (7, false, .rows [(0, true)])]),
  ((65, 0, 0), [(4, false, .phi false [.p]), (7, false, .rows [(0, true)])]),
  ((114, 0, 0), [(4, false, .phi false [.p]), (5, false, .phi false [.p])]),
  ((61, 0, 0), [(4, false, .phi false [.p]), (5, false, .phi false [.p])]),
  ((61, 0, 2), [(6, false, .phi false [.p]), (7, false, .phi false [.p])]),
  ((24, 0, 0), [(2, false, .phi false [.p]), (3, false, .phi false [.p])]),
  ((118, 0, 0), [(4, false, .phi false [.p]), (36, false, .phi false [.p])]),
  ((67, 0, 0), [(4, false, .phi false [.p]), (12, false, .phi false [.p])]),
  ((67, 0, 2), [(7, false, .phi false [.p]), (18, false, .phi false [.p])]),
  ((26, 0, 0), [(2, false, .phi false [.p]), (8, false, .phi false [.p]), (1, true, .phi true [.p, .p, .p, .p, .p, .p, .p, .p, .p, .p])]),
  ((119, 0, 0), [(4, false, .phi false [.p]), (5, false, .phi false [.p])]),
  ((120, 0, 0), [(4, false, .phi false [.p]), (5, false, .phi false [.p])]),
  ((69, 0, 0), [(4, false, .phi false [.p]), (5, false, .phi false [.p])]),
  ((21, 0, 0), [(4, false, .phi false [.p]), (5, false, .phi false [.p])]),
  ((107, 0, 0), [(4, false, .phi false [.p]), (5, false, .phi false [.p])]),
  ((14, 0, 0), [(4, false, .phi false [.p]), (5, false, .phi false [.p])]),
  ((85, 0, 0), [(4, false, .phi false [.p]), (5, false, .phi false [.p])]),
  ((70, 0, 0), [(4, false, .phi false [.p]), (5, false, .phi false [.p])]),
  ((71, 0, 0), [(4, false, .phi false [.p]), (5, false, .phi false [.p])]),
  ((122, 0, 0), [(2, false, .phi false [.p]), (3, false, .phi false [.p])]),
  ((122, 0, 2), [(2, false, .phi false [.p]), (4, false, .phi false [.p])]),
  ((75, 0, 0), [(8, false, .phi false [.p]), (9, false, .phi false [.p])]),
  ((123, 0, 0), [(2, false, .phi false [.p]), (3, false, .phi false [.p])]),
  ((132, 0, 0), [(2, false, .phi false [.p]), (3, false, .phi false [.p])]),
  ((39, 0, 0), [(2, false, .phi false [.p]), (3, false, .phi false [.p])]),
  ((77, 0, 0), [(3, false, .phi false [.o true]), (4, false, .phi false [.p])]),
  ((77, 2, 16), [(3, false, .phi false [.o true])]),
  ((76, 0, 0), [(4, false, .phi false [.p]), (5, false, .phi false [.p])]),
  ((29, 0, 0), [(2, false, .phi false [.p]), (3, false, .phi false [.p]), (5, false, .phi false [.p])]),
  ((29, 0, 2), [(2, false, .phi false [.p]), (3, false, .phi false [.p]), (6, false, .phi false [.p])]),
  ((125, 0, 0), [(2, false, .phi false [.p]), (26, false, .phi false [.p])]),
  ((125, 0, 2), [(2, false, .phi false [.p]), (55, false, .phi false [.p])]),
  ((127, 0, 0), [(8, false, .phi false [.p]), (14, false, .phi false [.p])]),
  ((126, 0, 0), [(2, false, .phi false [.p]), (3, false, .phi false [.p])]),
  ((134, 0, 0), [(2, false, .phi false [.p]), (8, false, .phi false [.p])]),
  ((44, 0, 0), [(2, false, .phi false [.p]), (7, false, .phi false [.p])]),
  ((81, 0, 0), [(5, false, .phi false [.o true]), (6, false, .phi false [.p])]),
  ((81, 0, 2), [(5, false, .phi false [.o true]), (7, false, .phi false [.p])]),
  ((81, 2, 23), [(5, false, .phi false [.o true])]),
  ((83, 0, 0), [(3, false, .phi false [.o true]), (8, false, .phi false [.p])]),
  ((83, 2, 13), [(3, false, .phi false [.o true])]),
  ((82, 0, 0), [(4, false, .phi false [.p]), (13, false, .phi false [.p])]),
  ((31, 0, 0), [(2, false, .phi false [.p]), (26, false, .phi false [.p])]),
  ((88, 0, 0), [(6, false, .phi false [.p]), (8, false, .phi false [.p])]),
  ((90, 0, 0), [(5, false, .phi false [.o true]), (6, false, .phi false [.p])]),
  ((90, 2, 28), [(5, false, .phi false [.o true])]),
  ((89, 0, 0), [(4, false, .phi false [.p]), (5, false, .phi false [.p])]),
  ((35, 0, 0), [(4, false, .phi false [.p]), (5, false, .phi false [.p])]),
  ((35, 0, 2), [(4, false, .phi false [.p]), (6, false, .phi false [.p])]),
  ((91, 0, 0), [(6, false, .phi false [.p]), (7, false, .phi false [.p])]),
  ((93, 0, 0), [(5, false, .phi false [.o true]), (10, false, .phi false [.p])]),
  ((93, 2, 22), [(5, false, .phi false [.o true])]),
  ((92, 0, 0), [(4, false, .phi false [.p]), (13, false, .phi false [.p])]),
  ((36, 0, 0), [(4, false, .phi false [.p]), (12, false, .phi false [.p]), (2, true, .phi true [.p, .p, .p, .p, .p, .p, .p, .p, .p, .p])]),
  ((36, 0, 2), [(4, false, .phi false [.p]), (22, false, .phi false [.p]), (2, true, .phi true [.p, .p, .p, .p, .p, .p, .p, .p, .p, .p])])]
def lfz : List (Nat × Nat × Nat) := []
def lnest : List Nat := [5, 6, 8]
noncomputable def lfn : List (Nat × Func) := []
noncomputable def cx : Cx := { ty := tiOf lty, sg := fun _ => none, fn := fnOf lfn, hint := hintOf lhint, fz := fzOf lfz, nest := memN lnest }
theorem in_szLinkS : FnIn Try.prog 111 := .mk Try.func111 (by kernel_rfl) (by kernel_rfl)
theorem in_szThingS : FnIn Try.prog 112 := .mk Try.func112 (by kernel_rfl) (by kernel_rfl)
theorem in_szNet : FnIn Try.prog 56 := .mk Try.func56 (by kernel_rfl) (by kernel_rfl)
theorem in_szBoolS : FnIn Try.prog 57 := .mk Try.func57 (by kernel_rfl) (by kernel_rfl)
theorem in_szIntS : FnIn Try.prog 58 := .mk Try.func58 (by kernel_rfl) (by kernel_rfl)
theorem in_szNearS : FnIn Try.prog 94 := .mk Try.func94 (by kernel_rfl) (by kernel_rfl)
theorem in_szRecord : FnIn Try.prog 37 := .mk Try.func37 (by kernel_rfl) (by kernel_rfl)
theorem in_szRecordS : FnIn Try.prog 9 := .mk Try.func9 (by kernel_rfl) (by kernel_rfl)
theorem in_szSelf : FnIn Try.prog 72 := .mk Try.func72 (by kernel_rfl) (by kernel_rfl)
theorem in_szEarS : FnIn Try.prog 73 := .mk Try.func73 (by kernel_rfl) (by kernel_rfl)
theorem in_szNode : FnIn Try.prog 28 := .mk Try.func28 (by kernel_rfl) (by kernel_rfl)
theorem in_szNodeS : FnIn Try.prog 59 := .mk Try.func59 (by kernel_rfl) (by kernel_rfl)
theorem in_szPacket : FnIn Try.prog 113 := .mk Try.func113 (by kernel_rfl) (by kernel_rfl)
theorem in_szPacketS : FnIn Try.prog 60 := .mk Try.func60 (by kernel_rfl) (by kernel_rfl)
theorem in_szWorld : FnIn Try.prog 23 := .mk Try.func23 (by kernel_rfl) (by kernel_rfl)
theorem in_toLink : FnIn Try.prog 138 := .mk Try.func138 (by kernel_rfl) (by kernel_rfl)
theorem in_toLinkS : FnIn Try.prog 115 := .mk Try.func115 (by kernel_rfl) (by kernel_rfl)
theorem in_toThing : FnIn Try.prog 139 := .mk Try.func139 (by kernel_rfl) (by kernel_rfl)
theorem in_toThingS : FnIn Try.prog 116 := .mk Try.func116 (by kernel_rfl) (by kernel_rfl)
theorem in_toNet : FnIn Try.prog 62 := .mk Try.func62 (by kernel_rfl) (by kernel_rfl)
theorem in_toBoolS : FnIn Try.prog 63 := .mk Try.func63 (by kernel_rfl) (by kernel_rfl)
theorem in_toIntS : FnIn Try.prog 19 := .mk Try.func19 (by kernel_rfl) (by kernel_rfl)
theorem in_toNear : FnIn Try.prog 133 := .mk Try.func133 (by kernel_rfl) (by kernel_rfl)
theorem in_toNearS : FnIn Try.prog 100 := .mk Try.func100 (by kernel_rfl) (by kernel_rfl)
theorem in_toRecord : FnIn Try.prog 43 := .mk Try.func43 (by kernel_rfl) (by kernel_rfl)
theorem in_toRecordS : FnIn Try.prog 11 := .mk Try.func11 (by kernel_rfl) (by kernel_rfl)
theorem in_toSelf : FnIn Try.prog 78 := .mk Try.func78 (by kernel_rfl) (by kernel_rfl)
theorem in_toEar : FnIn Try.prog 124 := .mk Try.func124 (by kernel_rfl) (by kernel_rfl)
theorem in_toEarS : FnIn Try.prog 79 := .mk Try.func79 (by kernel_rfl) (by kernel_rfl)
theorem in_toNode : FnIn Try.prog 30 := .mk Try.func30 (by kernel_rfl) (by kernel_rfl)
theorem in_toNodeS : FnIn Try.prog 64 := .mk Try.func64 (by kernel_rfl) (by kernel_rfl)
theorem in_toPacket : FnIn Try.prog 117 := .mk Try.func117 (by kernel_rfl) (by kernel_rfl)
theorem in_toPacketS : FnIn Try.prog 65 := .mk Try.func65 (by kernel_rfl) (by kernel_rfl)
theorem in_toWorld : FnIn Try.prog 25 := .mk Try.func25 (by kernel_rfl) (by kernel_rfl)
theorem in_s_SameKey : FnIn Try.prog 131 := .mk Try.func131 (by kernel_rfl) (by kernel_rfl)
theorem in_s_SameBody : FnIn Try.prog 114 := .mk Try.func114 (by kernel_rfl) (by kernel_rfl)
theorem in_s_TrueTold : FnIn Try.prog 61 := .mk Try.func61 (by kernel_rfl) (by kernel_rfl)
theorem in_s_AllTrue : FnIn Try.prog 24 := .mk Try.func24 (by kernel_rfl) (by kernel_rfl)
theorem in_i_in : FnIn Try.prog 45 := .mk Try.func45 (by kernel_rfl) (by kernel_rfl)
theorem in_i_World_up : FnIn Try.prog 66 := .mk Try.func66 (by kernel_rfl) (by kernel_rfl)
theorem in_i_SameKey : FnIn Try.prog 103 := .mk Try.func103 (by kernel_rfl) (by kernel_rfl)
theorem in_i_SameBody : FnIn Try.prog 118 := .mk Try.func118 (by kernel_rfl) (by kernel_rfl)
theorem in_i_TrueTold : FnIn Try.prog 67 := .mk Try.func67 (by kernel_rfl) (by kernel_rfl)
theorem in_i_AllTrue : FnIn Try.prog 26 := .mk Try.func26 (by kernel_rfl) (by kernel_rfl)
theorem in_eqLink : FnIn Try.prog 140 := .mk Try.func140 (by kernel_rfl) (by kernel_rfl)
theorem in_eqLinkS : FnIn Try.prog 119 := .mk Try.func119 (by kernel_rfl) (by kernel_rfl)
theorem in_eqThing : FnIn Try.prog 141 := .mk Try.func141 (by kernel_rfl) (by kernel_rfl)
theorem in_eqThingS : FnIn Try.prog 120 := .mk Try.func120 (by kernel_rfl) (by kernel_rfl)
theorem in_eqNet : FnIn Try.prog 68 := .mk Try.func68 (by kernel_rfl) (by kernel_rfl)
theorem in_eqBoolS : FnIn Try.prog 69 := .mk Try.func69 (by kernel_rfl) (by kernel_rfl)
theorem in_eqIntS : FnIn Try.prog 21 := .mk Try.func21 (by kernel_rfl) (by kernel_rfl)
theorem in_eqNear : FnIn Try.prog 137 := .mk Try.func137 (by kernel_rfl) (by kernel_rfl)
theorem in_eqNearS : FnIn Try.prog 107 := .mk Try.func107 (by kernel_rfl) (by kernel_rfl)
theorem in_eqRecord : FnIn Try.prog 50 := .mk Try.func50 (by kernel_rfl) (by kernel_rfl)
theorem in_eqRecordS : FnIn Try.prog 14 := .mk Try.func14 (by kernel_rfl) (by kernel_rfl)
theorem in_eqSelf : FnIn Try.prog 84 := .mk Try.func84 (by kernel_rfl) (by kernel_rfl)
theorem in_eqEar : FnIn Try.prog 128 := .mk Try.func128 (by kernel_rfl) (by kernel_rfl)
theorem in_eqEarS : FnIn Try.prog 85 := .mk Try.func85 (by kernel_rfl) (by kernel_rfl)
theorem in_eqNode : FnIn Try.prog 32 := .mk Try.func32 (by kernel_rfl) (by kernel_rfl)
theorem in_eqNodeS : FnIn Try.prog 70 := .mk Try.func70 (by kernel_rfl) (by kernel_rfl)
theorem in_eqPacket : FnIn Try.prog 121 := .mk Try.func121 (by kernel_rfl) (by kernel_rfl)
theorem in_eqPacketS : FnIn Try.prog 71 := .mk Try.func71 (by kernel_rfl) (by kernel_rfl)
theorem in_eqWorld : FnIn Try.prog 27 := .mk Try.func27 (by kernel_rfl) (by kernel_rfl)
theorem in_FnExactAllTrue : FnIn Try.prog 5 := .mk Try.func5 (by kernel_rfl) (by kernel_rfl)
theorem in_s_l01In : FnIn Try.prog 40 := .mk Try.func40 (by kernel_rfl) (by kernel_rfl)
theorem in_s_LinkOk : FnIn Try.prog 142 := .mk Try.func142 (by kernel_rfl) (by kernel_rfl)
theorem in_s_l03Ahead : FnIn Try.prog 143 := .mk Try.func143 (by kernel_rfl) (by kernel_rfl)
theorem in_s_l03Thing : FnIn Try.prog 144 := .mk Try.func144 (by kernel_rfl) (by kernel_rfl)
theorem in_s_NetOk : FnIn Try.prog 122 := .mk Try.func122 (by kernel_rfl) (by kernel_rfl)
theorem in_s_CostTo : FnIn Try.prog 75 := .mk Try.func75 (by kernel_rfl) (by kernel_rfl)
theorem in_s_l08Heard : FnIn Try.prog 123 := .mk Try.func123 (by kernel_rfl) (by kernel_rfl)
theorem in_s_l04Near : FnIn Try.prog 132 := .mk Try.func132 (by kernel_rfl) (by kernel_rfl)
theorem in_s_RecordOk : FnIn Try.prog 96 := .mk Try.func96 (by kernel_rfl) (by kernel_rfl)
theorem in_s_Before : FnIn Try.prog 97 := .mk Try.func97 (by kernel_rfl) (by kernel_rfl)
theorem in_s_StoreOk : FnIn Try.prog 39 := .mk Try.func39 (by kernel_rfl) (by kernel_rfl)
theorem in_s_SelfOk : FnIn Try.prog 74 := .mk Try.func74 (by kernel_rfl) (by kernel_rfl)
theorem in_s_l10Heard : FnIn Try.prog 77 := .mk Try.func77 (by kernel_rfl) (by kernel_rfl)
theorem in_s_l10SameInts : FnIn Try.prog 76 := .mk Try.func76 (by kernel_rfl) (by kernel_rfl)
theorem in_s_NodeOk : FnIn Try.prog 29 := .mk Try.func29 (by kernel_rfl) (by kernel_rfl)
theorem in_i_LinkOk : FnIn Try.prog 145 := .mk Try.func145 (by kernel_rfl) (by kernel_rfl)
theorem in_i_ahead : FnIn Try.prog 146 := .mk Try.func146 (by kernel_rfl) (by kernel_rfl)
theorem in_i_less : FnIn Try.prog 147 := .mk Try.func147 (by kernel_rfl) (by kernel_rfl)
theorem in_i_NetOk : FnIn Try.prog 125 := .mk Try.func125 (by kernel_rfl) (by kernel_rfl)
theorem in_i_linkAt : FnIn Try.prog 127 := .mk Try.func127 (by kernel_rfl) (by kernel_rfl)
theorem in_i_heardOk : FnIn Try.prog 126 := .mk Try.func126 (by kernel_rfl) (by kernel_rfl)
theorem in_i_nearOk : FnIn Try.prog 134 := .mk Try.func134 (by kernel_rfl) (by kernel_rfl)
theorem in_i_RecordOk : FnIn Try.prog 101 := .mk Try.func101 (by kernel_rfl) (by kernel_rfl)
theorem in_i_Before : FnIn Try.prog 102 := .mk Try.func102 (by kernel_rfl) (by kernel_rfl)
theorem in_i_StoreOk : FnIn Try.prog 44 := .mk Try.func44 (by kernel_rfl) (by kernel_rfl)
theorem in_i_SelfOk : FnIn Try.prog 80 := .mk Try.func80 (by kernel_rfl) (by kernel_rfl)
theorem in_i_earsOf : FnIn Try.prog 81 := .mk Try.func81 (by kernel_rfl) (by kernel_rfl)
theorem in_i_heardBy : FnIn Try.prog 83 := .mk Try.func83 (by kernel_rfl) (by kernel_rfl)
theorem in_i_sameInts : FnIn Try.prog 82 := .mk Try.func82 (by kernel_rfl) (by kernel_rfl)
theorem in_i_NodeOk : FnIn Try.prog 31 := .mk Try.func31 (by kernel_rfl) (by kernel_rfl)
theorem in_FnExactNodeOk : FnIn Try.prog 6 := .mk Try.func6 (by kernel_rfl) (by kernel_rfl)
theorem in_s_l13Hears : FnIn Try.prog 88 := .mk Try.func88 (by kernel_rfl) (by kernel_rfl)
theorem in_s_l04Copy : FnIn Try.prog 129 := .mk Try.func129 (by kernel_rfl) (by kernel_rfl)
theorem in_s_Scope : FnIn Try.prog 90 := .mk Try.func90 (by kernel_rfl) (by kernel_rfl)
theorem in_s_l13SameStore : FnIn Try.prog 89 := .mk Try.func89 (by kernel_rfl) (by kernel_rfl)
theorem in_s_AlikeIn : FnIn Try.prog 35 := .mk Try.func35 (by kernel_rfl) (by kernel_rfl)
theorem in_i_hears : FnIn Try.prog 91 := .mk Try.func91 (by kernel_rfl) (by kernel_rfl)
theorem in_i_copyRecord : FnIn Try.prog 130 := .mk Try.func130 (by kernel_rfl) (by kernel_rfl)
theorem in_i_Scope : FnIn Try.prog 93 := .mk Try.func93 (by kernel_rfl) (by kernel_rfl)
theorem in_i_sameRecords : FnIn Try.prog 92 := .mk Try.func92 (by kernel_rfl) (by kernel_rfl)
theorem in_i_AlikeIn : FnIn Try.prog 36 := .mk Try.func36 (by kernel_rfl) (by kernel_rfl)
theorem in_FnExactAlikeIn : FnIn Try.prog 8 := .mk Try.func8 (by kernel_rfl) (by kernel_rfl)
theorem seat : Seat Try.prog cx := ⟨tys_ok (l := lty) (by kernel_rfl) rfl, into_of (l := lfn) (fun _ h => nomatch h) rfl, by kernel_rfl⟩
def s_szLinkS : Sig := ⟨[.v false 1, .v false 1], [(false, [.s])]⟩
theorem ok_szLinkS : Fok Try.prog s_szLinkS 111 F_szLinkS := Fok.mk seat (n := 8) (l := []) (S := S_szLinkS) (pl := p_szLinkS) in_szLinkS Try.func111 (fun _ h => nomatch h) (by kernel_rfl)
def s_szThingS : Sig := ⟨[.v false 1, .v false 1], [(false, [.s])]⟩
theorem ok_szThingS : Fok Try.prog s_szThingS 112 F_szThingS := Fok.mk seat (n := 8) (l := []) (S := S_szThingS) (pl := p_szThingS) in_szThingS Try.func112 (fun _ h => nomatch h) (by kernel_rfl)
def s_szNet : Sig := ⟨[.v true 3, .v false 1], [(false, [.s])]⟩
theorem ok_szNet : Fok Try.prog s_szNet 56 F_szNet := Fok.mk seat (n := 8) (l := [(111, s_szLinkS), (112, s_szThingS)]) (S := S_szNet) (pl := p_szNet) in_szNet Try.func56 (List.forall_mem_cons.2 ⟨ok_szLinkS, List.forall_mem_cons.2 ⟨ok_szThingS, fun _ h => nomatch h⟩⟩) (by kernel_rfl)
def s_szBoolS : Sig := ⟨[.v false 1, .v false 1], [(false, [.s])]⟩
theorem ok_szBoolS : Fok Try.prog s_szBoolS 57 F_szBoolS := Fok.mk seat (n := 8) (l := []) (S := S_szBoolS) (pl := p_szBoolS) in_szBoolS Try.func57 (fun _ h => nomatch h) (by kernel_rfl)
def s_szIntS : Sig := ⟨[.v false 1, .v false 1], [(false, [.s])]⟩
theorem ok_szIntS : Fok Try.prog s_szIntS 58 F_szIntS := Fok.mk seat (n := 8) (l := []) (S := S_szIntS) (pl := p_szIntS) in_szIntS Try.func58 (fun _ h => nomatch h) (by kernel_rfl)
def s_szNearS : Sig := ⟨[.v false 1, .v false 1], [(false, [.s])]⟩
theorem ok_szNearS : Fok Try.prog s_szNearS 94 F_szNearS := Fok.mk seat (n := 8) (l := []) (S := S_szNearS) (pl := p_szNearS) in_szNearS Try.func94 (fun _ h => nomatch h) (by kernel_rfl)
def s_szRecord : Sig := ⟨[.v true 8, .v false 1], [(false, [.s])]⟩
theorem ok_szRecord : Fok Try.prog s_szRecord 37 F_szRecord := Fok.mk seat (n := 8) (l := [(94, s_szNearS)]) (S := S_szRecord) (pl := p_szRecord) in_szRecord Try.func37 (List.forall_mem_cons.2 ⟨ok_szNearS, fun _ h => nomatch h⟩) (by kernel_rfl)
def s_szRecordS : Sig := ⟨[.v false 1, .v false 1], [(false, [.s])]⟩
theorem ok_szRecordS : Fok Try.prog s_szRecordS 9 F_szRecordS := Fok.mk seat (n := 8) (l := [(37, s_szRecord)]) (S := S_szRecordS) (pl := p_szRecordS) in_szRecordS Try.func9 (List.forall_mem_cons.2 ⟨ok_szRecord, fun _ h => nomatch h⟩) (by kernel_rfl)
def s_szSelf : Sig := ⟨[.v true 7, .v false 1], [(false, [.s])]⟩
theorem ok_szSelf : Fok Try.prog s_szSelf 72 F_szSelf := Fok.mk seat (n := 8) (l := [(9, s_szRecordS), (56, s_szNet), (58, s_szIntS)]) (S := S_szSelf) (pl := p_szSelf) in_szSelf Try.func72 (List.forall_mem_cons.2 ⟨ok_szRecordS, List.forall_mem_cons.2 ⟨ok_szNet, List.forall_mem_cons.2 ⟨ok_szIntS, fun _ h => nomatch h⟩⟩⟩) (by kernel_rfl)
def s_szEarS : Sig := ⟨[.v false 1, .v false 1], [(false, [.s])]⟩
theorem ok_szEarS : Fok Try.prog s_szEarS 73 F_szEarS := Fok.mk seat (n := 8) (l := []) (S := S_szEarS) (pl := p_szEarS) in_szEarS Try.func73 (fun _ h => nomatch h) (by kernel_rfl)
def s_szNode : Sig := ⟨[.v true 8, .v false 1], [(false, [.s])]⟩
theorem ok_szNode : Fok Try.prog s_szNode 28 F_szNode := Fok.mk seat (n := 8) (l := [(72, s_szSelf), (73, s_szEarS)]) (S := S_szNode) (pl := p_szNode) in_szNode Try.func28 (List.forall_mem_cons.2 ⟨ok_szSelf, List.forall_mem_cons.2 ⟨ok_szEarS, fun _ h => nomatch h⟩⟩) (by kernel_rfl)
def s_szNodeS : Sig := ⟨[.v false 1, .v false 1], [(false, [.s])]⟩
theorem ok_szNodeS : Fok Try.prog s_szNodeS 59 F_szNodeS := Fok.mk seat (n := 8) (l := [(28, s_szNode)]) (S := S_szNodeS) (pl := p_szNodeS) in_szNodeS Try.func59 (List.forall_mem_cons.2 ⟨ok_szNode, fun _ h => nomatch h⟩) (by kernel_rfl)
def s_szPacket : Sig := ⟨[.v true 6, .v false 1], [(false, [.s])]⟩
theorem ok_szPacket : Fok Try.prog s_szPacket 113 F_szPacket := Fok.mk seat (n := 8) (l := [(9, s_szRecordS), (58, s_szIntS)]) (S := S_szPacket) (pl := p_szPacket) in_szPacket Try.func113 (List.forall_mem_cons.2 ⟨ok_szRecordS, List.forall_mem_cons.2 ⟨ok_szIntS, fun _ h => nomatch h⟩⟩) (by kernel_rfl)
def s_szPacketS : Sig := ⟨[.v false 1, .v false 1], [(false, [.s])]⟩
theorem ok_szPacketS : Fok Try.prog s_szPacketS 60 F_szPacketS := Fok.mk seat (n := 8) (l := [(113, s_szPacket)]) (S := S_szPacketS) (pl := p_szPacketS) in_szPacketS Try.func60 (List.forall_mem_cons.2 ⟨ok_szPacket, fun _ h => nomatch h⟩) (by kernel_rfl)
def s_szWorld : Sig := ⟨[.v true 10, .v false 1], [(false, [.s])]⟩
theorem ok_szWorld : Fok Try.prog s_szWorld 23 F_szWorld := Fok.mk seat (n := 8) (l := [(9, s_szRecordS), (56, s_szNet), (57, s_szBoolS), (58, s_szIntS), (59, s_szNodeS), (60, s_szPacketS)]) (S := S_szWorld) (pl := p_szWorld) in_szWorld Try.func23 (List.forall_mem_cons.2 ⟨ok_szRecordS, List.forall_mem_cons.2 ⟨ok_szNet, List.forall_mem_cons.2 ⟨ok_szBoolS, List.forall_mem_cons.2 ⟨ok_szIntS, List.forall_mem_cons.2 ⟨ok_szNodeS, List.forall_mem_cons.2 ⟨ok_szPacketS, fun _ h => nomatch h⟩⟩⟩⟩⟩⟩) (by kernel_rfl)
def s_toLink : Sig := ⟨[.v true 4], [(true, [.s, .s, .s, .s])]⟩
theorem ok_toLink : Fok Try.prog s_toLink 138 F_toLink := Fok.mk seat (n := 8) (l := []) (S := S_toLink) (pl := p_toLink) in_toLink Try.func138 (fun _ h => nomatch h) (by kernel_rfl)
def s_toLinkS : Sig := ⟨[.v false 1], [(false, [.o true])]⟩
theorem ok_toLinkS : Fok Try.prog s_toLinkS 115 F_toLinkS := Fok.mk seat (n := 8) (l := [(138, s_toLink)]) (S := S_toLinkS) (pl := p_toLinkS) in_toLinkS Try.func115 (List.forall_mem_cons.2 ⟨ok_toLink, fun _ h => nomatch h⟩) (by kernel_rfl)
def s_toThing : Sig := ⟨[.v true 4], [(true, [.s, .s, .s, .s])]⟩
theorem ok_toThing : Fok Try.prog s_toThing 139 F_toThing := Fok.mk seat (n := 8) (l := []) (S := S_toThing) (pl := p_toThing) in_toThing Try.func139 (fun _ h => nomatch h) (by kernel_rfl)
def s_toThingS : Sig := ⟨[.v false 1], [(false, [.o true])]⟩
theorem ok_toThingS : Fok Try.prog s_toThingS 116 F_toThingS := Fok.mk seat (n := 8) (l := [(139, s_toThing)]) (S := S_toThingS) (pl := p_toThingS) in_toThingS Try.func116 (List.forall_mem_cons.2 ⟨ok_toThing, fun _ h => nomatch h⟩) (by kernel_rfl)
def s_toNet : Sig := ⟨[.v true 3], [(true, [.s, .o true, .o true])]⟩
theorem ok_toNet : Fok Try.prog s_toNet 62 F_toNet := Fok.mk seat (n := 8) (l := [(115, s_toLinkS), (116, s_toThingS)]) (S := S_toNet) (pl := p_toNet) in_toNet Try.func62 (List.forall_mem_cons.2 ⟨ok_toLinkS, List.forall_mem_cons.2 ⟨ok_toThingS, fun _ h => nomatch h⟩⟩) (by kernel_rfl)
def s_toBoolS : Sig := ⟨[.v false 1], [(false, [.o true])]⟩
theorem ok_toBoolS : Fok Try.prog s_toBoolS 63 F_toBoolS := Fok.mk seat (n := 8) (l := []) (S := S_toBoolS) (pl := p_toBoolS) in_toBoolS Try.func63 (fun _ h => nomatch h) (by kernel_rfl)
def s_toIntS : Sig := ⟨[.v false 1], [(false, [.o true])]⟩
theorem ok_toIntS : Fok Try.prog s_toIntS 19 F_toIntS := Fok.mk seat (n := 8) (l := []) (S := S_toIntS) (pl := p_toIntS) in_toIntS Try.func19 (fun _ h => nomatch h) (by kernel_rfl)
def s_toNear : Sig := ⟨[.v true 2], [(true, [.s, .s])]⟩
theorem ok_toNear : Fok Try.prog s_toNear 133 F_toNear := Fok.mk seat (n := 8) (l := []) (S := S_toNear) (pl := p_toNear) in_toNear Try.func133 (fun _ h => nomatch h) (by kernel_rfl)
def s_toNearS : Sig := ⟨[.v false 1], [(false, [.o true])]⟩
theorem ok_toNearS : Fok Try.prog s_toNearS 100 F_toNearS := Fok.mk seat (n := 8) (l := [(133, s_toNear)]) (S := S_toNearS) (pl := p_toNearS) in_toNearS Try.func100 (List.forall_mem_cons.2 ⟨ok_toNear, fun _ h => nomatch h⟩) (by kernel_rfl)
def s_toRecord : Sig := ⟨[.v true 8], [(true, [.s, .s, .s, .s, .s, .o true, .s, .s])]⟩
theorem ok_toRecord : Fok Try.prog s_toRecord 43 F_toRecord := Fok.mk seat (n := 8) (l := [(100, s_toNearS)]) (S := S_toRecord) (pl := p_toRecord) in_toRecord Try.func43 (List.forall_mem_cons.2 ⟨ok_toNearS, fun _ h => nomatch h⟩) (by kernel_rfl)
def s_toRecordS : Sig := ⟨[.v false 1], [(false, [.o true])]⟩
theorem ok_toRecordS : Fok Try.prog s_toRecordS 11 F_toRecordS := Fok.mk seat (n := 8) (l := [(43, s_toRecord)]) (S := S_toRecordS) (pl := p_toRecordS) in_toRecordS Try.func11 (List.forall_mem_cons.2 ⟨ok_toRecord, fun _ h => nomatch h⟩) (by kernel_rfl)
def s_toSelf : Sig := ⟨[.v true 7], [(true, [.s, .s, .s, .o true, .o true, .o true, .o true])]⟩
theorem ok_toSelf : Fok Try.prog s_toSelf 78 F_toSelf := Fok.mk seat (n := 8) (l := [(11, s_toRecordS), (19, s_toIntS), (62, s_toNet)]) (S := S_toSelf) (pl := p_toSelf) in_toSelf Try.func78 (List.forall_mem_cons.2 ⟨ok_toRecordS, List.forall_mem_cons.2 ⟨ok_toIntS, List.forall_mem_cons.2 ⟨ok_toNet, fun _ h => nomatch h⟩⟩⟩) (by kernel_rfl)
def s_toEar : Sig := ⟨[.v true 4], [(true, [.s, .s, .s, .s])]⟩
theorem ok_toEar : Fok Try.prog s_toEar 124 F_toEar := Fok.mk seat (n := 8) (l := []) (S := S_toEar) (pl := p_toEar) in_toEar Try.func124 (fun _ h => nomatch h) (by kernel_rfl)
def s_toEarS : Sig := ⟨[.v false 1], [(false, [.o true])]⟩
theorem ok_toEarS : Fok Try.prog s_toEarS 79 F_toEarS := Fok.mk seat (n := 8) (l := [(124, s_toEar)]) (S := S_toEarS) (pl := p_toEarS) in_toEarS Try.func79 (List.forall_mem_cons.2 ⟨ok_toEar, fun _ h => nomatch h⟩) (by kernel_rfl)
def s_toNode : Sig := ⟨[.v true 8], [(true, [.s, .s, .s, .o true, .o true, .o true, .o true, .o true])]⟩
theorem ok_toNode : Fok Try.prog s_toNode 30 F_toNode := Fok.mk seat (n := 8) (l := [(78, s_toSelf), (79, s_toEarS)]) (S := S_toNode) (pl := p_toNode) in_toNode Try.func30 (List.forall_mem_cons.2 ⟨ok_toSelf, List.forall_mem_cons.2 ⟨ok_toEarS, fun _ h => nomatch h⟩⟩) (by kernel_rfl)
def s_toNodeS : Sig := ⟨[.v false 1], [(false, [.o true])]⟩
theorem ok_toNodeS : Fok Try.prog s_toNodeS 64 F_toNodeS := Fok.mk seat (n := 8) (l := [(30, s_toNode)]) (S := S_toNodeS) (pl := p_toNodeS) in_toNodeS Try.func64 (List.forall_mem_cons.2 ⟨ok_toNode, fun _ h => nomatch h⟩) (by kernel_rfl)
def s_toPacket : Sig := ⟨[.v true 6], [(true, [.s, .s, .s, .s, .o true, .o true])]⟩
theorem ok_toPacket : Fok Try.prog s_toPacket 117 F_toPacket := Fok.mk seat (n := 8) (l := [(11, s_toRecordS), (19, s_toIntS)]) (S := S_toPacket) (pl := p_toPacket) in_toPacket Try.func117 (List.forall_mem_cons.2 ⟨ok_toRecordS, List.forall_mem_cons.2 ⟨ok_toIntS, fun _ h => nomatch h⟩⟩) (by kernel_rfl)
def s_toPacketS : Sig := ⟨[.v false 1], [(false, [.o true])]⟩
theorem ok_toPacketS : Fok Try.prog s_toPacketS 65 F_toPacketS := Fok.mk seat (n := 8) (l := [(117, s_toPacket)]) (S := S_toPacketS) (pl := p_toPacketS) in_toPacketS Try.func65 (List.forall_mem_cons.2 ⟨ok_toPacket, fun _ h => nomatch h⟩) (by kernel_rfl)
def s_toWorld : Sig := ⟨[.v true 10], [(true, [.s, .o true, .o true, .o true, .o true, .o true, .o true, .o true, .o true, .s])]⟩
theorem ok_toWorld : Fok Try.prog s_toWorld 25 F_toWorld := Fok.mk seat (n := 8) (l := [(11, s_toRecordS), (19, s_toIntS), (62, s_toNet), (63, s_toBoolS), (64, s_toNodeS), (65, s_toPacketS)]) (S := S_toWorld) (pl := p_toWorld) in_toWorld Try.func25 (List.forall_mem_cons.2 ⟨ok_toRecordS, List.forall_mem_cons.2 ⟨ok_toIntS, List.forall_mem_cons.2 ⟨ok_toNet, List.forall_mem_cons.2 ⟨ok_toBoolS, List.forall_mem_cons.2 ⟨ok_toNodeS, List.forall_mem_cons.2 ⟨ok_toPacketS, fun _ h => nomatch h⟩⟩⟩⟩⟩⟩) (by kernel_rfl)
def s_s_SameKey : Sig := ⟨[.v true 8, .v true 8], [(false, [.s])]⟩
theorem ok_s_SameKey : Fok Try.prog s_s_SameKey 131 F_s_SameKey := Fok.mk seat (n := 8) (l := []) (S := S_s_SameKey) (pl := p_s_SameKey) in_s_SameKey Try.func131 (fun _ h => nomatch h) (by kernel_rfl)
def s_s_SameBody : Sig := ⟨[.v true 8, .v true 8], [(false, [.s])]⟩
theorem ok_s_SameBody : Fok Try.prog s_s_SameBody 114 F_s_SameBody := Fok.mk seat (n := 8) (l := [(131, s_s_SameKey)]) (S := S_s_SameBody) (pl := p_s_SameBody) in_s_SameBody Try.func114 (List.forall_mem_cons.2 ⟨ok_s_SameKey, fun _ h => nomatch h⟩) (by kernel_rfl)
def s_s_TrueTold : Sig := ⟨[.v false 1, .v false 1], [(false, [.s])]⟩
theorem ok_s_TrueTold : Fok Try.prog s_s_TrueTold 61 F_s_TrueTold := Fok.mk seat (n := 8) (l := [(114, s_s_SameBody)]) (S := S_s_TrueTold) (pl := p_s_TrueTold) in_s_TrueTold Try.func61 (List.forall_mem_cons.2 ⟨ok_s_SameBody, fun _ h => nomatch h⟩) (by kernel_rfl)
def s_s_AllTrue : Sig := ⟨[.v true 10], [(false, [.s])]⟩
theorem ok_s_AllTrue : Fok Try.prog s_s_AllTrue 24 F_s_AllTrue := Fok.mk seat (n := 8) (l := [(61, s_s_TrueTold)]) (S := S_s_AllTrue) (pl := p_s_AllTrue) in_s_AllTrue Try.func24 (List.forall_mem_cons.2 ⟨ok_s_TrueTold, fun _ h => nomatch h⟩) (by kernel_rfl)
def s_i_in : Sig := ⟨[.v false 1, .v false 1, .v false 1], [(false, [.s])]⟩
theorem ok_i_in : Fok Try.prog s_i_in 45 F_i_in := Fok.mk seat (n := 8) (l := []) (S := S_i_in) (pl := p_i_in) in_i_in Try.func45 (fun _ h => nomatch h) (by kernel_rfl)
def s_i_World_up : Sig := ⟨[.x 10, .v false 1], [(false, [.s])]⟩
theorem ok_i_World_up : Fok Try.prog s_i_World_up 66 F_i_World_up := Fok.mk seat (n := 8) (l := [(45, s_i_in)]) (S := S_i_World_up) (pl := p_i_World_up) in_i_World_up Try.func66 (List.forall_mem_cons.2 ⟨ok_i_in, fun _ h => nomatch h⟩) (by kernel_rfl)
def s_i_SameKey : Sig := ⟨[.v true 8, .v true 8], [(false, [.s])]⟩
theorem ok_i_SameKey : Fok Try.prog s_i_SameKey 103 F_i_SameKey := Fok.mk seat (n := 8) (l := []) (S := S_i_SameKey) (pl := p_i_SameKey) in_i_SameKey Try.func103 (fun _ h => nomatch h) (by kernel_rfl)
def s_i_SameBody : Sig := ⟨[.v true 8, .v true 8], [(false, [.s])]⟩
theorem ok_i_SameBody : Fok Try.prog s_i_SameBody 118 F_i_SameBody := Fok.mk seat (n := 8) (l := [(103, s_i_SameKey)]) (S := S_i_SameBody) (pl := p_i_SameBody) in_i_SameBody Try.func118 (List.forall_mem_cons.2 ⟨ok_i_SameKey, fun _ h => nomatch h⟩) (by kernel_rfl)
def s_i_TrueTold : Sig := ⟨[.v false 1, .v false 1], [(false, [.s])]⟩
theorem ok_i_TrueTold : Fok Try.prog s_i_TrueTold 67 F_i_TrueTold := Fok.mk seat (n := 8) (l := [(118, s_i_SameBody)]) (S := S_i_TrueTold) (pl := p_i_TrueTold) in_i_TrueTold Try.func67 (List.forall_mem_cons.2 ⟨ok_i_SameBody, fun _ h => nomatch h⟩) (by kernel_rfl)
def s_i_AllTrue : Sig := ⟨[.v true 10], [(false, [.s])]⟩
theorem ok_i_AllTrue : Fok Try.prog s_i_AllTrue 26 F_i_AllTrue := Fok.mk seat (n := 8) (l := [(66, s_i_World_up), (67, s_i_TrueTold)]) (S := S_i_AllTrue) (pl := p_i_AllTrue) in_i_AllTrue Try.func26 (List.forall_mem_cons.2 ⟨ok_i_World_up, List.forall_mem_cons.2 ⟨ok_i_TrueTold, fun _ h => nomatch h⟩⟩) (by kernel_rfl)
def s_eqLink : Sig := ⟨[.v true 4, .v true 4], [(false, [.s])]⟩
theorem ok_eqLink : Fok Try.prog s_eqLink 140 F_eqLink := Fok.mk seat (n := 8) (l := []) (S := S_eqLink) (pl := p_eqLink) in_eqLink Try.func140 (fun _ h => nomatch h) (by kernel_rfl)
def s_eqLinkS : Sig := ⟨[.v false 1, .v false 1], [(false, [.s])]⟩
theorem ok_eqLinkS : Fok Try.prog s_eqLinkS 119 F_eqLinkS := Fok.mk seat (n := 8) (l := [(140, s_eqLink)]) (S := S_eqLinkS) (pl := p_eqLinkS) in_eqLinkS Try.func119 (List.forall_mem_cons.2 ⟨ok_eqLink, fun _ h => nomatch h⟩) (by kernel_rfl)
def s_eqThing : Sig := ⟨[.v true 4, .v true 4], [(false, [.s])]⟩
theorem ok_eqThing : Fok Try.prog s_eqThing 141 F_eqThing := Fok.mk seat (n := 8) (l := []) (S := S_eqThing) (pl := p_eqThing) in_eqThing Try.func141 (fun _ h => nomatch h) (by kernel_rfl)
def s_eqThingS : Sig := ⟨[.v false 1, .v false 1], [(false, [.s])]⟩
theorem ok_eqThingS : Fok Try.prog s_eqThingS 120 F_eqThingS := Fok.mk seat (n := 8) (l := [(141, s_eqThing)]) (S := S_eqThingS) (pl := p_eqThingS) in_eqThingS Try.func120 (List.forall_mem_cons.2 ⟨ok_eqThing, fun _ h => nomatch h⟩) (by kernel_rfl)
def s_eqNet : Sig := ⟨[.v true 3, .v true 3], [(false, [.s])]⟩
theorem ok_eqNet : Fok Try.prog s_eqNet 68 F_eqNet := Fok.mk seat (n := 8) (l := [(119, s_eqLinkS), (120, s_eqThingS)]) (S := S_eqNet) (pl := p_eqNet) in_eqNet Try.func68 (List.forall_mem_cons.2 ⟨ok_eqLinkS, List.forall_mem_cons.2 ⟨ok_eqThingS, fun _ h => nomatch h⟩⟩) (by kernel_rfl)
def s_eqBoolS : Sig := ⟨[.v false 1, .v false 1], [(false, [.s])]⟩
theorem ok_eqBoolS : Fok Try.prog s_eqBoolS 69 F_eqBoolS := Fok.mk seat (n := 8) (l := []) (S := S_eqBoolS) (pl := p_eqBoolS) in_eqBoolS Try.func69 (fun _ h => nomatch h) (by kernel_rfl)
def s_eqIntS : Sig := ⟨[.v false 1, .v false 1], [(false, [.s])]⟩
theorem ok_eqIntS : Fok Try.prog s_eqIntS 21 F_eqIntS := Fok.mk seat (n := 8) (l := []) (S := S_eqIntS) (pl := p_eqIntS) in_eqIntS Try.func21 (fun _ h => nomatch h) (by kernel_rfl)
def s_eqNear : Sig := ⟨[.v true 2, .v true 2], [(false, [.s])]⟩
theorem ok_eqNear : Fok Try.prog s_eqNear 137 F_eqNear := Fok.mk seat (n := 8) (l := []) (S := S_eqNear) (pl := p_eqNear) in_eqNear Try.func137 (fun _ h => nomatch h) (by kernel_rfl)
def s_eqNearS : Sig := ⟨[.v false 1, .v false 1], [(false, [.s])]⟩
theorem ok_eqNearS : Fok Try.prog s_eqNearS 107 F_eqNearS := Fok.mk seat (n := 8) (l := [(137, s_eqNear)]) (S := S_eqNearS) (pl := p_eqNearS) in_eqNearS Try.func107 (List.forall_mem_cons.2 ⟨ok_eqNear, fun _ h => nomatch h⟩) (by kernel_rfl)
def s_eqRecord : Sig := ⟨[.v true 8, .v true 8], [(false, [.s])]⟩
theorem ok_eqRecord : Fok Try.prog s_eqRecord 50 F_eqRecord := Fok.mk seat (n := 8) (l := [(107, s_eqNearS)]) (S := S_eqRecord) (pl := p_eqRecord) in_eqRecord Try.func50 (List.forall_mem_cons.2 ⟨ok_eqNearS, fun _ h => nomatch h⟩) (by kernel_rfl)
def s_eqRecordS : Sig := ⟨[.v false 1, .v false 1], [(false, [.s])]⟩
theorem ok_eqRecordS : Fok Try.prog s_eqRecordS 14 F_eqRecordS := Fok.mk seat (n := 8) (l := [(50, s_eqRecord)]) (S := S_eqRecordS) (pl := p_eqRecordS) in_eqRecordS Try.func14 (List.forall_mem_cons.2 ⟨ok_eqRecord, fun _ h => nomatch h⟩) (by kernel_rfl)
def s_eqSelf : Sig := ⟨[.v true 7, .v true 7], [(false, [.s])]⟩
theorem ok_eqSelf : Fok Try.prog s_eqSelf 84 F_eqSelf := Fok.mk seat (n := 8) (l := [(14, s_eqRecordS), (21, s_eqIntS), (68, s_eqNet)]) (S := S_eqSelf) (pl := p_eqSelf) in_eqSelf Try.func84 (List.forall_mem_cons.2 ⟨ok_eqRecordS, List.forall_mem_cons.2 ⟨ok_eqIntS, List.forall_mem_cons.2 ⟨ok_eqNet, fun _ h => nomatch h⟩⟩⟩) (by kernel_rfl)
def s_eqEar : Sig := ⟨[.v true 4, .v true 4], [(false, [.s])]⟩
theorem ok_eqEar : Fok Try.prog s_eqEar 128 F_eqEar := Fok.mk seat (n := 8) (l := []) (S := S_eqEar) (pl := p_eqEar) in_eqEar Try.func128 (fun _ h => nomatch h) (by kernel_rfl)
def s_eqEarS : Sig := ⟨[.v false 1, .v false 1], [(false, [.s])]⟩
theorem ok_eqEarS : Fok Try.prog s_eqEarS 85 F_eqEarS := Fok.mk seat (n := 8) (l := [(128, s_eqEar)]) (S := S_eqEarS) (pl := p_eqEarS) in_eqEarS Try.func85 (List.forall_mem_cons.2 ⟨ok_eqEar, fun _ h => nomatch h⟩) (by kernel_rfl)
def s_eqNode : Sig := ⟨[.v true 8, .v true 8], [(false, [.s])]⟩
theorem ok_eqNode : Fok Try.prog s_eqNode 32 F_eqNode := Fok.mk seat (n := 8) (l := [(84, s_eqSelf), (85, s_eqEarS)]) (S := S_eqNode) (pl := p_eqNode) in_eqNode Try.func32 (List.forall_mem_cons.2 ⟨ok_eqSelf, List.forall_mem_cons.2 ⟨ok_eqEarS, fun _ h => nomatch h⟩⟩) (by kernel_rfl)
def s_eqNodeS : Sig := ⟨[.v false 1, .v false 1], [(false, [.s])]⟩
theorem ok_eqNodeS : Fok Try.prog s_eqNodeS 70 F_eqNodeS := Fok.mk seat (n := 8) (l := [(32, s_eqNode)]) (S := S_eqNodeS) (pl := p_eqNodeS) in_eqNodeS Try.func70 (List.forall_mem_cons.2 ⟨ok_eqNode, fun _ h => nomatch h⟩) (by kernel_rfl)
def s_eqPacket : Sig := ⟨[.v true 6, .v true 6], [(false, [.s])]⟩
theorem ok_eqPacket : Fok Try.prog s_eqPacket 121 F_eqPacket := Fok.mk seat (n := 8) (l := [(14, s_eqRecordS), (21, s_eqIntS)]) (S := S_eqPacket) (pl := p_eqPacket) in_eqPacket Try.func121 (List.forall_mem_cons.2 ⟨ok_eqRecordS, List.forall_mem_cons.2 ⟨ok_eqIntS, fun _ h => nomatch h⟩⟩) (by kernel_rfl)
def s_eqPacketS : Sig := ⟨[.v false 1, .v false 1], [(false, [.s])]⟩
theorem ok_eqPacketS : Fok Try.prog s_eqPacketS 71 F_eqPacketS := Fok.mk seat (n := 8) (l := [(121, s_eqPacket)]) (S := S_eqPacketS) (pl := p_eqPacketS) in_eqPacketS Try.func71 (List.forall_mem_cons.2 ⟨ok_eqPacket, fun _ h => nomatch h⟩) (by kernel_rfl)
def s_eqWorld : Sig := ⟨[.v true 10, .v true 10], [(false, [.s])]⟩
theorem ok_eqWorld : Fok Try.prog s_eqWorld 27 F_eqWorld := Fok.mk seat (n := 8) (l := [(14, s_eqRecordS), (21, s_eqIntS), (68, s_eqNet), (69, s_eqBoolS), (70, s_eqNodeS), (71, s_eqPacketS)]) (S := S_eqWorld) (pl := p_eqWorld) in_eqWorld Try.func27 (List.forall_mem_cons.2 ⟨ok_eqRecordS, List.forall_mem_cons.2 ⟨ok_eqIntS, List.forall_mem_cons.2 ⟨ok_eqNet, List.forall_mem_cons.2 ⟨ok_eqBoolS, List.forall_mem_cons.2 ⟨ok_eqNodeS, List.forall_mem_cons.2 ⟨ok_eqPacketS, fun _ h => nomatch h⟩⟩⟩⟩⟩⟩) (by kernel_rfl)
def s_FnExactAllTrue : Sig := ⟨[.v true 10], [(false, [.s])]⟩
theorem ok_FnExactAllTrue : Fok Try.prog s_FnExactAllTrue 5 F_FnExactAllTrue := Fok.mk seat (n := 8) (l := [(23, s_szWorld), (24, s_s_AllTrue), (25, s_toWorld), (26, s_i_AllTrue), (27, s_eqWorld)]) (S := S_FnExactAllTrue) (pl := p_FnExactAllTrue) in_FnExactAllTrue Try.func5 (List.forall_mem_cons.2 ⟨ok_szWorld, List.forall_mem_cons.2 ⟨ok_s_AllTrue, List.forall_mem_cons.2 ⟨ok_toWorld, List.forall_mem_cons.2 ⟨ok_i_AllTrue, List.forall_mem_cons.2 ⟨ok_eqWorld, fun _ h => nomatch h⟩⟩⟩⟩⟩) (by kernel_rfl)
def s_s_l01In : Sig := ⟨[.v false 1, .v false 1, .v false 1], [(false, [.s])]⟩
theorem ok_s_l01In : Fok Try.prog s_s_l01In 40 F_s_l01In := Fok.mk seat (n := 8) (l := []) (S := S_s_l01In) (pl := p_s_l01In) in_s_l01In Try.func40 (fun _ h => nomatch h) (by kernel_rfl)
def s_s_LinkOk : Sig := ⟨[.v false 1, .v true 4], [(false, [.s])]⟩
theorem ok_s_LinkOk : Fok Try.prog s_s_LinkOk 142 F_s_LinkOk := Fok.mk seat (n := 8) (l := [(40, s_s_l01In)]) (S := S_s_LinkOk) (pl := p_s_LinkOk) in_s_LinkOk Try.func142 (List.forall_mem_cons.2 ⟨ok_s_l01In, fun _ h => nomatch h⟩) (by kernel_rfl)
def s_s_l03Ahead : Sig := ⟨[.v true 4, .v true 4], [(false, [.s])]⟩
theorem ok_s_l03Ahead : Fok Try.prog s_s_l03Ahead 143 F_s_l03Ahead := Fok.mk seat (n := 8) (l := []) (S := S_s_l03Ahead) (pl := p_s_l03Ahead) in_s_l03Ahead Try.func143 (fun _ h => nomatch h) (by kernel_rfl)
def s_s_l03Thing : Sig := ⟨[.v true 4, .v true 4], [(false, [.s])]⟩
theorem ok_s_l03Thing : Fok Try.prog s_s_l03Thing 144 F_s_l03Thing := Fok.mk seat (n := 8) (l := []) (S := S_s_l03Thing) (pl := p_s_l03Thing) in_s_l03Thing Try.func144 (fun _ h => nomatch h) (by kernel_rfl)
def s_s_NetOk : Sig := ⟨[.v true 3], [(false, [.s])]⟩
theorem ok_s_NetOk : Fok Try.prog s_s_NetOk 122 F_s_NetOk := Fok.mk seat (n := 8) (l := [(40, s_s_l01In), (142, s_s_LinkOk), (143, s_s_l03Ahead), (144, s_s_l03Thing)]) (S := S_s_NetOk) (pl := p_s_NetOk) in_s_NetOk Try.func122 (List.forall_mem_cons.2 ⟨ok_s_l01In, List.forall_mem_cons.2 ⟨ok_s_LinkOk, List.forall_mem_cons.2 ⟨ok_s_l03Ahead, List.forall_mem_cons.2 ⟨ok_s_l03Thing, fun _ h => nomatch h⟩⟩⟩⟩) (by kernel_rfl)
def s_s_CostTo : Sig := ⟨[.v true 3, .v false 1, .v false 1, .v false 1], [(false, [.s])]⟩
theorem ok_s_CostTo : Fok Try.prog s_s_CostTo 75 F_s_CostTo := Fok.mk seat (n := 8) (l := []) (S := S_s_CostTo) (pl := p_s_CostTo) in_s_CostTo Try.func75 (fun _ h => nomatch h) (by kernel_rfl)
def s_s_l08Heard : Sig := ⟨[.v true 7], [(false, [.s])]⟩
theorem ok_s_l08Heard : Fok Try.prog s_s_l08Heard 123 F_s_l08Heard := Fok.mk seat (n := 8) (l := [(75, s_s_CostTo)]) (S := S_s_l08Heard) (pl := p_s_l08Heard) in_s_l08Heard Try.func123 (List.forall_mem_cons.2 ⟨ok_s_CostTo, fun _ h => nomatch h⟩) (by kernel_rfl)
def s_s_l04Near : Sig := ⟨[.v true 8], [(false, [.s])]⟩
theorem ok_s_l04Near : Fok Try.prog s_s_l04Near 132 F_s_l04Near := Fok.mk seat (n := 8) (l := [(40, s_s_l01In)]) (S := S_s_l04Near) (pl := p_s_l04Near) in_s_l04Near Try.func132 (List.forall_mem_cons.2 ⟨ok_s_l01In, fun _ h => nomatch h⟩) (by kernel_rfl)
def s_s_RecordOk : Sig := ⟨[.v true 8], [(false, [.s])]⟩
theorem ok_s_RecordOk : Fok Try.prog s_s_RecordOk 96 F_s_RecordOk := Fok.mk seat (n := 8) (l := [(40, s_s_l01In), (132, s_s_l04Near)]) (S := S_s_RecordOk) (pl := p_s_RecordOk) in_s_RecordOk Try.func96 (List.forall_mem_cons.2 ⟨ok_s_l01In, List.forall_mem_cons.2 ⟨ok_s_l04Near, fun _ h => nomatch h⟩⟩) (by kernel_rfl)
def s_s_Before : Sig := ⟨[.v true 8, .v true 8], [(false, [.s])]⟩
theorem ok_s_Before : Fok Try.prog s_s_Before 97 F_s_Before := Fok.mk seat (n := 8) (l := []) (S := S_s_Before) (pl := p_s_Before) in_s_Before Try.func97 (fun _ h => nomatch h) (by kernel_rfl)
def s_s_StoreOk : Sig := ⟨[.v false 1], [(false, [.s])]⟩
theorem ok_s_StoreOk : Fok Try.prog s_s_StoreOk 39 F_s_StoreOk := Fok.mk seat (n := 8) (l := [(96, s_s_RecordOk), (97, s_s_Before)]) (S := S_s_StoreOk) (pl := p_s_StoreOk) in_s_StoreOk Try.func39 (List.forall_mem_cons.2 ⟨ok_s_RecordOk, List.forall_mem_cons.2 ⟨ok_s_Before, fun _ h => nomatch h⟩⟩) (by kernel_rfl)
def s_s_SelfOk : Sig := ⟨[.v true 7], [(false, [.s])]⟩
theorem ok_s_SelfOk : Fok Try.prog s_s_SelfOk 74 F_s_SelfOk := Fok.mk seat (n := 8) (l := [(39, s_s_StoreOk), (40, s_s_l01In), (122, s_s_NetOk), (123, s_s_l08Heard)]) (S := S_s_SelfOk) (pl := p_s_SelfOk) in_s_SelfOk Try.func74 (List.forall_mem_cons.2 ⟨ok_s_StoreOk, List.forall_mem_cons.2 ⟨ok_s_l01In, List.forall_mem_cons.2 ⟨ok_s_NetOk, List.forall_mem_cons.2 ⟨ok_s_l08Heard, fun _ h => nomatch h⟩⟩⟩⟩) (by kernel_rfl)
def s_s_l10Heard : Sig := ⟨[.v false 1], [(false, [.o true])]⟩
theorem ok_s_l10Heard : Fok Try.prog s_s_l10Heard 77 F_s_l10Heard := Fok.mk seat (n := 8) (l := []) (S := S_s_l10Heard) (pl := p_s_l10Heard) in_s_l10Heard Try.func77 (fun _ h => nomatch h) (by kernel_rfl)
def s_s_l10SameInts : Sig := ⟨[.v false 1, .v false 1], [(false, [.s])]⟩
theorem ok_s_l10SameInts : Fok Try.prog s_s_l10SameInts 76 F_s_l10SameInts := Fok.mk seat (n := 8) (l := []) (S := S_s_l10SameInts) (pl := p_s_l10SameInts) in_s_l10SameInts Try.func76 (fun _ h => nomatch h) (by kernel_rfl)
def s_s_NodeOk : Sig := ⟨[.v true 8], [(false, [.s])]⟩
theorem ok_s_NodeOk : Fok Try.prog s_s_NodeOk 29 F_s_NodeOk := Fok.mk seat (n := 8) (l := [(40, s_s_l01In), (74, s_s_SelfOk), (75, s_s_CostTo), (76, s_s_l10SameInts), (77, s_s_l10Heard)]) (S := S_s_NodeOk) (pl := p_s_NodeOk) in_s_NodeOk Try.func29 (List.forall_mem_cons.2 ⟨ok_s_l01In, List.forall_mem_cons.2 ⟨ok_s_SelfOk, List.forall_mem_cons.2 ⟨ok_s_CostTo, List.forall_mem_cons.2 ⟨ok_s_l10SameInts, List.forall_mem_cons.2 ⟨ok_s_l10Heard, fun _ h => nomatch h⟩⟩⟩⟩⟩) (by kernel_rfl)
def s_i_LinkOk : Sig := ⟨[.v false 1, .v true 4], [(false, [.s])]⟩
theorem ok_i_LinkOk : Fok Try.prog s_i_LinkOk 145 F_i_LinkOk := Fok.mk seat (n := 8) (l := [(45, s_i_in)]) (S := S_i_LinkOk) (pl := p_i_LinkOk) in_i_LinkOk Try.func145 (List.forall_mem_cons.2 ⟨ok_i_in, fun _ h => nomatch h⟩) (by kernel_rfl)
def s_i_ahead : Sig := ⟨[.v true 4, .v true 4], [(false, [.s])]⟩
theorem ok_i_ahead : Fok Try.prog s_i_ahead 146 F_i_ahead := Fok.mk seat (n := 8) (l := []) (S := S_i_ahead) (pl := p_i_ahead) in_i_ahead Try.func146 (fun _ h => nomatch h) (by kernel_rfl)
def s_i_less : Sig := ⟨[.v true 4, .v true 4], [(false, [.s])]⟩
theorem ok_i_less : Fok Try.prog s_i_less 147 F_i_less := Fok.mk seat (n := 8) (l := []) (S := S_i_less) (pl := p_i_less) in_i_less Try.func147 (fun _ h => nomatch h) (by kernel_rfl)
def s_i_NetOk : Sig := ⟨[.v true 3], [(false, [.s])]⟩
theorem ok_i_NetOk : Fok Try.prog s_i_NetOk 125 F_i_NetOk := Fok.mk seat (n := 8) (l := [(45, s_i_in), (145, s_i_LinkOk), (146, s_i_ahead), (147, s_i_less)]) (S := S_i_NetOk) (pl := p_i_NetOk) in_i_NetOk Try.func125 (List.forall_mem_cons.2 ⟨ok_i_in, List.forall_mem_cons.2 ⟨ok_i_LinkOk, List.forall_mem_cons.2 ⟨ok_i_ahead, List.forall_mem_cons.2 ⟨ok_i_less, fun _ h => nomatch h⟩⟩⟩⟩) (by kernel_rfl)
def s_i_linkAt : Sig := ⟨[.v true 3, .v false 1, .v false 1, .v false 1], [(false, [.s])]⟩
theorem ok_i_linkAt : Fok Try.prog s_i_linkAt 127 F_i_linkAt := Fok.mk seat (n := 8) (l := []) (S := S_i_linkAt) (pl := p_i_linkAt) in_i_linkAt Try.func127 (fun _ h => nomatch h) (by kernel_rfl)
def s_i_heardOk : Sig := ⟨[.v true 7], [(false, [.s])]⟩
theorem ok_i_heardOk : Fok Try.prog s_i_heardOk 126 F_i_heardOk := Fok.mk seat (n := 8) (l := [(127, s_i_linkAt)]) (S := S_i_heardOk) (pl := p_i_heardOk) in_i_heardOk Try.func126 (List.forall_mem_cons.2 ⟨ok_i_linkAt, fun _ h => nomatch h⟩) (by kernel_rfl)
def s_i_nearOk : Sig := ⟨[.v true 8], [(false, [.s])]⟩
theorem ok_i_nearOk : Fok Try.prog s_i_nearOk 134 F_i_nearOk := Fok.mk seat (n := 8) (l := [(45, s_i_in)]) (S := S_i_nearOk) (pl := p_i_nearOk) in_i_nearOk Try.func134 (List.forall_mem_cons.2 ⟨ok_i_in, fun _ h => nomatch h⟩) (by kernel_rfl)
def s_i_RecordOk : Sig := ⟨[.v true 8], [(false, [.s])]⟩
theorem ok_i_RecordOk : Fok Try.prog s_i_RecordOk 101 F_i_RecordOk := Fok.mk seat (n := 8) (l := [(45, s_i_in), (134, s_i_nearOk)]) (S := S_i_RecordOk) (pl := p_i_RecordOk) in_i_RecordOk Try.func101 (List.forall_mem_cons.2 ⟨ok_i_in, List.forall_mem_cons.2 ⟨ok_i_nearOk, fun _ h => nomatch h⟩⟩) (by kernel_rfl)
def s_i_Before : Sig := ⟨[.v true 8, .v true 8], [(false, [.s])]⟩
theorem ok_i_Before : Fok Try.prog s_i_Before 102 F_i_Before := Fok.mk seat (n := 8) (l := []) (S := S_i_Before) (pl := p_i_Before) in_i_Before Try.func102 (fun _ h => nomatch h) (by kernel_rfl)
def s_i_StoreOk : Sig := ⟨[.v false 1], [(false, [.s])]⟩
theorem ok_i_StoreOk : Fok Try.prog s_i_StoreOk 44 F_i_StoreOk := Fok.mk seat (n := 8) (l := [(101, s_i_RecordOk), (102, s_i_Before)]) (S := S_i_StoreOk) (pl := p_i_StoreOk) in_i_StoreOk Try.func44 (List.forall_mem_cons.2 ⟨ok_i_RecordOk, List.forall_mem_cons.2 ⟨ok_i_Before, fun _ h => nomatch h⟩⟩) (by kernel_rfl)
def s_i_SelfOk : Sig := ⟨[.v true 7], [(false, [.s])]⟩
theorem ok_i_SelfOk : Fok Try.prog s_i_SelfOk 80 F_i_SelfOk := Fok.mk seat (n := 8) (l := [(44, s_i_StoreOk), (45, s_i_in), (125, s_i_NetOk), (126, s_i_heardOk)]) (S := S_i_SelfOk) (pl := p_i_SelfOk) in_i_SelfOk Try.func80 (List.forall_mem_cons.2 ⟨ok_i_StoreOk, List.forall_mem_cons.2 ⟨ok_i_in, List.forall_mem_cons.2 ⟨ok_i_NetOk, List.forall_mem_cons.2 ⟨ok_i_heardOk, fun _ h => nomatch h⟩⟩⟩⟩) (by kernel_rfl)
def s_i_earsOf : Sig := ⟨[.v true 3, .v false 1], [(false, [.o true])]⟩
theorem ok_i_earsOf : Fok Try.prog s_i_earsOf 81 F_i_earsOf := Fok.mk seat (n := 8) (l := [(127, s_i_linkAt)]) (S := S_i_earsOf) (pl := p_i_earsOf) in_i_earsOf Try.func81 (List.forall_mem_cons.2 ⟨ok_i_linkAt, fun _ h => nomatch h⟩) (by kernel_rfl)
def s_i_heardBy : Sig := ⟨[.v false 1], [(false, [.o true])]⟩
theorem ok_i_heardBy : Fok Try.prog s_i_heardBy 83 F_i_heardBy := Fok.mk seat (n := 8) (l := []) (S := S_i_heardBy) (pl := p_i_heardBy) in_i_heardBy Try.func83 (fun _ h => nomatch h) (by kernel_rfl)
def s_i_sameInts : Sig := ⟨[.v false 1, .v false 1], [(false, [.s])]⟩
theorem ok_i_sameInts : Fok Try.prog s_i_sameInts 82 F_i_sameInts := Fok.mk seat (n := 8) (l := []) (S := S_i_sameInts) (pl := p_i_sameInts) in_i_sameInts Try.func82 (fun _ h => nomatch h) (by kernel_rfl)
def s_i_NodeOk : Sig := ⟨[.v true 8], [(false, [.s])]⟩
theorem ok_i_NodeOk : Fok Try.prog s_i_NodeOk 31 F_i_NodeOk := Fok.mk seat (n := 8) (l := [(45, s_i_in), (80, s_i_SelfOk), (81, s_i_earsOf), (82, s_i_sameInts), (83, s_i_heardBy)]) (S := S_i_NodeOk) (pl := p_i_NodeOk) in_i_NodeOk Try.func31 (List.forall_mem_cons.2 ⟨ok_i_in, List.forall_mem_cons.2 ⟨ok_i_SelfOk, List.forall_mem_cons.2 ⟨ok_i_earsOf, List.forall_mem_cons.2 ⟨ok_i_sameInts, List.forall_mem_cons.2 ⟨ok_i_heardBy, fun _ h => nomatch h⟩⟩⟩⟩⟩) (by kernel_rfl)
def s_FnExactNodeOk : Sig := ⟨[.v true 8], [(false, [.s])]⟩
theorem ok_FnExactNodeOk : Fok Try.prog s_FnExactNodeOk 6 F_FnExactNodeOk := Fok.mk seat (n := 8) (l := [(28, s_szNode), (29, s_s_NodeOk), (30, s_toNode), (31, s_i_NodeOk), (32, s_eqNode)]) (S := S_FnExactNodeOk) (pl := p_FnExactNodeOk) in_FnExactNodeOk Try.func6 (List.forall_mem_cons.2 ⟨ok_szNode, List.forall_mem_cons.2 ⟨ok_s_NodeOk, List.forall_mem_cons.2 ⟨ok_toNode, List.forall_mem_cons.2 ⟨ok_i_NodeOk, List.forall_mem_cons.2 ⟨ok_eqNode, fun _ h => nomatch h⟩⟩⟩⟩⟩) (by kernel_rfl)
def s_s_l13Hears : Sig := ⟨[.v true 8, .v false 1, .v false 1], [(false, [.s])]⟩
theorem ok_s_l13Hears : Fok Try.prog s_s_l13Hears 88 F_s_l13Hears := Fok.mk seat (n := 8) (l := []) (S := S_s_l13Hears) (pl := p_s_l13Hears) in_s_l13Hears Try.func88 (fun _ h => nomatch h) (by kernel_rfl)
def s_s_l04Copy : Sig := ⟨[.v true 8], [(true, [.s, .s, .s, .s, .s, .o true, .s, .s])]⟩
theorem ok_s_l04Copy : Fok Try.prog s_s_l04Copy 129 F_s_l04Copy := Fok.mk seat (n := 8) (l := []) (S := S_s_l04Copy) (pl := p_s_l04Copy) in_s_l04Copy Try.func129 (fun _ h => nomatch h) (by kernel_rfl)
def s_s_Scope : Sig := ⟨[.v false 1, .v false 1], [(false, [.o true])]⟩
theorem ok_s_Scope : Fok Try.prog s_s_Scope 90 F_s_Scope := Fok.mk seat (n := 8) (l := [(129, s_s_l04Copy)]) (S := S_s_Scope) (pl := p_s_Scope) in_s_Scope Try.func90 (List.forall_mem_cons.2 ⟨ok_s_l04Copy, fun _ h => nomatch h⟩) (by kernel_rfl)
def s_s_l13SameStore : Sig := ⟨[.v false 1, .v false 1], [(false, [.s])]⟩
theorem ok_s_l13SameStore : Fok Try.prog s_s_l13SameStore 89 F_s_l13SameStore := Fok.mk seat (n := 8) (l := [(114, s_s_SameBody)]) (S := S_s_l13SameStore) (pl := p_s_l13SameStore) in_s_l13SameStore Try.func89 (List.forall_mem_cons.2 ⟨ok_s_SameBody, fun _ h => nomatch h⟩) (by kernel_rfl)
def s_s_AlikeIn : Sig := ⟨[.v true 10, .v false 1], [(false, [.s])]⟩
theorem ok_s_AlikeIn : Fok Try.prog s_s_AlikeIn 35 F_s_AlikeIn := Fok.mk seat (n := 8) (l := [(88, s_s_l13Hears), (89, s_s_l13SameStore), (90, s_s_Scope)]) (S := S_s_AlikeIn) (pl := p_s_AlikeIn) in_s_AlikeIn Try.func35 (List.forall_mem_cons.2 ⟨ok_s_l13Hears, List.forall_mem_cons.2 ⟨ok_s_l13SameStore, List.forall_mem_cons.2 ⟨ok_s_Scope, fun _ h => nomatch h⟩⟩⟩) (by kernel_rfl)
def s_i_hears : Sig := ⟨[.v true 8, .v false 1, .v false 1], [(false, [.s])]⟩
theorem ok_i_hears : Fok Try.prog s_i_hears 91 F_i_hears := Fok.mk seat (n := 8) (l := []) (S := S_i_hears) (pl := p_i_hears) in_i_hears Try.func91 (fun _ h => nomatch h) (by kernel_rfl)
def s_i_copyRecord : Sig := ⟨[.v true 8], [(true, [.s, .s, .s, .s, .s, .o true, .s, .s])]⟩
theorem ok_i_copyRecord : Fok Try.prog s_i_copyRecord 130 F_i_copyRecord := Fok.mk seat (n := 8) (l := []) (S := S_i_copyRecord) (pl := p_i_copyRecord) in_i_copyRecord Try.func130 (fun _ h => nomatch h) (by kernel_rfl)
def s_i_Scope : Sig := ⟨[.v false 1, .v false 1], [(false, [.o true])]⟩
theorem ok_i_Scope : Fok Try.prog s_i_Scope 93 F_i_Scope := Fok.mk seat (n := 8) (l := [(130, s_i_copyRecord)]) (S := S_i_Scope) (pl := p_i_Scope) in_i_Scope Try.func93 (List.forall_mem_cons.2 ⟨ok_i_copyRecord, fun _ h => nomatch h⟩) (by kernel_rfl)
def s_i_sameRecords : Sig := ⟨[.v false 1, .v false 1], [(false, [.s])]⟩
theorem ok_i_sameRecords : Fok Try.prog s_i_sameRecords 92 F_i_sameRecords := Fok.mk seat (n := 8) (l := [(118, s_i_SameBody)]) (S := S_i_sameRecords) (pl := p_i_sameRecords) in_i_sameRecords Try.func92 (List.forall_mem_cons.2 ⟨ok_i_SameBody, fun _ h => nomatch h⟩) (by kernel_rfl)
def s_i_AlikeIn : Sig := ⟨[.v true 10, .v false 1], [(false, [.s])]⟩
theorem ok_i_AlikeIn : Fok Try.prog s_i_AlikeIn 36 F_i_AlikeIn := Fok.mk seat (n := 8) (l := [(66, s_i_World_up), (91, s_i_hears), (92, s_i_sameRecords), (93, s_i_Scope)]) (S := S_i_AlikeIn) (pl := p_i_AlikeIn) in_i_AlikeIn Try.func36 (List.forall_mem_cons.2 ⟨ok_i_World_up, List.forall_mem_cons.2 ⟨ok_i_hears, List.forall_mem_cons.2 ⟨ok_i_sameRecords, List.forall_mem_cons.2 ⟨ok_i_Scope, fun _ h => nomatch h⟩⟩⟩⟩) (by kernel_rfl)
def s_FnExactAlikeIn : Sig := ⟨[.v true 10, .v false 1], [(false, [.s])]⟩
theorem ok_FnExactAlikeIn : Fok Try.prog s_FnExactAlikeIn 8 F_FnExactAlikeIn := Fok.mk seat (n := 8) (l := [(23, s_szWorld), (25, s_toWorld), (27, s_eqWorld), (35, s_s_AlikeIn), (36, s_i_AlikeIn)]) (S := S_FnExactAlikeIn) (pl := p_FnExactAlikeIn) in_FnExactAlikeIn Try.func8 (List.forall_mem_cons.2 ⟨ok_szWorld, List.forall_mem_cons.2 ⟨ok_toWorld, List.forall_mem_cons.2 ⟨ok_eqWorld, List.forall_mem_cons.2 ⟨ok_s_AlikeIn, List.forall_mem_cons.2 ⟨ok_i_AlikeIn, fun _ h => nomatch h⟩⟩⟩⟩⟩) (by kernel_rfl)
end Go.Proofs.YtcknaignbagihaaWB

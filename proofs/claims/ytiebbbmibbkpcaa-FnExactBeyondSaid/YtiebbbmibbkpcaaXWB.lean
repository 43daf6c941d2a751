/- The walk: each function does as its plain program says (printed by a program). Conditions: none. -/
import Derived.Test.YtiebbbmibbkpcaaChecked
import Derived.Test.YtiebbbmibbkpcaaKe
import Derived.Test.YtiebbbmibbkpcaaXPB
namespace Go.Proofs.YtiebbbmibbkpcaaWB
open Go.Proofs.YtiebbbmibbkpcaaC
theorem fc {α:Type} {p:α→Prop} {a:α} {l:List α} (h:p a∧∀ x∈l,p x):∀ x∈a :: l,p x:=List.forall_mem_cons.2 h
theorem f0 {α:Type} {p:α→Prop}:∀ x∈([]:List α),p x:=fun _ h=>nomatch h
def lty:List (Nat × TI):=[
 (3,⟨1,8,false,[.p (.k (.int .i64 0))],0,[],1⟩),
 (4,⟨1,1,false,[.p (.k (.bool false))],0,[],4⟩),
 (22,⟨1,24,false,[.n],56,[],3⟩),
 (23,⟨1,24,false,[.n],3,[],3⟩),
 (25,⟨1,24,false,[.n],68,[],3⟩),
 (38,⟨1,24,false,[.n],4,[],3⟩),
 (54,⟨1,24,false,[.n],129,[],3⟩),
 (56,⟨8,80,true,[.p (.k (.int .i64 0)),.p (.k (.int .i64 0)),.p (.k (.int .i64 0)),.p (.k (.int .i64 0)),.p (.k (.int .i64 0)),.n,.p (.k (.int .i64 0)),.p (.k (.bool false))],0,[(0,1),(1,1),(2,1),(3,1),(4,1),(5,1),(6,1),(7,1)],0⟩),
 (58,⟨1,24,false,[.n],63,[],3⟩),
 (63,⟨3,40,true,[.p (.k (.int .i64 0)),.p (.k (.int .i64 0)),.n],0,[(0,1),(1,1),(2,1)],0⟩),
 (66,⟨1,24,false,[.n],81,[],3⟩),
 (68,⟨8,80,true,[.p (.k (.int .i64 0)),.p (.k (.int .i64 0)),.p (.k (.int .i64 0)),.p (.k (.int .i64 0)),.p (.k (.int .i64 0)),.n,.p (.k (.int .i64 0)),.p (.k (.bool false))],0,[(0,1),(1,1),(2,1),(3,1),(4,1),(5,1),(6,1),(7,1)],0⟩),
 (81,⟨2,16,true,[.p (.k (.int .i64 0)),.p (.k (.int .i64 0))],0,[(0,1),(1,1)],5⟩),
 (101,⟨1,24,false,[.n],23,[],3⟩),
 (103,⟨1,24,false,[.n],58,[],3⟩),
 (129,⟨2,16,true,[.p (.k (.int .i64 0)),.p (.k (.int .i64 0))],0,[(0,1),(1,1)],5⟩)]
def lhint:List ((Nat × Nat × Nat) × Js):=[
 ((5,0,0),[(1,false,.phi false [.p]),(4,false,.phi false [.p]),(5,false,.phi false [.p])]),
 ((71,0,0),[(4,false,.phi false [.p]),(7,false,.rows [(0,true)])]),
 ((7,0,0),[(4,false,.phi false [.p]),(7,false,.rows [(0,true)])]),
 ((8,0,0),[(4,false,.phi false [.p]),(7,false,.rows [(0,true)])]),
 ((99,0,0),[(2,false,.phi false [.p]),(3,false,.phi false [.p])]),
 ((25,0,0),[(2,false,.phi false [.p]),(3,false,.phi false [.p])]),
 ((100,0,0),[(4,false,.phi false [.p]),(5,false,.phi false [.p])]),
 ((101,0,0),[(8,false,.phi false [.p]),(11,false,.phi false [.p])]),
 ((66,0,0),[(6,false,.phi false [.p]),(10,false,.rows [(0,true)])]),
 ((66,0,2),[(9,false,.phi false [.p]),(10,false,.rows [(0,true)])]),
 ((66,2,48),[(10,false,.rows [(0,true)])]),
 ((102,0,0),[(4,false,.phi false [.p]),(5,false,.phi false [.p])]),
 ((67,0,0),[(5,false,.phi false [.o true]),(6,false,.phi false [.p])]),
 ((67,2,19),[(5,false,.phi false [.o true])]),
 ((26,0,0),[(14,false,.phi false [.p]),(47,false,.rows [(0,true)])]),
 ((26,0,2),[(15,false,.phi false [.p]),(48,false,.rows [(0,false)]),(49,false,.rows [(0,true)]),(47,false,.rows [(0,true)])]),
 ((26,0,4),[(16,false,.phi false [.p]),(17,false,.phi false [.p])]),
 ((26,0,6),[(18,false,.phi false [.p]),(48,false,.rows [(0,false)]),(47,false,.rows [(0,true)])]),
 ((26,0,8),[(7,false,.phi false [.o true]),(22,false,.phi false [.p])]),
 ((26,2,126),[(20,false,.phi false [.p])]),
 ((26,2,147),[(48,false,.rows [(0,false)]),(47,false,.rows [(0,true)])]),
 ((26,2,163),[(48,false,.rows [(0,false)])]),
 ((26,2,180),[(7,false,.phi false [.o true])]),
 ((26,2,94),[(16,false,.phi false [.p])]),
 ((29,0,0),[(5,false,.phi false [.p]),(6,false,.phi false [.p])]),
 ((27,0,0),[(8,false,.phi false [.o false]),(9,false,.phi false [.p])]),
 ((27,0,2),[(7,false,.phi false [.o false]),(10,false,.phi false [.p])]),
 ((27,0,4),[(12,false,.phi false [.p]),(13,false,.phi false [.p]),(11,true,.phi true [.p,.p,.p])]),
 ((27,2,56),[(14,true,.phi true [.p,.p,.p])]),
 ((27,2,61),[(7,false,.phi false [.o false])]),
 ((69,0,0),[(6,false,.phi false [.p]),(16,false,.phi false [.p]),(12,true,.phi true [.p,.p,.p])]),
 ((69,2,81),[(18,true,.phi true [.p,.p,.p])]),
 ((28,0,0),[(11,false,.phi false [.o false]),(12,false,.phi false [.p])]),
 ((28,0,2),[(9,false,.phi false [.o false]),(13,false,.phi false [.p])]),
 ((28,0,4),[(17,false,.phi false [.p]),(18,false,.phi false [.p]),(16,true,.phi true [.p,.p,.p])]),
 ((28,2,88),[(9,false,.phi false [.o false])]),
 ((6,0,0),[(10,false,.phi false [.o true]),(11,false,.phi false [.p])]),
 ((6,0,2),[(9,false,.phi false [.o true]),(15,false,.phi false [.p])]),
 ((6,2,37),[(10,false,.phi false [.o true])]),
 ((6,2,84),[(18,true,.phi true [.p,.p,.p]),(19,false,.phi false [.p])]),
 ((6,2,91),[(9,false,.phi false [.o true])]),
 ((112,0,0),[(2,false,.phi false [.p]),(8,false,.phi false [.p])]),
 ((72,0,0),[(2,false,.phi false [.p]),(7,false,.phi false [.p])]),
 ((34,0,0),[(4,false,.phi false [.p]),(9,false,.phi false [.p])]),
 ((74,0,0),[(4,false,.phi false [.p]),(9,false,.phi false [.p])]),
 ((113,0,0),[(8,false,.phi false [.p]),(25,false,.phi false [.p])]),
 ((94,0,0),[(5,false,.phi false [.p])]),
 ((94,4,6),[(0,false,.rows [(0,true)])]),
 ((108,0,1),[(34,false,.phi false [.p]),(5,true,.phi true [.k,.k,.o true])]),
 ((108,0,3),[(47,false,.phi false [.p]),(5,true,.phi true [.k,.k,.o true])]),
 ((75,0,0),[(10,false,.phi false [.p]),(3,false,.rows [(0,false)])]),
 ((75,2,47),[(12,true,.phi true [.k,.k,.o true])]),
 ((75,2,55),[(12,true,.phi true [.k,.k,.d]),(3,false,.rows [(0,false)])]),
 ((75,2,70),[(3,false,.rows [(0,false)])]),
 ((75,4,5),[(3,false,.rows [(0,false)])]),
 ((31,0,0),[(8,false,.phi false [.o true]),(30,false,.rows [(0,false)])]),
 ((31,0,2),[(9,false,.phi false [.p]),(10,false,.phi false [.p])]),
 ((31,0,4),[(11,false,.phi false [.o false]),(84,false,.phi false [.p]),(30,false,.rows [(0,false)])]),
 ((31,2,68),[(9,false,.phi false [.p])]),
 ((31,2,90),[(11,false,.phi false [.o false])]),
 ((33,0,0),[(5,false,.phi false [.p]),(10,false,.phi false [.p])]),
 ((79,0,0),[(3,false,.phi false [.o true]),(8,false,.phi false [.p])]),
 ((35,0,0),[(5,false,.phi false [.p])]),
 ((35,2,40),[(5,false,.phi false [.p])]),
 ((32,2,36),[(4,true,.phi false [.o true])]),
 ((81,0,0),[(5,false,.phi false [.p])]),
 ((81,4,7),[(0,false,.rows [(0,true)])]),
 ((36,0,0),[(7,false,.phi false [.o false]),(14,false,.phi false [.p])]),
 ((36,0,2),[(7,false,.phi false [.o false]),(23,false,.phi false [.p])]),
 ((37,0,0),[(10,false,.phi false [.o false]),(23,false,.phi false [.p])]),
 ((9,0,0),[(9,false,.phi false [.o true]),(21,false,.phi false [.p])]),
 ((9,0,2),[(43,false,.phi false [.p]),(13,true,.phi false [.o true])]),
 ((9,0,4),[(58,false,.phi false [.p]),(13,true,.phi false [.o true])]),
 ((9,2,27),[(9,false,.phi false [.o true])]),
 ((9,2,52),[(13,true,.phi false [.o true])]),
 ((82,0,0),[(4,false,.phi false [.p]),(5,false,.phi false [.p])]),
 ((10,0,0),[(4,false,.phi false [.p]),(5,false,.phi false [.p])]),
 ((11,0,0),[(4,false,.phi false [.p]),(5,false,.phi false [.p])]),
 ((39,0,0),[(1,false,.phi false [.p]),(5,false,.phi false [.p]),(0,false,.rows [(0,true)])]),
 ((12,0,0),[(1,false,.phi false [.p]),(5,false,.phi false [.p]),(0,false,.rows [(0,true)])]),
 ((13,0,0),[(1,false,.phi false [.p]),(5,false,.phi false [.p]),(0,false,.rows [(0,true)])]),
 ((40,0,0),[(1,false,.phi false [.p]),(4,false,.phi false [.p]),(5,false,.phi false [.p])]),
 ((14,0,0),[(1,false,.phi false [.p]),(4,false,.phi false [.p]),(5,false,.phi false [.p])])]
def lfz:List (Nat × Nat × Nat):=[]
def lnest:List Nat:=[39,12,13,3]
noncomputable def lfn:List (Nat × Func):=[(94,Try.f94),(75,Try.f75),(32,Try.f32),(81,Try.f81),(39,Try.f39),(12,Try.f12),(13,Try.f13)]
noncomputable def cx:Cx:={ ty:=tiOf lty,sg:=fun _=>none,fn:=fnOf lfn,hint:=hintOf lhint,fz:=fzOf lfz,nest:=memN lnest }
theorem in_i_with:FnIn Try.prog 94:=.mk Try.func94 (by kernel_rfl) (by kernel_rfl)
theorem in_i_spread:FnIn Try.prog 75:=.mk Try.func75 (by kernel_rfl) (by kernel_rfl)
theorem in_i_Beyond_1:FnIn Try.prog 32:=.mk Try.func32 (by kernel_rfl) (by kernel_rfl)
theorem in_i_also:FnIn Try.prog 81:=.mk Try.func81 (by kernel_rfl) (by kernel_rfl)
theorem in_markNearS:FnIn Try.prog 39:=.mk Try.func39 (by kernel_rfl) (by kernel_rfl)
theorem in_markRecordS:FnIn Try.prog 12:=.mk Try.func12 (by kernel_rfl) (by kernel_rfl)
theorem in_markIntS:FnIn Try.prog 13:=.mk Try.func13 (by kernel_rfl) (by kernel_rfl)
theorem seat:Seat Try.prog cx:=⟨tys_ok (l:=lty) (by kernel_rfl) rfl,into_of (l:=lfn) (fc ⟨⟨Try.func94,in_i_with⟩,fc ⟨⟨Try.func75,in_i_spread⟩,fc ⟨⟨Try.func32,in_i_Beyond_1⟩,fc ⟨⟨Try.func81,in_i_also⟩,fc ⟨⟨Try.func39,in_markNearS⟩,fc ⟨⟨Try.func12,in_markRecordS⟩,fc ⟨⟨Try.func13,in_markIntS⟩,f0⟩⟩⟩⟩⟩⟩⟩) rfl,by kernel_rfl⟩
noncomputable def k_szNearS:=Kok.mk2 seat 61 ⟨[.v false 1,.v false 1],[(false,[.s])]⟩ p_szNearS F_szNearS [] Try.func61 (by kernel_rfl) (by kernel_rfl) (by kernel_rfl)
noncomputable def k_szRecord:=Kok.mk2 seat 24 ⟨[.v true 8,.v false 1],[(false,[.s])]⟩ p_szRecord F_szRecord [k_szNearS] Try.func24 (by kernel_rfl) (by kernel_rfl) (by kernel_rfl)
noncomputable def k_szRecordS:=Kok.mk2 seat 5 ⟨[.v false 1,.v false 1],[(false,[.s])]⟩ p_szRecordS F_szRecordS [k_szRecord] Try.func5 (by kernel_rfl) (by kernel_rfl) (by kernel_rfl)
noncomputable def k_toNear:=Kok.mk2 seat 104 ⟨[.v true 2],[(true,[.s,.s])]⟩ p_toNear F_toNear [] Try.func104 (by kernel_rfl) (by kernel_rfl) (by kernel_rfl)
noncomputable def k_toNearS:=Kok.mk2 seat 71 ⟨[.v false 1],[(false,[.o true])]⟩ p_toNearS F_toNearS [k_toNear] Try.func71 (by kernel_rfl) (by kernel_rfl) (by kernel_rfl)
noncomputable def k_toRecord:=Kok.mk2 seat 30 ⟨[.v true 8],[(true,[.s,.s,.s,.s,.s,.o true,.s,.s])]⟩ p_toRecord F_toRecord [k_toNearS] Try.func30 (by kernel_rfl) (by kernel_rfl) (by kernel_rfl)
noncomputable def k_toRecordS:=Kok.mk2 seat 7 ⟨[.v false 1],[(false,[.o true])]⟩ p_toRecordS F_toRecordS [k_toRecord] Try.func7 (by kernel_rfl) (by kernel_rfl) (by kernel_rfl)
noncomputable def k_toIntS:=Kok.mk2 seat 8 ⟨[.v false 1],[(false,[.o true])]⟩ p_toIntS F_toIntS [] Try.func8 (by kernel_rfl) (by kernel_rfl) (by kernel_rfl)
noncomputable def k_s_l01In:=Kok.mk2 seat 65 ⟨[.v false 1,.v false 1,.v false 1],[(false,[.s])]⟩ p_s_l01In F_s_l01In [] Try.func65 (by kernel_rfl) (by kernel_rfl) (by kernel_rfl)
noncomputable def k_s_l04Near:=Kok.mk2 seat 99 ⟨[.v true 8],[(false,[.s])]⟩ p_s_l04Near F_s_l04Near [k_s_l01In] Try.func99 (by kernel_rfl) (by kernel_rfl) (by kernel_rfl)
noncomputable def k_s_RecordOk:=Kok.mk2 seat 62 ⟨[.v true 8],[(false,[.s])]⟩ p_s_RecordOk F_s_RecordOk [k_s_l01In,k_s_l04Near] Try.func62 (by kernel_rfl) (by kernel_rfl) (by kernel_rfl)
noncomputable def k_s_Before:=Kok.mk2 seat 63 ⟨[.v true 8,.v true 8],[(false,[.s])]⟩ p_s_Before F_s_Before [] Try.func63 (by kernel_rfl) (by kernel_rfl) (by kernel_rfl)
noncomputable def k_s_StoreOk:=Kok.mk2 seat 25 ⟨[.v false 1],[(false,[.s])]⟩ p_s_StoreOk F_s_StoreOk [k_s_RecordOk,k_s_Before] Try.func25 (by kernel_rfl) (by kernel_rfl) (by kernel_rfl)
noncomputable def k_s_SameKey:=Kok.mk2 seat 111 ⟨[.v true 8,.v true 8],[(false,[.s])]⟩ p_s_SameKey F_s_SameKey [] Try.func111 (by kernel_rfl) (by kernel_rfl) (by kernel_rfl)
noncomputable def k_s_l05At:=Kok.mk2 seat 100 ⟨[.v false 1,.v true 8],[(false,[.s])]⟩ p_s_l05At F_s_l05At [k_s_SameKey] Try.func100 (by kernel_rfl) (by kernel_rfl) (by kernel_rfl)
noncomputable def k_s_l06Node:=Kok.mk2 seat 64 ⟨[.v false 1,.v false 1,.v false 1],[(true,[.s,.s,.s,.s,.s,.p,.s,.s]),(false,[.s])]⟩ p_s_l06Node F_s_l06Node [k_s_l05At] Try.func64 (by kernel_rfl) (by kernel_rfl) (by kernel_rfl)
noncomputable def k_s_l06Tells:=Kok.mk2 seat 101 ⟨[.v false 1,.v false 1,.v false 1,.v false 1],[(false,[.s])]⟩ p_s_l06Tells F_s_l06Tells [k_s_l06Node] Try.func101 (by kernel_rfl) (by kernel_rfl) (by kernel_rfl)
noncomputable def k_s_l06Links:=Kok.mk2 seat 66 ⟨[.v false 1,.v false 1],[(false,[.p])]⟩ p_s_l06Links F_s_l06Links [k_s_l06Node,k_s_l01In,k_s_l06Tells] Try.func66 (by kernel_rfl) (by kernel_rfl) (by kernel_rfl)
noncomputable def k_s_l03In:=Kok.mk2 seat 102 ⟨[.v false 1,.v false 1],[(false,[.s])]⟩ p_s_l03In F_s_l03In [] Try.func102 (by kernel_rfl) (by kernel_rfl) (by kernel_rfl)
noncomputable def k_s_l06Add:=Kok.mk2 seat 67 ⟨[.v false 1,.v false 1],[(false,[.p])]⟩ p_s_l06Add F_s_l06Add [k_s_l03In] Try.func67 (by kernel_rfl) (by kernel_rfl) (by kernel_rfl)
noncomputable def k_s_WaysIn:=Kok.mk2 seat 26 ⟨[.v false 1,.v false 1,.v false 1],[(false,[.p])]⟩ p_s_WaysIn F_s_WaysIn [k_s_StoreOk,k_s_l06Node,k_s_l01In,k_s_l06Links,k_s_l06Add] Try.func26 (by kernel_rfl) (by kernel_rfl) (by kernel_rfl)
noncomputable def k_s_l06Copy:=Kok.mk2 seat 70 ⟨[.v true 3],[(true,[.s,.s,.p])]⟩ p_s_l06Copy F_s_l06Copy [] Try.func70 (by kernel_rfl) (by kernel_rfl) (by kernel_rfl)
noncomputable def k_s_WayTo:=Kok.mk2 seat 29 ⟨[.v false 1,.v false 1],[(true,[.s,.s,.p]),(false,[.s])]⟩ p_s_WayTo F_s_WayTo [k_s_l06Copy] Try.func29 (by kernel_rfl) (by kernel_rfl) (by kernel_rfl)
noncomputable def k_s_Better:=Kok.mk2 seat 103 ⟨[.v true 3,.v true 3],[(false,[.s])]⟩ p_s_Better F_s_Better [] Try.func103 (by kernel_rfl) (by kernel_rfl) (by kernel_rfl)
noncomputable def k_s_Together:=Kok.mk2 seat 68 ⟨[.v true 3,.v true 3],[(true,[.s,.s,.p])]⟩ p_s_Together F_s_Together [k_s_l06Add,k_s_l06Copy,k_s_Better] Try.func68 (by kernel_rfl) (by kernel_rfl) (by kernel_rfl)
noncomputable def k_s_RoutesWithin:=Kok.mk2 seat 27 ⟨[.v false 1,.v false 1,.v false 1],[(false,[.p])]⟩ p_s_RoutesWithin F_s_RoutesWithin [k_s_WaysIn,k_s_WayTo,k_s_Together] Try.func27 (by kernel_rfl) (by kernel_rfl) (by kernel_rfl)
noncomputable def k_s_l07Beyond:=Kok.mk2 seat 69 ⟨[.v false 1,.v false 1,.v false 1,.v false 1,.v false 1,.v true 3,.v false 1],[(true,[.s,.s,.p]),(false,[.s])]⟩ p_s_l07Beyond F_s_l07Beyond [k_s_WayTo,k_s_Together] Try.func69 (by kernel_rfl) (by kernel_rfl) (by kernel_rfl)
noncomputable def k_s_RoutesBeyond:=Kok.mk2 seat 28 ⟨[.v false 1,.v false 1,.v false 1,.v false 1],[(false,[.p])]⟩ p_s_RoutesBeyond F_s_RoutesBeyond [k_s_StoreOk,k_s_WaysIn,k_s_RoutesWithin,k_s_WayTo,k_s_l07Beyond] Try.func28 (by kernel_rfl) (by kernel_rfl) (by kernel_rfl)
noncomputable def k_s_Beyond:=Kok.mk2 seat 6 ⟨[.v false 1,.v false 1,.v false 1,.v false 1],[(false,[.p])]⟩ p_s_Beyond F_s_Beyond [k_s_StoreOk,k_s_WaysIn,k_s_RoutesWithin,k_s_RoutesBeyond,k_s_WayTo] Try.func6 (by kernel_rfl) (by kernel_rfl) (by kernel_rfl)
noncomputable def k_i_in:=Kok.mk2 seat 73 ⟨[.v false 1,.v false 1,.v false 1],[(false,[.s])]⟩ p_i_in F_i_in [] Try.func73 (by kernel_rfl) (by kernel_rfl) (by kernel_rfl)
noncomputable def k_i_nearOk:=Kok.mk2 seat 112 ⟨[.v true 8],[(false,[.s])]⟩ p_i_nearOk F_i_nearOk [k_i_in] Try.func112 (by kernel_rfl) (by kernel_rfl) (by kernel_rfl)
noncomputable def k_i_RecordOk:=Kok.mk2 seat 105 ⟨[.v true 8],[(false,[.s])]⟩ p_i_RecordOk F_i_RecordOk [k_i_in,k_i_nearOk] Try.func105 (by kernel_rfl) (by kernel_rfl) (by kernel_rfl)
noncomputable def k_i_Before:=Kok.mk2 seat 78 ⟨[.v true 8,.v true 8],[(false,[.s])]⟩ p_i_Before F_i_Before [] Try.func78 (by kernel_rfl) (by kernel_rfl) (by kernel_rfl)
noncomputable def k_i_StoreOk:=Kok.mk2 seat 72 ⟨[.v false 1],[(false,[.s])]⟩ p_i_StoreOk F_i_StoreOk [k_i_Before,k_i_RecordOk] Try.func72 (by kernel_rfl) (by kernel_rfl) (by kernel_rfl)
noncomputable def k_i_SameKey:=Kok.mk2 seat 77 ⟨[.v true 8,.v true 8],[(false,[.s])]⟩ p_i_SameKey F_i_SameKey [] Try.func77 (by kernel_rfl) (by kernel_rfl) (by kernel_rfl)
noncomputable def k_i_keyAt:=Kok.mk2 seat 34 ⟨[.v false 1,.v true 8],[(false,[.s])]⟩ p_i_keyAt F_i_keyAt [k_i_SameKey] Try.func34 (by kernel_rfl) (by kernel_rfl) (by kernel_rfl)
noncomputable def k_i_hasInt:=Kok.mk2 seat 74 ⟨[.v false 1,.v false 1],[(false,[.s])]⟩ p_i_hasInt F_i_hasInt [] Try.func74 (by kernel_rfl) (by kernel_rfl) (by kernel_rfl)
noncomputable def k_i_told:=Kok.mk2 seat 113 ⟨[.v false 1,.v false 1,.v false 1,.v false 1],[(false,[.s])]⟩ p_i_told F_i_told [k_i_keyAt] Try.func113 (by kernel_rfl) (by kernel_rfl) (by kernel_rfl)
noncomputable def k_i_Linked:=Kok.mk2 seat 106 ⟨[.v false 1,.v false 1,.v false 1,.v false 1],[(false,[.s])]⟩ p_i_Linked F_i_Linked [k_i_told] Try.func106 (by kernel_rfl) (by kernel_rfl) (by kernel_rfl)
noncomputable def k_i_copyInts:=Kok.mk2 seat 107 ⟨[.v false 1],[(false,[.o true])]⟩ p_i_copyInts F_i_copyInts [] Try.func107 (by kernel_rfl) (by kernel_rfl) (by kernel_rfl)
noncomputable def k_i_copyWay:=Kok.mk2 seat 76 ⟨[.v true 3],[(true,[.s,.s,.o true])]⟩ p_i_copyWay F_i_copyWay [k_i_copyInts] Try.func76 (by kernel_rfl) (by kernel_rfl) (by kernel_rfl)
noncomputable def k_i_Together:=Kok.mk2 seat 108 ⟨[.v true 3,.v true 3],[(true,[.s,.s,.o true])]⟩ p_i_Together F_i_Together [k_i_copyWay,k_i_copyInts] Try.func108 (by kernel_rfl) (by kernel_rfl) (by kernel_rfl)
noncomputable def k_i_WaysIn:=Kok.mk2 seat 31 ⟨[.v false 1,.v false 1,.v false 1],[(false,[.o false])]⟩ p_i_WaysIn F_i_WaysIn [k_i_keyAt,k_i_StoreOk,k_i_in,k_i_hasInt,k_i_Linked,k_i_copyInts,k_i_Together] Try.func31 (by kernel_rfl) (by kernel_rfl) (by kernel_rfl)
noncomputable def k_i_WayTo:=Kok.mk2 seat 33 ⟨[.v false 1,.v false 1],[(true,[.s,.s,.o true]),(false,[.s])]⟩ p_i_WayTo F_i_WayTo [k_i_copyWay] Try.func33 (by kernel_rfl) (by kernel_rfl) (by kernel_rfl)
noncomputable def k_i_copyRecord:=Kok.mk2 seat 80 ⟨[.v true 8],[(true,[.s,.s,.s,.s,.s,.o true,.s,.s])]⟩ p_i_copyRecord F_i_copyRecord [] Try.func80 (by kernel_rfl) (by kernel_rfl) (by kernel_rfl)
noncomputable def k_i_copyRecords:=Kok.mk2 seat 79 ⟨[.v false 1],[(false,[.o true])]⟩ p_i_copyRecords F_i_copyRecords [k_i_copyRecord] Try.func79 (by kernel_rfl) (by kernel_rfl) (by kernel_rfl)
noncomputable def k_i_put:=Kok.mk2 seat 35 ⟨[.v false 1,.v true 8],[(false,[.o true])]⟩ p_i_put F_i_put [k_i_SameKey,k_i_Before,k_i_copyRecords,k_i_copyRecord] Try.func35 (by kernel_rfl) (by kernel_rfl) (by kernel_rfl)
noncomputable def k_i_RoutesWithin:=Kok.mk2 seat 36 ⟨[.v false 1,.v false 1,.v false 1],[(false,[.o false])]⟩ p_i_RoutesWithin F_i_RoutesWithin [k_i_WaysIn,k_i_copyWay,k_i_Together] Try.func36 (by kernel_rfl) (by kernel_rfl) (by kernel_rfl)
noncomputable def k_i_RoutesBeyond:=Kok.mk2 seat 37 ⟨[.v false 1,.v false 1,.v false 1,.v false 1],[(false,[.o false])]⟩ p_i_RoutesBeyond F_i_RoutesBeyond [k_i_WaysIn,k_i_WayTo,k_i_RoutesWithin,k_i_hasInt,k_i_copyWay,k_i_Together] Try.func37 (by kernel_rfl) (by kernel_rfl) (by kernel_rfl)
noncomputable def k_i_Beyond:=Kok.mk2 seat 9 ⟨[.v false 1,.v false 1,.v false 1,.v false 1],[(false,[.o true])]⟩ p_i_Beyond F_i_Beyond [k_i_WaysIn,k_i_WayTo,k_i_keyAt,k_i_put,k_i_RoutesWithin,k_i_RoutesBeyond] Try.func9 (by kernel_rfl) (by kernel_rfl) (by kernel_rfl)
noncomputable def k_eqNear:=Kok.mk2 seat 109 ⟨[.v true 2,.v true 2],[(false,[.s])]⟩ p_eqNear F_eqNear [] Try.func109 (by kernel_rfl) (by kernel_rfl) (by kernel_rfl)
noncomputable def k_eqNearS:=Kok.mk2 seat 82 ⟨[.v false 1,.v false 1],[(false,[.s])]⟩ p_eqNearS F_eqNearS [k_eqNear] Try.func82 (by kernel_rfl) (by kernel_rfl) (by kernel_rfl)
noncomputable def k_eqRecord:=Kok.mk2 seat 38 ⟨[.v true 8,.v true 8],[(false,[.s])]⟩ p_eqRecord F_eqRecord [k_eqNearS] Try.func38 (by kernel_rfl) (by kernel_rfl) (by kernel_rfl)
noncomputable def k_eqRecordS:=Kok.mk2 seat 10 ⟨[.v false 1,.v false 1],[(false,[.s])]⟩ p_eqRecordS F_eqRecordS [k_eqRecord] Try.func10 (by kernel_rfl) (by kernel_rfl) (by kernel_rfl)
noncomputable def k_eqIntS:=Kok.mk2 seat 11 ⟨[.v false 1,.v false 1],[(false,[.s])]⟩ p_eqIntS F_eqIntS [] Try.func11 (by kernel_rfl) (by kernel_rfl) (by kernel_rfl)
noncomputable def k_heldNearS:=Kok.mk2 seat 40 ⟨[.v false 1,.v false 1],[(false,[.s])]⟩ p_heldNearS F_heldNearS [] Try.func40 (by kernel_rfl) (by kernel_rfl) (by kernel_rfl)
noncomputable def k_heldRecordS:=Kok.mk2 seat 14 ⟨[.v false 1,.v false 1],[(false,[.s])]⟩ p_heldRecordS F_heldRecordS [k_heldNearS] Try.func14 (by kernel_rfl) (by kernel_rfl) (by kernel_rfl)
noncomputable def k_FnExactBeyond:=Kok.mk2 seat 3 ⟨[.v false 1,.v false 1,.v false 1,.v false 1],[(false,[.s])]⟩ p_FnExactBeyond F_FnExactBeyond [k_szRecordS,k_s_Beyond,k_toRecordS,k_toIntS,k_i_Beyond,k_eqRecordS,k_eqIntS,k_heldRecordS] Try.func3 (by kernel_rfl) (by kernel_rfl) (by kernel_rfl)
end Go.Proofs.YtiebbbmibbkpcaaWB

/- The walk: each function does as its plain program says (printed by a program). Conditions: none. -/
import Derived.Test.YtlofiplkmgmnfaaChecked
import Derived.Test.YtlofiplkmgmnfaaKe
import Derived.Test.YtlofiplkmgmnfaaXPA
namespace Go.Proofs.YtlofiplkmgmnfaaWA
open Go.Proofs.YtlofiplkmgmnfaaC
theorem fc {α:Type} {p:α→Prop} {a:α} {l:List α} (h:p a∧∀ x∈l,p x):∀ x∈a :: l,p x:=List.forall_mem_cons.2 h
theorem f0 {α:Type} {p:α→Prop}:∀ x∈([]:List α),p x:=fun _ h=>nomatch h
def lty:List (Nat × TI):=[
 (3,⟨1,8,false,[.p (.k (.int .i64 0))],0,[],1⟩),
 (4,⟨1,1,false,[.p (.k (.bool false))],0,[],4⟩),
 (22,⟨1,24,false,[.n],119,[],3⟩),
 (24,⟨1,24,false,[.n],70,[],3⟩),
 (26,⟨1,24,false,[.n],66,[],3⟩),
 (33,⟨1,24,false,[.n],3,[],3⟩),
 (45,⟨1,24,false,[.n],4,[],3⟩),
 (64,⟨1,24,false,[.n],137,[],3⟩),
 (66,⟨8,80,true,[.p (.k (.int .i64 0)),.p (.k (.int .i64 0)),.p (.k (.int .i64 0)),.p (.k (.int .i64 0)),.p (.k (.int .i64 0)),.n,.p (.k (.int .i64 0)),.p (.k (.bool false))],0,[(0,1),(1,1),(2,1),(3,1),(4,1),(5,1),(6,1),(7,1)],0⟩),
 (70,⟨3,40,true,[.p (.k (.int .i64 0)),.p (.k (.int .i64 0)),.n],0,[(0,1),(1,1),(2,1)],0⟩),
 (117,⟨1,24,false,[.n],199,[],3⟩),
 (119,⟨8,80,true,[.p (.k (.int .i64 0)),.p (.k (.int .i64 0)),.p (.k (.int .i64 0)),.p (.k (.int .i64 0)),.p (.k (.int .i64 0)),.n,.p (.k (.int .i64 0)),.p (.k (.bool false))],0,[(0,1),(1,1),(2,1),(3,1),(4,1),(5,1),(6,1),(7,1)],0⟩),
 (123,⟨1,24,false,[.n],33,[],3⟩),
 (129,⟨1,24,false,[.n],24,[],3⟩),
 (137,⟨2,16,true,[.p (.k (.int .i64 0)),.p (.k (.int .i64 0))],0,[(0,1),(1,1)],5⟩),
 (199,⟨2,16,true,[.p (.k (.int .i64 0)),.p (.k (.int .i64 0))],0,[(0,1),(1,1)],5⟩)]
def lhint:List ((Nat × Nat × Nat) × Js):=[
 ((15,0,0),[(1,false,.phi false [.p]),(4,false,.phi false [.p]),(5,false,.phi false [.p])]),
 ((163,0,0),[(4,false,.phi false [.p]),(7,false,.rows [(0,true)])]),
 ((17,0,0),[(4,false,.phi false [.p]),(7,false,.rows [(0,true)])]),
 ((123,0,0),[(4,false,.phi false [.p]),(5,false,.phi false [.p])]),
 ((189,0,0),[(2,false,.phi false [.p]),(3,false,.phi false [.p])]),
 ((63,0,0),[(2,false,.phi false [.p]),(3,false,.phi false [.p])]),
 ((127,0,0),[(8,false,.phi false [.p]),(11,false,.phi false [.p])]),
 ((85,0,0),[(6,false,.phi false [.p]),(10,false,.rows [(0,true)])]),
 ((85,0,2),[(9,false,.phi false [.p]),(10,false,.rows [(0,true)])]),
 ((85,2,48),[(10,false,.rows [(0,true)])]),
 ((162,0,0),[(4,false,.phi false [.p]),(5,false,.phi false [.p])]),
 ((86,0,0),[(5,false,.phi false [.o true]),(6,false,.phi false [.p])]),
 ((86,2,19),[(5,false,.phi false [.o true])]),
 ((16,0,0),[(14,false,.phi false [.p]),(47,false,.rows [(0,true)])]),
 ((16,0,2),[(15,false,.phi false [.p]),(48,false,.rows [(0,false)]),(49,false,.rows [(0,true)]),(47,false,.rows [(0,true)])]),
 ((16,0,4),[(16,false,.phi false [.p]),(17,false,.phi false [.p])]),
 ((16,0,6),[(18,false,.phi false [.p]),(48,false,.rows [(0,false)]),(47,false,.rows [(0,true)])]),
 ((16,0,8),[(7,false,.phi false [.o true]),(22,false,.phi false [.p])]),
 ((16,2,126),[(20,false,.phi false [.p])]),
 ((16,2,147),[(48,false,.rows [(0,false)]),(47,false,.rows [(0,true)])]),
 ((16,2,163),[(48,false,.rows [(0,false)])]),
 ((16,2,180),[(7,false,.phi false [.o true])]),
 ((16,2,94),[(16,false,.phi false [.p])]),
 ((197,0,0),[(2,false,.phi false [.p]),(8,false,.phi false [.p])]),
 ((88,0,0),[(2,false,.phi false [.p]),(7,false,.phi false [.p])]),
 ((90,0,0),[(4,false,.phi false [.p]),(9,false,.phi false [.p])]),
 ((91,0,0),[(4,false,.phi false [.p]),(9,false,.phi false [.p])]),
 ((125,0,0),[(8,false,.phi false [.p]),(25,false,.phi false [.p])]),
 ((131,0,0),[(5,false,.phi false [.p])]),
 ((131,4,6),[(0,false,.rows [(0,true)])]),
 ((50,0,1),[(34,false,.phi false [.p]),(5,true,.phi true [.k,.k,.o true])]),
 ((50,0,3),[(47,false,.phi false [.p]),(5,true,.phi true [.k,.k,.o true])]),
 ((92,0,0),[(10,false,.phi false [.p]),(3,false,.rows [(0,true)])]),
 ((92,2,47),[(12,true,.phi true [.k,.k,.o true])]),
 ((92,2,55),[(3,false,.rows [(0,true)]),(12,true,.phi true [.k,.k,.d])]),
 ((92,2,70),[(3,false,.rows [(0,true)])]),
 ((18,0,0),[(8,false,.phi false [.o true]),(30,false,.rows [(0,true)])]),
 ((18,0,2),[(9,false,.phi false [.p]),(10,false,.phi false [.p])]),
 ((18,0,4),[(11,false,.phi false [.o true]),(84,false,.phi false [.p]),(30,false,.rows [(0,true)])]),
 ((18,2,68),[(9,false,.phi false [.p])]),
 ((18,2,90),[(11,false,.phi false [.o true]),(87,false,.phi true [.k,.k,.d]),(13,true,.phi true [.k,.k,.d])]),
 ((18,5,16),[(7,false,.rows [(0,true)])]),
 ((27,0,0),[(4,false,.phi false [.p]),(5,false,.phi false [.p])]),
 ((19,0,0),[(4,false,.phi false [.p]),(5,false,.phi false [.p])]),
 ((167,0,0),[(4,false,.phi false [.p]),(5,false,.phi false [.p])]),
 ((20,0,0),[(4,false,.phi false [.p]),(5,false,.phi false [.p])]),
 ((95,0,0),[(1,false,.phi false [.p]),(5,false,.phi false [.p]),(0,false,.rows [(0,true)])]),
 ((21,0,0),[(1,false,.phi false [.p]),(5,false,.phi false [.p]),(0,false,.rows [(0,true)])]),
 ((28,0,0),[(1,false,.phi false [.p]),(5,false,.phi false [.p]),(0,false,.rows [(0,true)])]),
 ((22,0,0),[(1,false,.phi false [.p]),(5,false,.phi false [.p]),(0,false,.rows [(0,true)])]),
 ((96,0,0),[(1,false,.phi false [.p]),(4,false,.phi false [.p]),(5,false,.phi false [.p])]),
 ((23,0,0),[(1,false,.phi false [.p]),(4,false,.phi false [.p]),(5,false,.phi false [.p])]),
 ((25,0,0),[(4,false,.phi false [.p]),(7,false,.rows [(0,true)])]),
 ((47,0,0),[(5,false,.phi false [.p]),(6,false,.phi false [.p])]),
 ((24,0,0),[(8,false,.phi false [.o false]),(9,false,.phi false [.p])]),
 ((24,0,2),[(7,false,.phi false [.o false]),(10,false,.phi false [.p])]),
 ((24,0,4),[(12,false,.phi false [.p]),(13,false,.phi false [.p]),(11,true,.phi true [.p,.p,.p])]),
 ((24,2,56),[(14,true,.phi true [.p,.p,.p])]),
 ((24,2,61),[(7,false,.phi false [.o false])]),
 ((98,0,0),[(5,false,.phi false [.p])]),
 ((98,5,7),[(0,false,.rows [(0,true)])]),
 ((26,0,0),[(7,false,.phi false [.o true]),(14,false,.phi false [.p])]),
 ((26,0,2),[(7,false,.phi false [.o true]),(23,false,.phi false [.p]),(21,false,.rows [(0,false)])]),
 ((99,0,0),[(6,false,.phi false [.p]),(16,false,.phi false [.p]),(12,true,.phi true [.p,.p,.p])]),
 ((99,2,81),[(18,true,.phi true [.p,.p,.p])]),
 ((29,0,0),[(11,false,.phi false [.o false]),(12,false,.phi false [.p])]),
 ((29,0,2),[(9,false,.phi false [.o false]),(13,false,.phi false [.p])]),
 ((29,0,4),[(17,false,.phi false [.p]),(18,false,.phi false [.p]),(16,true,.phi true [.p,.p,.p])]),
 ((29,2,88),[(9,false,.phi false [.o false])]),
 ((45,0,0),[(5,false,.phi false [.p]),(10,false,.phi false [.p])]),
 ((30,0,0),[(10,false,.phi false [.o true]),(23,false,.phi false [.p])])]
def lfz:List (Nat × Nat × Nat):=[(18,18,1)]
def lnest:List Nat:=[95,21,28,22,3,4,5]
noncomputable def lfn:List (Nat × Func):=[(131,Try.f131),(92,Try.f92),(95,Try.f95),(21,Try.f21),(28,Try.f28),(22,Try.f22),(98,Try.f98)]
noncomputable def cx:Cx:={ ty:=tiOf lty,sg:=fun _=>none,fn:=fnOf lfn,hint:=hintOf lhint,fz:=fzOf lfz,nest:=memN lnest }
theorem in_i_with:FnIn Try.prog 131:=.mk Try.func131 (by kernel_rfl) (by kernel_rfl)
theorem in_i_spread:FnIn Try.prog 92:=.mk Try.func92 (by kernel_rfl) (by kernel_rfl)
theorem in_markNearS:FnIn Try.prog 95:=.mk Try.func95 (by kernel_rfl) (by kernel_rfl)
theorem in_markRecordS:FnIn Try.prog 21:=.mk Try.func21 (by kernel_rfl) (by kernel_rfl)
theorem in_markIntS:FnIn Try.prog 28:=.mk Try.func28 (by kernel_rfl) (by kernel_rfl)
theorem in_markWayS:FnIn Try.prog 22:=.mk Try.func22 (by kernel_rfl) (by kernel_rfl)
theorem in_i_also:FnIn Try.prog 98:=.mk Try.func98 (by kernel_rfl) (by kernel_rfl)
theorem seat:Seat Try.prog cx:=⟨tys_ok (l:=lty) (by kernel_rfl) rfl,into_of (l:=lfn) (fc ⟨⟨Try.func131,in_i_with⟩,fc ⟨⟨Try.func92,in_i_spread⟩,fc ⟨⟨Try.func95,in_markNearS⟩,fc ⟨⟨Try.func21,in_markRecordS⟩,fc ⟨⟨Try.func28,in_markIntS⟩,fc ⟨⟨Try.func22,in_markWayS⟩,fc ⟨⟨Try.func98,in_i_also⟩,f0⟩⟩⟩⟩⟩⟩⟩) rfl,by kernel_rfl⟩
noncomputable def k_szNearS:=Kok.mk2 seat 161 ⟨[.v false 1,.v false 1],[(false,[.s])]⟩ p_szNearS F_szNearS [] Try.func161 (by kernel_rfl) (by kernel_rfl) (by kernel_rfl)
noncomputable def k_szRecord:=Kok.mk2 seat 82 ⟨[.v true 8,.v false 1],[(false,[.s])]⟩ p_szRecord F_szRecord [k_szNearS] Try.func82 (by kernel_rfl) (by kernel_rfl) (by kernel_rfl)
noncomputable def k_szRecordS:=Kok.mk2 seat 15 ⟨[.v false 1,.v false 1],[(false,[.s])]⟩ p_szRecordS F_szRecordS [k_szRecord] Try.func15 (by kernel_rfl) (by kernel_rfl) (by kernel_rfl)
noncomputable def k_toNear:=Kok.mk2 seat 196 ⟨[.v true 2],[(true,[.s,.s])]⟩ p_toNear F_toNear [] Try.func196 (by kernel_rfl) (by kernel_rfl) (by kernel_rfl)
noncomputable def k_toNearS:=Kok.mk2 seat 163 ⟨[.v false 1],[(false,[.o true])]⟩ p_toNearS F_toNearS [k_toNear] Try.func163 (by kernel_rfl) (by kernel_rfl) (by kernel_rfl)
noncomputable def k_toRecord:=Kok.mk2 seat 87 ⟨[.v true 8],[(true,[.s,.s,.s,.s,.s,.o true,.s,.s])]⟩ p_toRecord F_toRecord [k_toNearS] Try.func87 (by kernel_rfl) (by kernel_rfl) (by kernel_rfl)
noncomputable def k_toRecordS:=Kok.mk2 seat 17 ⟨[.v false 1],[(false,[.o true])]⟩ p_toRecordS F_toRecordS [k_toRecord] Try.func17 (by kernel_rfl) (by kernel_rfl) (by kernel_rfl)
noncomputable def k_s_SameKey:=Kok.mk2 seat 160 ⟨[.v true 8,.v true 8],[(false,[.s])]⟩ p_s_SameKey F_s_SameKey [] Try.func160 (by kernel_rfl) (by kernel_rfl) (by kernel_rfl)
noncomputable def k_s_l05At:=Kok.mk2 seat 123 ⟨[.v false 1,.v true 8],[(false,[.s])]⟩ p_s_l05At F_s_l05At [k_s_SameKey] Try.func123 (by kernel_rfl) (by kernel_rfl) (by kernel_rfl)
noncomputable def k_s_l06Node:=Kok.mk2 seat 83 ⟨[.v false 1,.v false 1,.v false 1],[(true,[.s,.s,.s,.s,.s,.p,.s,.s]),(false,[.s])]⟩ p_s_l06Node F_s_l06Node [k_s_l05At] Try.func83 (by kernel_rfl) (by kernel_rfl) (by kernel_rfl)
noncomputable def k_s_l01In:=Kok.mk2 seat 84 ⟨[.v false 1,.v false 1,.v false 1],[(false,[.s])]⟩ p_s_l01In F_s_l01In [] Try.func84 (by kernel_rfl) (by kernel_rfl) (by kernel_rfl)
noncomputable def k_s_l04Near:=Kok.mk2 seat 189 ⟨[.v true 8],[(false,[.s])]⟩ p_s_l04Near F_s_l04Near [k_s_l01In] Try.func189 (by kernel_rfl) (by kernel_rfl) (by kernel_rfl)
noncomputable def k_s_RecordOk:=Kok.mk2 seat 139 ⟨[.v true 8],[(false,[.s])]⟩ p_s_RecordOk F_s_RecordOk [k_s_l01In,k_s_l04Near] Try.func139 (by kernel_rfl) (by kernel_rfl) (by kernel_rfl)
noncomputable def k_s_Before:=Kok.mk2 seat 140 ⟨[.v true 8,.v true 8],[(false,[.s])]⟩ p_s_Before F_s_Before [] Try.func140 (by kernel_rfl) (by kernel_rfl) (by kernel_rfl)
noncomputable def k_s_StoreOk:=Kok.mk2 seat 63 ⟨[.v false 1],[(false,[.s])]⟩ p_s_StoreOk F_s_StoreOk [k_s_RecordOk,k_s_Before] Try.func63 (by kernel_rfl) (by kernel_rfl) (by kernel_rfl)
noncomputable def k_s_l06Tells:=Kok.mk2 seat 127 ⟨[.v false 1,.v false 1,.v false 1,.v false 1],[(false,[.s])]⟩ p_s_l06Tells F_s_l06Tells [k_s_l06Node] Try.func127 (by kernel_rfl) (by kernel_rfl) (by kernel_rfl)
noncomputable def k_s_l06Links:=Kok.mk2 seat 85 ⟨[.v false 1,.v false 1],[(false,[.p])]⟩ p_s_l06Links F_s_l06Links [k_s_l06Node,k_s_l01In,k_s_l06Tells] Try.func85 (by kernel_rfl) (by kernel_rfl) (by kernel_rfl)
noncomputable def k_s_l03In:=Kok.mk2 seat 162 ⟨[.v false 1,.v false 1],[(false,[.s])]⟩ p_s_l03In F_s_l03In [] Try.func162 (by kernel_rfl) (by kernel_rfl) (by kernel_rfl)
noncomputable def k_s_l06Add:=Kok.mk2 seat 86 ⟨[.v false 1,.v false 1],[(false,[.p])]⟩ p_s_l06Add F_s_l06Add [k_s_l03In] Try.func86 (by kernel_rfl) (by kernel_rfl) (by kernel_rfl)
noncomputable def k_s_WaysIn:=Kok.mk2 seat 16 ⟨[.v false 1,.v false 1,.v false 1],[(false,[.p])]⟩ p_s_WaysIn F_s_WaysIn [k_s_StoreOk,k_s_l06Node,k_s_l01In,k_s_l06Links,k_s_l06Add] Try.func16 (by kernel_rfl) (by kernel_rfl) (by kernel_rfl)
noncomputable def k_i_in:=Kok.mk2 seat 89 ⟨[.v false 1,.v false 1,.v false 1],[(false,[.s])]⟩ p_i_in F_i_in [] Try.func89 (by kernel_rfl) (by kernel_rfl) (by kernel_rfl)
noncomputable def k_i_nearOk:=Kok.mk2 seat 197 ⟨[.v true 8],[(false,[.s])]⟩ p_i_nearOk F_i_nearOk [k_i_in] Try.func197 (by kernel_rfl) (by kernel_rfl) (by kernel_rfl)
noncomputable def k_i_RecordOk:=Kok.mk2 seat 164 ⟨[.v true 8],[(false,[.s])]⟩ p_i_RecordOk F_i_RecordOk [k_i_in,k_i_nearOk] Try.func164 (by kernel_rfl) (by kernel_rfl) (by kernel_rfl)
noncomputable def k_i_Before:=Kok.mk2 seat 165 ⟨[.v true 8,.v true 8],[(false,[.s])]⟩ p_i_Before F_i_Before [] Try.func165 (by kernel_rfl) (by kernel_rfl) (by kernel_rfl)
noncomputable def k_i_StoreOk:=Kok.mk2 seat 88 ⟨[.v false 1],[(false,[.s])]⟩ p_i_StoreOk F_i_StoreOk [k_i_RecordOk,k_i_Before] Try.func88 (by kernel_rfl) (by kernel_rfl) (by kernel_rfl)
noncomputable def k_i_SameKey:=Kok.mk2 seat 166 ⟨[.v true 8,.v true 8],[(false,[.s])]⟩ p_i_SameKey F_i_SameKey [] Try.func166 (by kernel_rfl) (by kernel_rfl) (by kernel_rfl)
noncomputable def k_i_keyAt:=Kok.mk2 seat 90 ⟨[.v false 1,.v true 8],[(false,[.s])]⟩ p_i_keyAt F_i_keyAt [k_i_SameKey] Try.func90 (by kernel_rfl) (by kernel_rfl) (by kernel_rfl)
noncomputable def k_i_hasInt:=Kok.mk2 seat 91 ⟨[.v false 1,.v false 1],[(false,[.s])]⟩ p_i_hasInt F_i_hasInt [] Try.func91 (by kernel_rfl) (by kernel_rfl) (by kernel_rfl)
noncomputable def k_i_told:=Kok.mk2 seat 125 ⟨[.v false 1,.v false 1,.v false 1,.v false 1],[(false,[.s])]⟩ p_i_told F_i_told [k_i_keyAt] Try.func125 (by kernel_rfl) (by kernel_rfl) (by kernel_rfl)
noncomputable def k_i_Linked:=Kok.mk2 seat 44 ⟨[.v false 1,.v false 1,.v false 1,.v false 1],[(false,[.s])]⟩ p_i_Linked F_i_Linked [k_i_told] Try.func44 (by kernel_rfl) (by kernel_rfl) (by kernel_rfl)
noncomputable def k_i_copyInts:=Kok.mk2 seat 133 ⟨[.v false 1],[(false,[.o true])]⟩ p_i_copyInts F_i_copyInts [] Try.func133 (by kernel_rfl) (by kernel_rfl) (by kernel_rfl)
noncomputable def k_i_copyWay:=Kok.mk2 seat 126 ⟨[.v true 3],[(true,[.s,.s,.o true])]⟩ p_i_copyWay F_i_copyWay [k_i_copyInts] Try.func126 (by kernel_rfl) (by kernel_rfl) (by kernel_rfl)
noncomputable def k_i_Together:=Kok.mk2 seat 50 ⟨[.v true 3,.v true 3],[(true,[.s,.s,.o true])]⟩ p_i_Together F_i_Together [k_i_copyWay,k_i_copyInts] Try.func50 (by kernel_rfl) (by kernel_rfl) (by kernel_rfl)
noncomputable def k_i_WaysIn:=Kok.mk2 seat 18 ⟨[.v false 1,.v false 1,.v false 1],[(false,[.o true])]⟩ p_i_WaysIn F_i_WaysIn [k_i_Linked,k_i_Together,k_i_StoreOk,k_i_in,k_i_keyAt,k_i_hasInt,k_i_copyInts] Try.func18 (by kernel_rfl) (by kernel_rfl) (by kernel_rfl)
noncomputable def k_eqIntS:=Kok.mk2 seat 27 ⟨[.v false 1,.v false 1],[(false,[.s])]⟩ p_eqIntS F_eqIntS [] Try.func27 (by kernel_rfl) (by kernel_rfl) (by kernel_rfl)
noncomputable def k_eqWay:=Kok.mk2 seat 93 ⟨[.v true 3,.v true 3],[(false,[.s])]⟩ p_eqWay F_eqWay [k_eqIntS] Try.func93 (by kernel_rfl) (by kernel_rfl) (by kernel_rfl)
noncomputable def k_eqWayS:=Kok.mk2 seat 19 ⟨[.v false 1,.v false 1],[(false,[.s])]⟩ p_eqWayS F_eqWayS [k_eqWay] Try.func19 (by kernel_rfl) (by kernel_rfl) (by kernel_rfl)
noncomputable def k_eqNear:=Kok.mk2 seat 198 ⟨[.v true 2,.v true 2],[(false,[.s])]⟩ p_eqNear F_eqNear [] Try.func198 (by kernel_rfl) (by kernel_rfl) (by kernel_rfl)
noncomputable def k_eqNearS:=Kok.mk2 seat 167 ⟨[.v false 1,.v false 1],[(false,[.s])]⟩ p_eqNearS F_eqNearS [k_eqNear] Try.func167 (by kernel_rfl) (by kernel_rfl) (by kernel_rfl)
noncomputable def k_eqRecord:=Kok.mk2 seat 94 ⟨[.v true 8,.v true 8],[(false,[.s])]⟩ p_eqRecord F_eqRecord [k_eqNearS] Try.func94 (by kernel_rfl) (by kernel_rfl) (by kernel_rfl)
noncomputable def k_eqRecordS:=Kok.mk2 seat 20 ⟨[.v false 1,.v false 1],[(false,[.s])]⟩ p_eqRecordS F_eqRecordS [k_eqRecord] Try.func20 (by kernel_rfl) (by kernel_rfl) (by kernel_rfl)
noncomputable def k_heldIntS:=Kok.mk2 seat 96 ⟨[.v false 1,.v false 1],[(false,[.s])]⟩ p_heldIntS F_heldIntS [] Try.func96 (by kernel_rfl) (by kernel_rfl) (by kernel_rfl)
noncomputable def k_heldWayS:=Kok.mk2 seat 23 ⟨[.v false 1,.v false 1],[(false,[.s])]⟩ p_heldWayS F_heldWayS [k_heldIntS] Try.func23 (by kernel_rfl) (by kernel_rfl) (by kernel_rfl)
noncomputable def k_toIntS:=Kok.mk2 seat 25 ⟨[.v false 1],[(false,[.o true])]⟩ p_toIntS F_toIntS [] Try.func25 (by kernel_rfl) (by kernel_rfl) (by kernel_rfl)
noncomputable def k_s_l06Copy:=Kok.mk2 seat 128 ⟨[.v true 3],[(true,[.s,.s,.p])]⟩ p_s_l06Copy F_s_l06Copy [] Try.func128 (by kernel_rfl) (by kernel_rfl) (by kernel_rfl)
noncomputable def k_s_WayTo:=Kok.mk2 seat 47 ⟨[.v false 1,.v false 1],[(true,[.s,.s,.p]),(false,[.s])]⟩ p_s_WayTo F_s_WayTo [k_s_l06Copy] Try.func47 (by kernel_rfl) (by kernel_rfl) (by kernel_rfl)
noncomputable def k_s_Better:=Kok.mk2 seat 168 ⟨[.v true 3,.v true 3],[(false,[.s])]⟩ p_s_Better F_s_Better [] Try.func168 (by kernel_rfl) (by kernel_rfl) (by kernel_rfl)
noncomputable def k_s_Together:=Kok.mk2 seat 97 ⟨[.v true 3,.v true 3],[(true,[.s,.s,.p])]⟩ p_s_Together F_s_Together [k_s_l06Add,k_s_l06Copy,k_s_Better] Try.func97 (by kernel_rfl) (by kernel_rfl) (by kernel_rfl)
noncomputable def k_s_RoutesWithin:=Kok.mk2 seat 24 ⟨[.v false 1,.v false 1,.v false 1],[(false,[.p])]⟩ p_s_RoutesWithin F_s_RoutesWithin [k_s_WaysIn,k_s_WayTo,k_s_Together] Try.func24 (by kernel_rfl) (by kernel_rfl) (by kernel_rfl)
noncomputable def k_i_RoutesWithin:=Kok.mk2 seat 26 ⟨[.v false 1,.v false 1,.v false 1],[(false,[.o true])]⟩ p_i_RoutesWithin F_i_RoutesWithin [k_i_WaysIn,k_i_Together,k_i_copyWay] Try.func26 (by kernel_rfl) (by kernel_rfl) (by kernel_rfl)
noncomputable def k_s_l07Beyond:=Kok.mk2 seat 99 ⟨[.v false 1,.v false 1,.v false 1,.v false 1,.v false 1,.v true 3,.v false 1],[(true,[.s,.s,.p]),(false,[.s])]⟩ p_s_l07Beyond F_s_l07Beyond [k_s_WayTo,k_s_Together] Try.func99 (by kernel_rfl) (by kernel_rfl) (by kernel_rfl)
noncomputable def k_s_RoutesBeyond:=Kok.mk2 seat 29 ⟨[.v false 1,.v false 1,.v false 1,.v false 1],[(false,[.p])]⟩ p_s_RoutesBeyond F_s_RoutesBeyond [k_s_WaysIn,k_s_RoutesWithin,k_s_WayTo,k_s_StoreOk,k_s_l07Beyond] Try.func29 (by kernel_rfl) (by kernel_rfl) (by kernel_rfl)
noncomputable def k_i_WayTo:=Kok.mk2 seat 45 ⟨[.v false 1,.v false 1],[(true,[.s,.s,.o true]),(false,[.s])]⟩ p_i_WayTo F_i_WayTo [k_i_copyWay] Try.func45 (by kernel_rfl) (by kernel_rfl) (by kernel_rfl)
noncomputable def k_i_RoutesBeyond:=Kok.mk2 seat 30 ⟨[.v false 1,.v false 1,.v false 1,.v false 1],[(false,[.o true])]⟩ p_i_RoutesBeyond F_i_RoutesBeyond [k_i_WaysIn,k_i_RoutesWithin,k_i_WayTo,k_i_Together,k_i_hasInt,k_i_copyWay] Try.func30 (by kernel_rfl) (by kernel_rfl) (by kernel_rfl)
noncomputable def k_FnExactRoutesBeyond:=Kok.mk2 seat 5 ⟨[.v false 1,.v false 1,.v false 1,.v false 1],[(false,[.s])]⟩ p_FnExactRoutesBeyond F_FnExactRoutesBeyond [k_szRecordS,k_toRecordS,k_eqWayS,k_eqRecordS,k_heldWayS,k_toIntS,k_eqIntS,k_s_RoutesBeyond,k_i_RoutesBeyond] Try.func5 (by kernel_rfl) (by kernel_rfl) (by kernel_rfl)
end Go.Proofs.YtlofiplkmgmnfaaWA

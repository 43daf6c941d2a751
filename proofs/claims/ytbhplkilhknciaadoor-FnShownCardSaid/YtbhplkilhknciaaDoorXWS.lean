/- The walk: each function does as its plain program says (printed by a program). Conditions: none. -/
import Derived.Test.YtbhplkilhknciaaDoorChecked
import Derived.Test.YtbhplkilhknciaaDoorKe
import Derived.Test.YtbhplkilhknciaaDoorXPS
import Derived.Test.YtbhplkilhknciaaDoorXItoaW
namespace Go.Proofs.YtbhplkilhknciaaDoorWS
open Go.Proofs.YtbhplkilhknciaaDoorC
theorem fc {α:Type} {p:α→Prop} {a:α} {l:List α} (h:p a∧∀ x∈l,p x):∀ x∈a :: l,p x:=List.forall_mem_cons.2 h
theorem f0 {α:Type} {p:α→Prop}:∀ x∈([]:List α),p x:=fun _ h=>nomatch h
def lty:List (Nat × TI):=[
 (3,⟨1,8,false,[.p (.k (.int .i64 0))],0,[],1⟩),
 (4,⟨1,1,false,[.p (.k (.bool false))],0,[],4⟩),
 (5,⟨1,1,false,[.p (.k (.int .u8 0))],0,[],1⟩),
 (9,⟨1,16,false,[.p (.k (.string ByteArray.empty))],0,[],2⟩),
 (22,⟨1,24,false,[.n],5,[],3⟩),
 (24,⟨1,24,false,[.n],3,[],3⟩),
 (26,⟨6,64,true,[.p (.k (.bool false)),.p (.k (.int .i64 0)),.p (.k (.int .i64 0)),.p (.k (.int .i64 0)),.p (.k (.int .i64 0)),.n],0,[(0,1),(1,1),(2,1),(3,1),(4,1),(5,1)],0⟩),
 (31,⟨6,64,true,[.p (.k (.bool false)),.p (.k (.int .i64 0)),.p (.k (.int .i64 0)),.p (.k (.int .i64 0)),.p (.k (.int .i64 0)),.n],0,[(0,1),(1,1),(2,1),(3,1),(4,1),(5,1)],0⟩),
 (38,⟨1,24,false,[.n],26,[],3⟩),
 (46,⟨3,40,true,[.n,.p (.k (.int .i64 0)),.p (.k (.int .i64 0))],0,[(0,1),(1,1),(2,1)],0⟩),
 (47,⟨1,24,false,[.n],58,[],3⟩),
 (48,⟨1,24,false,[.n],62,[],3⟩),
 (50,⟨3,56,true,[.p (.k (.int .i64 0)),.n,.n],0,[(0,1),(1,1),(2,1)],0⟩),
 (52,⟨1,24,false,[.n],4,[],3⟩),
 (58,⟨4,32,true,[.p (.k (.int .i64 0)),.p (.k (.int .i64 0)),.p (.k (.int .i64 0)),.p (.k (.int .i64 0))],0,[(0,1),(1,1),(2,1),(3,1)],5⟩),
 (62,⟨4,32,true,[.p (.k (.int .i64 0)),.p (.k (.int .i64 0)),.p (.k (.int .i64 0)),.p (.k (.bool false))],0,[(0,1),(1,1),(2,1),(3,1)],5⟩),
 (63,⟨1,24,false,[.n],76,[],3⟩),
 (74,⟨1,24,false,[.n],79,[],3⟩),
 (76,⟨8,80,true,[.p (.k (.int .i64 0)),.p (.k (.int .i64 0)),.p (.k (.int .i64 0)),.p (.k (.int .i64 0)),.p (.k (.int .i64 0)),.n,.p (.k (.int .i64 0)),.p (.k (.bool false))],0,[(0,1),(1,1),(2,1),(3,1),(4,1),(5,1),(6,1),(7,1)],0⟩),
 (79,⟨2,16,true,[.p (.k (.int .i64 0)),.p (.k (.int .i64 0))],0,[(0,1),(1,1)],5⟩),
 (83,⟨1,24,false,[.n],88,[],3⟩),
 (88,⟨3,40,true,[.p (.k (.int .i64 0)),.p (.k (.int .i64 0)),.n],0,[(0,1),(1,1),(2,1)],0⟩),
 (98,⟨1,24,false,[.n],83,[],3⟩),
 (117,⟨1,24,false,[.n],24,[],3⟩)]
def lhint:List ((Nat × Nat × Nat) × Js):=[
 ((8,0,0),[(0,false,.phi false [.p]),(4,false,.phi false [.p])]),
 ((8,2,15),[(5,false,.phi false [.p])]),
 ((7,0,0),[(3,false,.phi false [.p]),(32,false,.phi false [.p])]),
 ((7,2,20),[(3,false,.phi false [.p])]),
 ((7,2,7),[(3,false,.phi false [.p])]),
 ((14,0,0),[(3,false,.phi false [.p]),(4,false,.phi false [.p])]),
 ((25,2,34),[(0,true,.phi true [.k,.p,.k]),(3,false,.phi false [.p])]),
 ((28,0,0),[(5,false,.phi false [.o true]),(6,false,.phi false [.p])]),
 ((28,0,2),[(5,false,.phi false [.o true]),(7,false,.phi false [.p])]),
 ((28,2,20),[(5,false,.phi false [.o true])]),
 ((28,2,43),[(5,false,.phi false [.o true])]),
 ((29,0,0),[(5,false,.phi false [.o true]),(6,false,.phi false [.p])]),
 ((29,0,2),[(5,false,.phi false [.o true]),(7,false,.phi false [.p])]),
 ((29,2,20),[(5,false,.phi false [.o true])]),
 ((29,2,43),[(5,false,.phi false [.o true])]),
 ((22,0,0),[(4,false,.phi false [.p]),(0,true,.phi true [.p,.p,.p]),(3,true,.phi true [.k,.o true,.k])]),
 ((22,0,2),[(8,false,.phi false [.p]),(0,true,.phi true [.p,.p,.p]),(3,true,.phi true [.k,.k,.o true])]),
 ((22,2,36),[(5,false,.phi false [.p]),(6,false,.phi false [.p])]),
 ((22,2,43),[(6,false,.phi false [.p])]),
 ((22,2,51),[(5,false,.phi false [.p]),(6,false,.phi false [.p])]),
 ((22,2,66),[(3,true,.phi true [.k,.o true,.k])]),
 ((38,0,0),[(2,false,.phi false [.p]),(3,false,.phi false [.p])]),
 ((38,0,2),[(2,false,.phi false [.p]),(4,false,.phi false [.p])]),
 ((61,0,0),[(8,false,.phi false [.p]),(9,false,.phi false [.p])]),
 ((47,0,0),[(7,false,.phi false [.o true]),(8,false,.phi false [.p])]),
 ((47,2,19),[(7,false,.phi false [.o true])]),
 ((33,0,0),[(5,false,.phi false [.o true]),(6,false,.phi false [.p])]),
 ((33,2,17),[(5,false,.phi false [.o true])]),
 ((39,0,0),[(10,false,.phi false [.p]),(11,false,.phi false [.p])]),
 ((40,0,0),[(5,false,.phi false [.o false]),(6,false,.phi false [.p])]),
 ((40,0,2),[(5,false,.phi false [.o false]),(7,false,.phi false [.p])]),
 ((40,2,20),[(5,false,.phi false [.o false])]),
 ((40,2,43),[(5,false,.phi false [.o false])]),
 ((70,0,0),[(2,false,.phi false [.p]),(3,false,.phi false [.p])]),
 ((45,0,0),[(2,false,.phi false [.p]),(3,false,.phi false [.p])]),
 ((77,0,0),[(4,false,.phi false [.p]),(5,false,.phi false [.p])]),
 ((78,0,0),[(8,false,.phi false [.p]),(11,false,.phi false [.p])]),
 ((67,0,0),[(6,false,.phi false [.p]),(10,false,.rows [(0,true)])]),
 ((67,0,2),[(9,false,.phi false [.p]),(10,false,.rows [(0,true)])]),
 ((67,2,48),[(10,false,.rows [(0,true)])]),
 ((71,0,0),[(4,false,.phi false [.p]),(5,false,.phi false [.p])]),
 ((60,0,0),[(5,false,.phi false [.o true]),(6,false,.phi false [.p])]),
 ((60,2,19),[(5,false,.phi false [.o true])]),
 ((54,0,0),[(14,false,.phi false [.p]),(47,false,.rows [(0,true)])]),
 ((54,0,2),[(15,false,.phi false [.p]),(48,false,.rows [(0,false)]),(49,false,.rows [(0,true)]),(47,false,.rows [(0,true)])]),
 ((54,0,4),[(16,false,.phi false [.p]),(17,false,.phi false [.p])]),
 ((54,0,6),[(18,false,.phi false [.p]),(48,false,.rows [(0,false)]),(47,false,.rows [(0,true)])]),
 ((54,0,8),[(7,false,.phi false [.o true]),(22,false,.phi false [.p])]),
 ((54,2,126),[(20,false,.phi false [.p])]),
 ((54,2,147),[(48,false,.rows [(0,false)]),(47,false,.rows [(0,true)])]),
 ((54,2,163),[(48,false,.rows [(0,false)])]),
 ((54,2,180),[(7,false,.phi false [.o true])]),
 ((54,2,94),[(16,false,.phi false [.p])]),
 ((55,0,0),[(5,false,.phi false [.p]),(6,false,.phi false [.p])]),
 ((43,0,0),[(8,false,.phi false [.o false]),(9,false,.phi false [.p])]),
 ((43,0,2),[(7,false,.phi false [.o false]),(10,false,.phi false [.p])]),
 ((43,0,4),[(12,false,.phi false [.p]),(13,false,.phi false [.p]),(11,true,.phi true [.p,.p,.p])]),
 ((43,2,56),[(14,true,.phi true [.p,.p,.p])]),
 ((43,2,61),[(7,false,.phi false [.o false])]),
 ((57,0,0),[(6,false,.phi false [.p]),(16,false,.phi false [.p]),(12,true,.phi true [.p,.p,.p])]),
 ((57,2,81),[(18,true,.phi true [.p,.p,.p])]),
 ((44,0,0),[(11,false,.phi false [.o false]),(12,false,.phi false [.p])]),
 ((44,0,2),[(9,false,.phi false [.o false]),(13,false,.phi false [.p])]),
 ((44,0,4),[(17,false,.phi false [.p]),(18,false,.phi false [.p]),(16,true,.phi true [.p,.p,.p])]),
 ((44,2,88),[(9,false,.phi false [.o false])]),
 ((51,0,0),[(10,false,.phi false [.o true]),(11,false,.phi false [.p])]),
 ((51,0,2),[(9,false,.phi false [.o true]),(15,false,.phi false [.p])]),
 ((51,2,37),[(10,false,.phi false [.o true])]),
 ((51,2,84),[(18,true,.phi true [.p,.p,.p]),(19,false,.phi false [.p])]),
 ((51,2,91),[(9,false,.phi false [.o true])]),
 ((52,0,0),[(5,false,.phi false [.p]),(6,false,.phi false [.p])]),
 ((52,2,21),[(7,true,.phi true [.k,.k,.k,.k,.p,.k,.k,.k])]),
 ((41,0,0),[(7,false,.phi false [.o false]),(8,false,.phi false [.p])]),
 ((41,0,2),[(9,false,.phi false [.o false]),(10,false,.phi false [.p])]),
 ((41,2,49),[(9,false,.phi false [.o false])]),
 ((42,0,0),[(3,false,.phi false [.o true]),(4,false,.phi false [.p])]),
 ((30,0,0),[(8,false,.phi false [.p]),(9,false,.phi false [.p])]),
 ((30,0,10),[(8,false,.phi false [.p]),(18,false,.phi false [.p])]),
 ((30,0,2),[(8,false,.phi false [.p]),(11,false,.phi false [.p])]),
 ((30,0,4),[(13,false,.phi false [.p]),(12,true,.phi true [.k,.k,.k,.k,.k,.o true,.k,.k])]),
 ((30,0,6),[(8,false,.phi false [.p]),(15,false,.phi false [.p])]),
 ((30,0,8),[(8,false,.phi false [.p]),(17,false,.phi false [.p])]),
 ((30,2,119),[(8,false,.phi false [.p])]),
 ((30,2,150),[(8,false,.phi false [.p])]),
 ((30,2,90),[(12,true,.phi true [.k,.k,.k,.k,.k,.o true,.k,.k])]),
 ((46,0,0),[(15,false,.phi false [.p]),(16,false,.phi false [.p]),(14,true,.phi true [.k,.k,.p,.p,.p,.p])]),
 ((46,2,106),[(14,true,.phi true [.k,.k,.k,.k,.k,.p])]),
 ((46,2,70),[(14,true,.phi true [.k,.k,.p,.k,.k,.k]),(20,false,.phi false [.p]),(21,false,.phi false [.p])]),
 ((46,2,76),[(14,true,.phi true [.k,.k,.k,.p,.p,.p])]),
 ((32,0,0),[(9,false,.phi false [.o false]),(12,false,.phi false [.p])]),
 ((32,0,2),[(9,false,.phi false [.o false]),(13,false,.phi false [.p])]),
 ((32,0,4),[(9,false,.phi false [.o false]),(14,false,.phi false [.p])]),
 ((32,2,109),[(15,true,.phi true [.p,.p,.p,.p,.p,.p]),(16,false,.phi false [.p])]),
 ((32,2,119),[(9,false,.phi false [.o false]),(15,true,.phi true [.k,.k,.k,.k,.k,.d])]),
 ((32,2,43),[(9,false,.phi false [.o false])]),
 ((32,2,75),[(9,false,.phi false [.o false])]),
 ((15,0,0),[(6,false,.phi false [.p]),(0,true,.phi true [.p,.p,.p]),(14,false,.rows [(0,true)])]),
 ((15,0,2),[(7,false,.phi false [.p]),(17,false,.rows [(0,true)])]),
 ((15,2,54),[(8,false,.phi false [.o false]),(47,false,.phi false [.d]),(48,false,.phi false [.d])]),
 ((3,0,0),[(5,false,.phi false [.p]),(6,false,.phi false [.p])]),
 ((3,2,31),[(7,false,.phi false [.p])])]
def lfz:List (Nat × Nat × Nat):=[]
def lnest:List Nat:=[4,3]
noncomputable def lfn:List (Nat × Func):=[(14,Tryd.f14)]
noncomputable def cx:Cx:={ ty:=tiOf lty,sg:=fun _=>none,fn:=fnOf lfn,hint:=hintOf lhint,fz:=fzOf lfz,nest:=memN lnest }
theorem in_s_l01New:FnIn Tryd.prog 14:=.mk Tryd.func14 (by kernel_rfl) (by kernel_rfl)
theorem seat:Seat Tryd.prog cx:=⟨tys_ok (l:=lty) (by kernel_rfl) rfl,into_of (l:=lfn) (fc ⟨⟨Tryd.func14,in_s_l01New⟩,f0⟩) rfl,by kernel_rfl⟩
noncomputable def k_s_l01Figure:=Kok.mk2 seat 18 ⟨[.v false 1],[(false,[.s])]⟩ p_s_l01Figure F_s_l01Figure [] Tryd.func18 (by kernel_rfl) (by kernel_rfl) (by kernel_rfl)
noncomputable def k_s_Decimal:=Kok.mk2 seat 8 ⟨[.v false 1],[(false,[.s])]⟩ p_s_Decimal F_s_Decimal [k_s_l01Figure] Tryd.func8 (by kernel_rfl) (by kernel_rfl) (by kernel_rfl)
noncomputable def k_i_Decimal:=Kok.mk2 seat 17 ⟨[.v false 1],[(false,[.s])]⟩ p_i_Decimal F_i_Decimal [k_strconv_Itoa] Tryd.func17 (by kernel_rfl) (by kernel_rfl) (by kernel_rfl)
noncomputable def k_i_ShowRoute:=Kok.mk2 seat 7 ⟨[.v true 6],[(false,[.s])]⟩ p_i_ShowRoute F_i_ShowRoute [k_i_Decimal] Tryd.func7 (by kernel_rfl) (by kernel_rfl) (by kernel_rfl)
noncomputable def k_big:=Kok.mk2 seat 5 ⟨[.v false 1],[(false,[.s])]⟩ p_big F_big [] Tryd.func5 (by kernel_rfl) (by kernel_rfl) (by kernel_rfl)
noncomputable def k_s_l01Byte:=Kok.mk2 seat 25 ⟨[.x 3],[(false,[.s])]⟩ p_s_l01Byte F_s_l01Byte [] Tryd.func25 (by kernel_rfl) (by kernel_rfl) (by kernel_rfl)
noncomputable def k_s_l01Below:=Kok.mk2 seat 16 ⟨[.x 3,.v false 1],[(false,[.s])]⟩ p_s_l01Below F_s_l01Below [k_s_l01Byte] Tryd.func16 (by kernel_rfl) (by kernel_rfl) (by kernel_rfl)
noncomputable def k_s_l01PickInt:=Kok.mk2 seat 27 ⟨[.x 3,.v false 1],[(false,[.s])]⟩ p_s_l01PickInt F_s_l01PickInt [k_s_l01Below] Tryd.func27 (by kernel_rfl) (by kernel_rfl) (by kernel_rfl)
noncomputable def k_s_l03Ahead:=Kok.mk2 seat 36 ⟨[.v true 4,.v true 4],[(false,[.s])]⟩ p_s_l03Ahead F_s_l03Ahead [] Tryd.func36 (by kernel_rfl) (by kernel_rfl) (by kernel_rfl)
noncomputable def k_s_l03Put:=Kok.mk2 seat 28 ⟨[.v false 1,.v true 4],[(false,[.o true])]⟩ p_s_l03Put F_s_l03Put [k_s_l03Ahead] Tryd.func28 (by kernel_rfl) (by kernel_rfl) (by kernel_rfl)
noncomputable def k_s_l01Once:=Kok.mk2 seat 23 ⟨[.x 3,.v false 1],[(false,[.s])]⟩ p_s_l01Once F_s_l01Once [k_s_l01Below] Tryd.func23 (by kernel_rfl) (by kernel_rfl) (by kernel_rfl)
noncomputable def k_s_l03Thing:=Kok.mk2 seat 37 ⟨[.v true 4,.v true 4],[(false,[.s])]⟩ p_s_l03Thing F_s_l03Thing [] Tryd.func37 (by kernel_rfl) (by kernel_rfl) (by kernel_rfl)
noncomputable def k_s_l03PutThing:=Kok.mk2 seat 29 ⟨[.v false 1,.v true 4],[(false,[.o true])]⟩ p_s_l03PutThing F_s_l03PutThing [k_s_l03Thing] Tryd.func29 (by kernel_rfl) (by kernel_rfl) (by kernel_rfl)
noncomputable def k_s_l03Net:=Kok.mk2 seat 22 ⟨[.x 3],[(true,[.s,.o false,.o false])]⟩ p_s_l03Net F_s_l03Net [k_s_l01Below,k_s_l01Once,k_s_l01PickInt,k_s_l03Put,k_s_l03PutThing] Tryd.func22 (by kernel_rfl) (by kernel_rfl) (by kernel_rfl)
noncomputable def k_s_l01In:=Kok.mk2 seat 31 ⟨[.v false 1,.v false 1,.v false 1],[(false,[.s])]⟩ p_s_l01In F_s_l01In [] Tryd.func31 (by kernel_rfl) (by kernel_rfl) (by kernel_rfl)
noncomputable def k_s_LinkOk:=Kok.mk2 seat 49 ⟨[.v false 1,.v true 4],[(false,[.s])]⟩ p_s_LinkOk F_s_LinkOk [k_s_l01In] Tryd.func49 (by kernel_rfl) (by kernel_rfl) (by kernel_rfl)
noncomputable def k_s_NetOk:=Kok.mk2 seat 38 ⟨[.v true 3],[(false,[.s])]⟩ p_s_NetOk F_s_NetOk [k_s_l01In,k_s_l03Ahead,k_s_l03Thing,k_s_LinkOk] Tryd.func38 (by kernel_rfl) (by kernel_rfl) (by kernel_rfl)
noncomputable def k_s_CostTo:=Kok.mk2 seat 61 ⟨[.v true 3,.v false 1,.v false 1,.v false 1],[(false,[.s])]⟩ p_s_CostTo F_s_CostTo [] Tryd.func61 (by kernel_rfl) (by kernel_rfl) (by kernel_rfl)
noncomputable def k_s_NextTo:=Kok.mk2 seat 47 ⟨[.v true 3,.v false 1,.v false 1],[(false,[.p])]⟩ p_s_NextTo F_s_NextTo [k_s_CostTo] Tryd.func47 (by kernel_rfl) (by kernel_rfl) (by kernel_rfl)
noncomputable def k_s_AreasOf:=Kok.mk2 seat 33 ⟨[.v true 3,.v false 1],[(false,[.p])]⟩ p_s_AreasOf F_s_AreasOf [k_s_NextTo] Tryd.func33 (by kernel_rfl) (by kernel_rfl) (by kernel_rfl)
noncomputable def k_s_l13Open:=Kok.mk2 seat 39 ⟨[.v true 3,.v false 1,.v false 1,.v false 1,.v false 1],[(false,[.s])]⟩ p_s_l13Open F_s_l13Open [] Tryd.func39 (by kernel_rfl) (by kernel_rfl) (by kernel_rfl)
noncomputable def k_s_Before:=Kok.mk2 seat 50 ⟨[.v true 8,.v true 8],[(false,[.s])]⟩ p_s_Before F_s_Before [] Tryd.func50 (by kernel_rfl) (by kernel_rfl) (by kernel_rfl)
noncomputable def k_s_l05Put:=Kok.mk2 seat 40 ⟨[.v false 1,.v true 8],[(false,[.p])]⟩ p_s_l05Put F_s_l05Put [k_s_Before] Tryd.func40 (by kernel_rfl) (by kernel_rfl) (by kernel_rfl)
noncomputable def k_s_Border:=Kok.mk2 seat 34 ⟨[.v true 3,.v false 1],[(false,[.s])]⟩ p_s_Border F_s_Border [k_s_AreasOf] Tryd.func34 (by kernel_rfl) (by kernel_rfl) (by kernel_rfl)
noncomputable def k_s_l04Near:=Kok.mk2 seat 70 ⟨[.v true 8],[(false,[.s])]⟩ p_s_l04Near F_s_l04Near [k_s_l01In] Tryd.func70 (by kernel_rfl) (by kernel_rfl) (by kernel_rfl)
noncomputable def k_s_RecordOk:=Kok.mk2 seat 58 ⟨[.v true 8],[(false,[.s])]⟩ p_s_RecordOk F_s_RecordOk [k_s_l01In,k_s_l04Near] Tryd.func58 (by kernel_rfl) (by kernel_rfl) (by kernel_rfl)
noncomputable def k_s_StoreOk:=Kok.mk2 seat 45 ⟨[.v false 1],[(false,[.s])]⟩ p_s_StoreOk F_s_StoreOk [k_s_Before,k_s_RecordOk] Tryd.func45 (by kernel_rfl) (by kernel_rfl) (by kernel_rfl)
noncomputable def k_s_SameKey:=Kok.mk2 seat 81 ⟨[.v true 8,.v true 8],[(false,[.s])]⟩ p_s_SameKey F_s_SameKey [] Tryd.func81 (by kernel_rfl) (by kernel_rfl) (by kernel_rfl)
noncomputable def k_s_l05At:=Kok.mk2 seat 77 ⟨[.v false 1,.v true 8],[(false,[.s])]⟩ p_s_l05At F_s_l05At [k_s_SameKey] Tryd.func77 (by kernel_rfl) (by kernel_rfl) (by kernel_rfl)
noncomputable def k_s_l06Node:=Kok.mk2 seat 66 ⟨[.v false 1,.v false 1,.v false 1],[(true,[.s,.s,.s,.s,.s,.p,.s,.s]),(false,[.s])]⟩ p_s_l06Node F_s_l06Node [k_s_l05At] Tryd.func66 (by kernel_rfl) (by kernel_rfl) (by kernel_rfl)
noncomputable def k_s_l06Tells:=Kok.mk2 seat 78 ⟨[.v false 1,.v false 1,.v false 1,.v false 1],[(false,[.s])]⟩ p_s_l06Tells F_s_l06Tells [k_s_l06Node] Tryd.func78 (by kernel_rfl) (by kernel_rfl) (by kernel_rfl)
noncomputable def k_s_l06Links:=Kok.mk2 seat 67 ⟨[.v false 1,.v false 1],[(false,[.p])]⟩ p_s_l06Links F_s_l06Links [k_s_l01In,k_s_l06Node,k_s_l06Tells] Tryd.func67 (by kernel_rfl) (by kernel_rfl) (by kernel_rfl)
noncomputable def k_s_l03In:=Kok.mk2 seat 71 ⟨[.v false 1,.v false 1],[(false,[.s])]⟩ p_s_l03In F_s_l03In [] Tryd.func71 (by kernel_rfl) (by kernel_rfl) (by kernel_rfl)
noncomputable def k_s_l06Add:=Kok.mk2 seat 60 ⟨[.v false 1,.v false 1],[(false,[.o true])]⟩ p_s_l06Add F_s_l06Add [k_s_l03In] Tryd.func60 (by kernel_rfl) (by kernel_rfl) (by kernel_rfl)
noncomputable def k_s_WaysIn:=Kok.mk2 seat 54 ⟨[.v false 1,.v false 1,.v false 1],[(false,[.p])]⟩ p_s_WaysIn F_s_WaysIn [k_s_l01In,k_s_StoreOk,k_s_l06Add,k_s_l06Node,k_s_l06Links] Tryd.func54 (by kernel_rfl) (by kernel_rfl) (by kernel_rfl)
noncomputable def k_s_l06Copy:=Kok.mk2 seat 68 ⟨[.v true 3],[(true,[.s,.s,.p])]⟩ p_s_l06Copy F_s_l06Copy [] Tryd.func68 (by kernel_rfl) (by kernel_rfl) (by kernel_rfl)
noncomputable def k_s_WayTo:=Kok.mk2 seat 55 ⟨[.v false 1,.v false 1],[(true,[.s,.s,.p]),(false,[.s])]⟩ p_s_WayTo F_s_WayTo [k_s_l06Copy] Tryd.func55 (by kernel_rfl) (by kernel_rfl) (by kernel_rfl)
noncomputable def k_s_Better:=Kok.mk2 seat 69 ⟨[.v true 3,.v true 3],[(false,[.s])]⟩ p_s_Better F_s_Better [] Tryd.func69 (by kernel_rfl) (by kernel_rfl) (by kernel_rfl)
noncomputable def k_s_Together:=Kok.mk2 seat 56 ⟨[.v true 3,.v true 3],[(true,[.s,.s,.p])]⟩ p_s_Together F_s_Together [k_s_l06Add,k_s_l06Copy,k_s_Better] Tryd.func56 (by kernel_rfl) (by kernel_rfl) (by kernel_rfl)
noncomputable def k_s_RoutesWithin:=Kok.mk2 seat 43 ⟨[.v false 1,.v false 1,.v false 1],[(false,[.p])]⟩ p_s_RoutesWithin F_s_RoutesWithin [k_s_WaysIn,k_s_WayTo,k_s_Together] Tryd.func43 (by kernel_rfl) (by kernel_rfl) (by kernel_rfl)
noncomputable def k_s_l07Beyond:=Kok.mk2 seat 57 ⟨[.v false 1,.v false 1,.v false 1,.v false 1,.v false 1,.v true 3,.v false 1],[(true,[.s,.s,.p]),(false,[.s])]⟩ p_s_l07Beyond F_s_l07Beyond [k_s_WayTo,k_s_Together] Tryd.func57 (by kernel_rfl) (by kernel_rfl) (by kernel_rfl)
noncomputable def k_s_RoutesBeyond:=Kok.mk2 seat 44 ⟨[.v false 1,.v false 1,.v false 1,.v false 1],[(false,[.p])]⟩ p_s_RoutesBeyond F_s_RoutesBeyond [k_s_RoutesWithin,k_s_StoreOk,k_s_WaysIn,k_s_WayTo,k_s_l07Beyond] Tryd.func44 (by kernel_rfl) (by kernel_rfl) (by kernel_rfl)
noncomputable def k_s_Beyond:=Kok.mk2 seat 51 ⟨[.v false 1,.v false 1,.v false 1,.v false 1],[(false,[.p])]⟩ p_s_Beyond F_s_Beyond [k_s_RoutesWithin,k_s_RoutesBeyond,k_s_StoreOk,k_s_WaysIn,k_s_WayTo] Tryd.func51 (by kernel_rfl) (by kernel_rfl) (by kernel_rfl)
noncomputable def k_s_l08With:=Kok.mk2 seat 52 ⟨[.v false 1,.v false 1],[(false,[.p])]⟩ p_s_l08With F_s_l08With [k_s_l05Put] Tryd.func52 (by kernel_rfl) (by kernel_rfl) (by kernel_rfl)
noncomputable def k_s_l13Beyond:=Kok.mk2 seat 41 ⟨[.v false 1,.v false 1,.v false 1],[(false,[.p])]⟩ p_s_l13Beyond F_s_l13Beyond [k_s_Beyond,k_s_l08With] Tryd.func41 (by kernel_rfl) (by kernel_rfl) (by kernel_rfl)
noncomputable def k_s_l04Copy:=Kok.mk2 seat 53 ⟨[.v true 8],[(true,[.s,.s,.s,.s,.s,.o true,.s,.s])]⟩ p_s_l04Copy F_s_l04Copy [] Tryd.func53 (by kernel_rfl) (by kernel_rfl) (by kernel_rfl)
noncomputable def k_s_l04CopyList:=Kok.mk2 seat 42 ⟨[.v false 1],[(false,[.o true])]⟩ p_s_l04CopyList F_s_l04CopyList [k_s_l04Copy] Tryd.func42 (by kernel_rfl) (by kernel_rfl) (by kernel_rfl)
noncomputable def k_s_Ideal:=Kok.mk2 seat 30 ⟨[.v true 3,.v false 1,.v false 1],[(false,[.p]),(false,[.s])]⟩ p_s_Ideal F_s_Ideal [k_s_AreasOf,k_s_Border,k_s_NetOk,k_s_l13Open,k_s_l05Put,k_s_l13Beyond,k_s_l04CopyList] Tryd.func30 (by kernel_rfl) (by kernel_rfl) (by kernel_rfl)
noncomputable def k_s_l07Owner:=Kok.mk2 seat 59 ⟨[.v false 1,.v false 1,.v false 1,.v false 1],[(true,[.s,.s,.p]),(false,[.s])]⟩ p_s_l07Owner F_s_l07Owner [k_s_WayTo] Tryd.func59 (by kernel_rfl) (by kernel_rfl) (by kernel_rfl)
noncomputable def k_s_l07Thing:=Kok.mk2 seat 46 ⟨[.v false 1,.v false 1,.v false 1,.v false 1,.v false 1,.v false 1],[(true,[.s,.s,.s,.s,.s,.p]),(false,[.s])]⟩ p_s_l07Thing F_s_l07Thing [k_s_l07Owner,k_s_l06Add] Tryd.func46 (by kernel_rfl) (by kernel_rfl) (by kernel_rfl)
noncomputable def k_s_RoutesOf:=Kok.mk2 seat 32 ⟨[.v false 1,.v false 1,.v false 1,.v false 1],[(false,[.o false])]⟩ p_s_RoutesOf F_s_RoutesOf [k_s_RoutesWithin,k_s_RoutesBeyond,k_s_StoreOk,k_s_l07Thing] Tryd.func32 (by kernel_rfl) (by kernel_rfl) (by kernel_rfl)
noncomputable def k_s_TrueRoutes:=Kok.mk2 seat 24 ⟨[.v true 3,.v false 1,.v false 1,.v false 1],[(false,[.o false])]⟩ p_s_TrueRoutes F_s_TrueRoutes [k_s_Ideal,k_s_l01In,k_s_RoutesOf,k_s_AreasOf,k_s_Border] Tryd.func24 (by kernel_rfl) (by kernel_rfl) (by kernel_rfl)
noncomputable def k_s_l11Routes:=Kok.mk2 seat 15 ⟨[.x 3],[(false,[.o false])]⟩ p_s_l11Routes F_s_l11Routes [k_s_l01Below,k_s_l03Net,k_s_l01Once,k_s_TrueRoutes] Tryd.func15 (by kernel_rfl) (by kernel_rfl) (by kernel_rfl)
noncomputable def k_s_DrawShowRoute:=Kok.mk2 seat 6 ⟨[.v false 1],[(true,[.s,.s,.s,.s,.s,.p])]⟩ p_s_DrawShowRoute F_s_DrawShowRoute [k_s_l11Routes,k_s_l01Below] Tryd.func6 (by kernel_rfl) (by kernel_rfl) (by kernel_rfl)
noncomputable def k_begins:=Kok.mk2 seat 9 ⟨[.v false 1,.v false 1],[(false,[.s])]⟩ p_begins F_begins [] Tryd.func9 (by kernel_rfl) (by kernel_rfl) (by kernel_rfl)
noncomputable def k_FnShown:=Kok.mk2 seat 3 ⟨[.v false 1],[(false,[.s])]⟩ p_FnShown F_FnShown [k_big,k_s_DrawShowRoute,k_i_ShowRoute,k_s_Decimal,k_begins] Tryd.func3 (by kernel_rfl) (by kernel_rfl) (by kernel_rfl)
end Go.Proofs.YtbhplkilhknciaaDoorWS

/- The walk: each function does as its plain program says (printed by a program). Conditions: none. -/
import Derived.Test.YtlofiplkmgmnfaaChecked
import Derived.Test.YtlofiplkmgmnfaaKe
import Derived.Test.YtlofiplkmgmnfaaXPB
namespace Go.Proofs.YtlofiplkmgmnfaaWB
open Go.Proofs.YtlofiplkmgmnfaaC
theorem fc {α:Type} {p:α→Prop} {a:α} {l:List α} (h:p a∧∀ x∈l,p x):∀ x∈a :: l,p x:=List.forall_mem_cons.2 h
theorem f0 {α:Type} {p:α→Prop}:∀ x∈([]:List α),p x:=fun _ h=>nomatch h
def lty:List (Nat × TI):=[
 (3,⟨1,8,false,[.p (.k (.int .i64 0))],0,[],1⟩),
 (4,⟨1,1,false,[.p (.k (.bool false))],0,[],4⟩),
 (5,⟨1,1,false,[.p (.k (.int .u8 0))],0,[],1⟩),
 (24,⟨1,24,false,[.n],70,[],3⟩),
 (26,⟨1,24,false,[.n],66,[],3⟩),
 (33,⟨1,24,false,[.n],3,[],3⟩),
 (45,⟨1,24,false,[.n],4,[],3⟩),
 (49,⟨1,24,false,[.n],88,[],3⟩),
 (50,⟨1,24,false,[.n],91,[],3⟩),
 (52,⟨3,56,true,[.p (.k (.int .i64 0)),.n,.n],0,[(0,1),(1,1),(2,1)],0⟩),
 (60,⟨1,24,false,[.n],5,[],3⟩),
 (64,⟨1,24,false,[.n],137,[],3⟩),
 (66,⟨8,80,true,[.p (.k (.int .i64 0)),.p (.k (.int .i64 0)),.p (.k (.int .i64 0)),.p (.k (.int .i64 0)),.p (.k (.int .i64 0)),.n,.p (.k (.int .i64 0)),.p (.k (.bool false))],0,[(0,1),(1,1),(2,1),(3,1),(4,1),(5,1),(6,1),(7,1)],0⟩),
 (70,⟨3,40,true,[.p (.k (.int .i64 0)),.p (.k (.int .i64 0)),.n],0,[(0,1),(1,1),(2,1)],0⟩),
 (81,⟨1,24,false,[.n],85,[],3⟩),
 (85,⟨6,64,true,[.p (.k (.bool false)),.p (.k (.int .i64 0)),.p (.k (.int .i64 0)),.p (.k (.int .i64 0)),.p (.k (.int .i64 0)),.n],0,[(0,1),(1,1),(2,1),(3,1),(4,1),(5,1)],0⟩),
 (88,⟨4,32,true,[.p (.k (.int .i64 0)),.p (.k (.int .i64 0)),.p (.k (.int .i64 0)),.p (.k (.int .i64 0))],0,[(0,1),(1,1),(2,1),(3,1)],5⟩),
 (91,⟨4,32,true,[.p (.k (.int .i64 0)),.p (.k (.int .i64 0)),.p (.k (.int .i64 0)),.p (.k (.bool false))],0,[(0,1),(1,1),(2,1),(3,1)],5⟩),
 (94,⟨1,24,false,[.n],95,[],3⟩),
 (95,⟨1,24,false,[.n],165,[],3⟩),
 (108,⟨7,120,true,[.p (.k (.int .i64 0)),.p (.k (.int .i64 0)),.p (.k (.int .i64 0)),.n,.n,.n,.n],0,[(0,1),(1,1),(2,3),(5,1),(6,1)],0⟩),
 (123,⟨1,24,false,[.n],33,[],3⟩),
 (129,⟨1,24,false,[.n],24,[],3⟩),
 (137,⟨2,16,true,[.p (.k (.int .i64 0)),.p (.k (.int .i64 0))],0,[(0,1),(1,1)],5⟩),
 (165,⟨3,40,true,[.p (.k (.bool false)),.p (.k (.int .i64 0)),.n],0,[(0,1),(1,1),(2,1)],0⟩),
 (191,⟨3,40,true,[.n,.p (.k (.int .i64 0)),.p (.k (.int .i64 0))],0,[(0,1),(1,1),(2,1)],0⟩)]
def lhint:List ((Nat × Nat × Nat) × Js):=[
 ((120,0,0),[(3,false,.phi false [.p]),(4,false,.phi false [.p])]),
 ((143,2,34),[(0,true,.phi true [.k,.p,.k]),(3,false,.phi false [.p])]),
 ((185,0,0),[(5,false,.phi false [.o true]),(6,false,.phi false [.p])]),
 ((185,0,2),[(5,false,.phi false [.o true]),(7,false,.phi false [.p])]),
 ((185,2,20),[(5,false,.phi false [.o true])]),
 ((185,2,43),[(5,false,.phi false [.o true])]),
 ((186,0,0),[(5,false,.phi false [.o true]),(6,false,.phi false [.p])]),
 ((186,0,2),[(5,false,.phi false [.o true]),(7,false,.phi false [.p])]),
 ((186,2,20),[(5,false,.phi false [.o true])]),
 ((186,2,43),[(5,false,.phi false [.o true])]),
 ((121,0,0),[(4,false,.phi false [.p]),(0,true,.phi true [.p,.p,.p]),(3,true,.phi true [.k,.o true,.k])]),
 ((121,0,2),[(8,false,.phi false [.p]),(0,true,.phi true [.p,.p,.p]),(3,true,.phi true [.k,.k,.o true])]),
 ((121,2,36),[(5,false,.phi false [.p]),(6,false,.phi false [.p])]),
 ((121,2,43),[(6,false,.phi false [.p])]),
 ((121,2,51),[(5,false,.phi false [.p]),(6,false,.phi false [.p])]),
 ((121,2,66),[(3,true,.phi true [.k,.o true,.k])]),
 ((42,0,0),[(7,false,.phi false [.o true]),(9,false,.phi false [.p]),(12,true,.phi true [.p,.p,.p])]),
 ((42,0,2),[(8,false,.phi false [.o true]),(10,false,.phi false [.p]),(12,true,.phi true [.p,.p,.p])]),
 ((102,0,0),[(2,false,.phi false [.p]),(3,false,.phi false [.p])]),
 ((102,0,2),[(2,false,.phi false [.p]),(4,false,.phi false [.p])]),
 ((187,0,0),[(8,false,.phi false [.p]),(9,false,.phi false [.p])]),
 ((132,0,0),[(7,false,.phi false [.o true]),(8,false,.phi false [.p])]),
 ((132,2,19),[(7,false,.phi false [.o true])]),
 ((53,0,0),[(5,false,.phi false [.o true]),(6,false,.phi false [.p])]),
 ((53,2,17),[(5,false,.phi false [.o true])]),
 ((103,0,0),[(10,false,.phi false [.p]),(11,false,.phi false [.p])]),
 ((104,0,0),[(5,false,.phi false [.o false]),(6,false,.phi false [.p])]),
 ((104,0,2),[(5,false,.phi false [.o false]),(7,false,.phi false [.p])]),
 ((104,2,20),[(5,false,.phi false [.o false])]),
 ((104,2,43),[(5,false,.phi false [.o false])]),
 ((189,0,0),[(2,false,.phi false [.p]),(3,false,.phi false [.p])]),
 ((63,0,0),[(2,false,.phi false [.p]),(3,false,.phi false [.p])]),
 ((123,0,0),[(4,false,.phi false [.p]),(5,false,.phi false [.p])]),
 ((127,0,0),[(8,false,.phi false [.p]),(11,false,.phi false [.p])]),
 ((85,0,0),[(6,false,.phi false [.p]),(10,false,.rows [(0,true)])]),
 ((85,0,2),[(9,false,.phi false [.p]),(10,false,.rows [(0,true)])]),
 ((85,2,48),[(10,false,.rows [(0,true)])]),
 ((162,0,0),[(4,false,.phi false [.p]),(5,false,.phi false [.p])]),
 ((86,0,0),[(5,false,.phi false [.o true]),(6,false,.phi false [.p])]),
 ((86,2,19),[(5,false,.phi false [.o true])]),
 ((16,0,0),[(14,false,.phi false [.p]),(47,false,.rows [(0,true)])]),
 ((16,0,2),[(15,false,.phi false [.p]),(48,false,.rows [(0,false)]),(49,false,.rows [(0,true)]),(47,false,.rows [(0,true)])]),
 ((16,0,4),[(16,false,.phi false [.p]),(17,false,.phi false [.p])]),
 ((16,0,6),[(18,false,.phi false [.p]),(48,false,.rows [(0,false)]),(47,false,.rows [(0,true)])]),
 ((16,0,8),[(7,false,.phi false [.o true]),(22,false,.phi false [.p])]),
 ((16,2,126),[(20,false,.phi false [.p])]),
 ((16,2,147),[(48,false,.rows [(0,false)]),(47,false,.rows [(0,true)])]),
 ((16,2,163),[(48,false,.rows [(0,false)])]),
 ((16,2,180),[(7,false,.phi false [.o true])]),
 ((16,2,94),[(16,false,.phi false [.p])]),
 ((47,0,0),[(5,false,.phi false [.p]),(6,false,.phi false [.p])]),
 ((24,0,0),[(8,false,.phi false [.o false]),(9,false,.phi false [.p])]),
 ((24,0,2),[(7,false,.phi false [.o false]),(10,false,.phi false [.p])]),
 ((24,0,4),[(12,false,.phi false [.p]),(13,false,.phi false [.p]),(11,true,.phi true [.p,.p,.p])]),
 ((24,2,56),[(14,true,.phi true [.p,.p,.p])]),
 ((24,2,61),[(7,false,.phi false [.o false])]),
 ((99,0,0),[(6,false,.phi false [.p]),(16,false,.phi false [.p]),(12,true,.phi true [.p,.p,.p])]),
 ((99,2,81),[(18,true,.phi true [.p,.p,.p])]),
 ((29,0,0),[(11,false,.phi false [.o false]),(12,false,.phi false [.p])]),
 ((29,0,2),[(9,false,.phi false [.o false]),(13,false,.phi false [.p])]),
 ((29,0,4),[(17,false,.phi false [.p]),(18,false,.phi false [.p]),(16,true,.phi true [.p,.p,.p])]),
 ((29,2,88),[(9,false,.phi false [.o false])]),
 ((172,0,0),[(10,false,.phi false [.o true]),(11,false,.phi false [.p])]),
 ((172,0,2),[(9,false,.phi false [.o true]),(15,false,.phi false [.p])]),
 ((172,2,37),[(10,false,.phi false [.o true])]),
 ((172,2,84),[(18,true,.phi true [.p,.p,.p]),(19,false,.phi false [.p])]),
 ((172,2,91),[(9,false,.phi false [.o true])]),
 ((173,0,0),[(5,false,.phi false [.p]),(6,false,.phi false [.p])]),
 ((173,2,21),[(7,true,.phi true [.k,.k,.k,.k,.p,.k,.k,.k])]),
 ((105,0,0),[(7,false,.phi false [.o false]),(8,false,.phi false [.p])]),
 ((105,0,2),[(9,false,.phi false [.o false]),(10,false,.phi false [.p])]),
 ((105,2,49),[(9,false,.phi false [.o false])]),
 ((106,0,0),[(3,false,.phi false [.o true]),(4,false,.phi false [.p])]),
 ((32,0,0),[(8,false,.phi false [.p]),(9,false,.phi false [.p])]),
 ((32,0,10),[(8,false,.phi false [.p]),(18,false,.phi false [.p])]),
 ((32,0,2),[(8,false,.phi false [.p]),(11,false,.phi false [.p])]),
 ((32,0,4),[(13,false,.phi false [.p]),(12,true,.phi true [.k,.k,.k,.k,.k,.o true,.k,.k])]),
 ((32,0,6),[(8,false,.phi false [.p]),(15,false,.phi false [.p])]),
 ((32,0,8),[(8,false,.phi false [.p]),(17,false,.phi false [.p])]),
 ((32,2,119),[(8,false,.phi false [.p])]),
 ((32,2,150),[(8,false,.phi false [.p])]),
 ((32,2,90),[(12,true,.phi true [.k,.k,.k,.k,.k,.o true,.k,.k])]),
 ((131,0,0),[(5,false,.phi false [.p])]),
 ((131,4,6),[(0,false,.rows [(0,true)])]),
 ((92,0,0),[(10,false,.phi false [.p]),(3,false,.rows [(0,true)])]),
 ((92,2,47),[(12,true,.phi true [.k,.k,.o true])]),
 ((92,2,55),[(3,false,.rows [(0,true)]),(12,true,.phi true [.k,.k,.d])]),
 ((92,2,70),[(3,false,.rows [(0,true)])]),
 ((52,0,0),[(4,false,.phi false [.p]),(5,false,.phi false [.p])]),
 ((98,0,0),[(5,false,.phi false [.p])]),
 ((98,5,7),[(0,false,.rows [(0,true)])]),
 ((135,0,0),[(15,false,.phi false [.p]),(16,false,.phi false [.p]),(14,true,.phi true [.k,.k,.p,.p,.p,.p])]),
 ((135,2,106),[(14,true,.phi true [.k,.k,.k,.k,.k,.p])]),
 ((135,2,70),[(14,true,.phi true [.k,.k,.p,.k,.k,.k]),(20,false,.phi false [.p]),(21,false,.phi false [.p])]),
 ((135,2,76),[(14,true,.phi true [.k,.k,.k,.p,.p,.p])]),
 ((57,0,0),[(9,false,.phi false [.o false]),(12,false,.phi false [.p])]),
 ((57,0,2),[(9,false,.phi false [.o false]),(13,false,.phi false [.p])]),
 ((57,0,4),[(9,false,.phi false [.o false]),(14,false,.phi false [.p])]),
 ((57,2,109),[(15,true,.phi true [.p,.p,.p,.p,.p,.p]),(16,false,.phi false [.p])]),
 ((57,2,119),[(9,false,.phi false [.o false]),(15,true,.phi true [.k,.k,.k,.k,.k,.d])]),
 ((57,2,43),[(9,false,.phi false [.o false])]),
 ((57,2,75),[(9,false,.phi false [.o false])]),
 ((136,2,36),[(4,true,.phi false [.o true])]),
 ((141,0,0),[(4,false,.phi false [.p]),(9,false,.phi false [.p])]),
 ((64,0,0),[(3,false,.phi false [.o true]),(9,false,.phi false [.p])]),
 ((64,2,23),[(3,false,.phi false [.o true]),(20,false,.phi false [.d])]),
 ((65,0,0),[(4,false,.phi false [.o true]),(5,false,.phi false [.p]),(7,true,.phi true [.p,.p,.p])]),
 ((66,0,0),[(8,false,.phi false [.o true]),(9,false,.phi false [.p]),(10,false,.phi false [.o true]),(11,false,.phi false [.p])]),
 ((66,2,70),[(14,false,.phi false [.p])]),
 ((12,0,0),[(8,false,.phi false [.o true]),(9,false,.phi false [.p])]),
 ((12,0,2),[(2,false,.phi false [.p]),(11,false,.phi false [.p])]),
 ((12,0,4),[(2,false,.phi false [.p]),(13,false,.phi false [.p])])]
def lfz:List (Nat × Nat × Nat):=[(18,18,1)]
def lnest:List Nat:=[7,8,9,10,11,12,14]
noncomputable def lfn:List (Nat × Func):=[(120,Try.f120),(131,Try.f131),(92,Try.f92),(98,Try.f98),(136,Try.f136)]
noncomputable def cx:Cx:={ ty:=tiOf lty,sg:=fun _=>none,fn:=fnOf lfn,hint:=hintOf lhint,fz:=fzOf lfz,nest:=memN lnest }
theorem in_s_l01New:FnIn Try.prog 120:=.mk Try.func120 (by kernel_rfl) (by kernel_rfl)
theorem in_i_with:FnIn Try.prog 131:=.mk Try.func131 (by kernel_rfl) (by kernel_rfl)
theorem in_i_spread:FnIn Try.prog 92:=.mk Try.func92 (by kernel_rfl) (by kernel_rfl)
theorem in_i_also:FnIn Try.prog 98:=.mk Try.func98 (by kernel_rfl) (by kernel_rfl)
theorem in_i_Beyond_1:FnIn Try.prog 136:=.mk Try.func136 (by kernel_rfl) (by kernel_rfl)
theorem seat:Seat Try.prog cx:=⟨tys_ok (l:=lty) (by kernel_rfl) rfl,into_of (l:=lfn) (fc ⟨⟨Try.func120,in_s_l01New⟩,fc ⟨⟨Try.func131,in_i_with⟩,fc ⟨⟨Try.func92,in_i_spread⟩,fc ⟨⟨Try.func98,in_i_also⟩,fc ⟨⟨Try.func136,in_i_Beyond_1⟩,f0⟩⟩⟩⟩⟩) rfl,by kernel_rfl⟩
noncomputable def k_big:=Kok.mk2 seat 41 ⟨[.v false 1],[(false,[.s])]⟩ p_big F_big [] Try.func41 (by kernel_rfl) (by kernel_rfl) (by kernel_rfl)
noncomputable def k_s_l01Byte:=Kok.mk2 seat 143 ⟨[.x 3],[(false,[.s])]⟩ p_s_l01Byte F_s_l01Byte [] Try.func143 (by kernel_rfl) (by kernel_rfl) (by kernel_rfl)
noncomputable def k_s_l01Below:=Kok.mk2 seat 144 ⟨[.x 3,.v false 1],[(false,[.s])]⟩ p_s_l01Below F_s_l01Below [k_s_l01Byte] Try.func144 (by kernel_rfl) (by kernel_rfl) (by kernel_rfl)
noncomputable def k_s_l01PickInt:=Kok.mk2 seat 130 ⟨[.x 3,.v false 1],[(false,[.s])]⟩ p_s_l01PickInt F_s_l01PickInt [k_s_l01Below] Try.func130 (by kernel_rfl) (by kernel_rfl) (by kernel_rfl)
noncomputable def k_s_l03Ahead:=Kok.mk2 seat 170 ⟨[.v true 4,.v true 4],[(false,[.s])]⟩ p_s_l03Ahead F_s_l03Ahead [] Try.func170 (by kernel_rfl) (by kernel_rfl) (by kernel_rfl)
noncomputable def k_s_l03Put:=Kok.mk2 seat 185 ⟨[.v false 1,.v true 4],[(false,[.o true])]⟩ p_s_l03Put F_s_l03Put [k_s_l03Ahead] Try.func185 (by kernel_rfl) (by kernel_rfl) (by kernel_rfl)
noncomputable def k_s_l01Once:=Kok.mk2 seat 122 ⟨[.x 3,.v false 1],[(false,[.s])]⟩ p_s_l01Once F_s_l01Once [k_s_l01Below] Try.func122 (by kernel_rfl) (by kernel_rfl) (by kernel_rfl)
noncomputable def k_s_l03Thing:=Kok.mk2 seat 171 ⟨[.v true 4,.v true 4],[(false,[.s])]⟩ p_s_l03Thing F_s_l03Thing [] Try.func171 (by kernel_rfl) (by kernel_rfl) (by kernel_rfl)
noncomputable def k_s_l03PutThing:=Kok.mk2 seat 186 ⟨[.v false 1,.v true 4],[(false,[.o true])]⟩ p_s_l03PutThing F_s_l03PutThing [k_s_l03Thing] Try.func186 (by kernel_rfl) (by kernel_rfl) (by kernel_rfl)
noncomputable def k_s_l03Net:=Kok.mk2 seat 121 ⟨[.x 3],[(true,[.s,.o false,.o false])]⟩ p_s_l03Net F_s_l03Net [k_s_l01Once,k_s_l01PickInt,k_s_l01Below,k_s_l03Put,k_s_l03PutThing] Try.func121 (by kernel_rfl) (by kernel_rfl) (by kernel_rfl)
noncomputable def k_s_DrawRightNet:=Kok.mk2 seat 42 ⟨[.v false 1],[(true,[.s,.o false,.o false]),(false,[.o false]),(false,[.o false])]⟩ p_s_DrawRightNet F_s_DrawRightNet [k_s_l03Net,k_s_l01Once] Try.func42 (by kernel_rfl) (by kernel_rfl) (by kernel_rfl)
noncomputable def k_s_l01In:=Kok.mk2 seat 84 ⟨[.v false 1,.v false 1,.v false 1],[(false,[.s])]⟩ p_s_l01In F_s_l01In [] Try.func84 (by kernel_rfl) (by kernel_rfl) (by kernel_rfl)
noncomputable def k_s_LinkOk:=Kok.mk2 seat 169 ⟨[.v false 1,.v true 4],[(false,[.s])]⟩ p_s_LinkOk F_s_LinkOk [k_s_l01In] Try.func169 (by kernel_rfl) (by kernel_rfl) (by kernel_rfl)
noncomputable def k_s_NetOk:=Kok.mk2 seat 102 ⟨[.v true 3],[(false,[.s])]⟩ p_s_NetOk F_s_NetOk [k_s_l01In,k_s_LinkOk,k_s_l03Ahead,k_s_l03Thing] Try.func102 (by kernel_rfl) (by kernel_rfl) (by kernel_rfl)
noncomputable def k_s_CostTo:=Kok.mk2 seat 187 ⟨[.v true 3,.v false 1,.v false 1,.v false 1],[(false,[.s])]⟩ p_s_CostTo F_s_CostTo [] Try.func187 (by kernel_rfl) (by kernel_rfl) (by kernel_rfl)
noncomputable def k_s_NextTo:=Kok.mk2 seat 132 ⟨[.v true 3,.v false 1,.v false 1],[(false,[.p])]⟩ p_s_NextTo F_s_NextTo [k_s_CostTo] Try.func132 (by kernel_rfl) (by kernel_rfl) (by kernel_rfl)
noncomputable def k_s_AreasOf:=Kok.mk2 seat 53 ⟨[.v true 3,.v false 1],[(false,[.p])]⟩ p_s_AreasOf F_s_AreasOf [k_s_NextTo] Try.func53 (by kernel_rfl) (by kernel_rfl) (by kernel_rfl)
noncomputable def k_s_l13Open:=Kok.mk2 seat 103 ⟨[.v true 3,.v false 1,.v false 1,.v false 1,.v false 1],[(false,[.s])]⟩ p_s_l13Open F_s_l13Open [] Try.func103 (by kernel_rfl) (by kernel_rfl) (by kernel_rfl)
noncomputable def k_s_Before:=Kok.mk2 seat 140 ⟨[.v true 8,.v true 8],[(false,[.s])]⟩ p_s_Before F_s_Before [] Try.func140 (by kernel_rfl) (by kernel_rfl) (by kernel_rfl)
noncomputable def k_s_l05Put:=Kok.mk2 seat 104 ⟨[.v false 1,.v true 8],[(false,[.p])]⟩ p_s_l05Put F_s_l05Put [k_s_Before] Try.func104 (by kernel_rfl) (by kernel_rfl) (by kernel_rfl)
noncomputable def k_s_Border:=Kok.mk2 seat 54 ⟨[.v true 3,.v false 1],[(false,[.s])]⟩ p_s_Border F_s_Border [k_s_AreasOf] Try.func54 (by kernel_rfl) (by kernel_rfl) (by kernel_rfl)
noncomputable def k_s_l04Near:=Kok.mk2 seat 189 ⟨[.v true 8],[(false,[.s])]⟩ p_s_l04Near F_s_l04Near [k_s_l01In] Try.func189 (by kernel_rfl) (by kernel_rfl) (by kernel_rfl)
noncomputable def k_s_RecordOk:=Kok.mk2 seat 139 ⟨[.v true 8],[(false,[.s])]⟩ p_s_RecordOk F_s_RecordOk [k_s_l01In,k_s_l04Near] Try.func139 (by kernel_rfl) (by kernel_rfl) (by kernel_rfl)
noncomputable def k_s_StoreOk:=Kok.mk2 seat 63 ⟨[.v false 1],[(false,[.s])]⟩ p_s_StoreOk F_s_StoreOk [k_s_RecordOk,k_s_Before] Try.func63 (by kernel_rfl) (by kernel_rfl) (by kernel_rfl)
noncomputable def k_s_SameKey:=Kok.mk2 seat 160 ⟨[.v true 8,.v true 8],[(false,[.s])]⟩ p_s_SameKey F_s_SameKey [] Try.func160 (by kernel_rfl) (by kernel_rfl) (by kernel_rfl)
noncomputable def k_s_l05At:=Kok.mk2 seat 123 ⟨[.v false 1,.v true 8],[(false,[.s])]⟩ p_s_l05At F_s_l05At [k_s_SameKey] Try.func123 (by kernel_rfl) (by kernel_rfl) (by kernel_rfl)
noncomputable def k_s_l06Node:=Kok.mk2 seat 83 ⟨[.v false 1,.v false 1,.v false 1],[(true,[.s,.s,.s,.s,.s,.p,.s,.s]),(false,[.s])]⟩ p_s_l06Node F_s_l06Node [k_s_l05At] Try.func83 (by kernel_rfl) (by kernel_rfl) (by kernel_rfl)
noncomputable def k_s_l06Tells:=Kok.mk2 seat 127 ⟨[.v false 1,.v false 1,.v false 1,.v false 1],[(false,[.s])]⟩ p_s_l06Tells F_s_l06Tells [k_s_l06Node] Try.func127 (by kernel_rfl) (by kernel_rfl) (by kernel_rfl)
noncomputable def k_s_l06Links:=Kok.mk2 seat 85 ⟨[.v false 1,.v false 1],[(false,[.p])]⟩ p_s_l06Links F_s_l06Links [k_s_l06Node,k_s_l01In,k_s_l06Tells] Try.func85 (by kernel_rfl) (by kernel_rfl) (by kernel_rfl)
noncomputable def k_s_l03In:=Kok.mk2 seat 162 ⟨[.v false 1,.v false 1],[(false,[.s])]⟩ p_s_l03In F_s_l03In [] Try.func162 (by kernel_rfl) (by kernel_rfl) (by kernel_rfl)
noncomputable def k_s_l06Add:=Kok.mk2 seat 86 ⟨[.v false 1,.v false 1],[(false,[.o true])]⟩ p_s_l06Add F_s_l06Add [k_s_l03In] Try.func86 (by kernel_rfl) (by kernel_rfl) (by kernel_rfl)
noncomputable def k_s_WaysIn:=Kok.mk2 seat 16 ⟨[.v false 1,.v false 1,.v false 1],[(false,[.p])]⟩ p_s_WaysIn F_s_WaysIn [k_s_StoreOk,k_s_l06Node,k_s_l01In,k_s_l06Links,k_s_l06Add] Try.func16 (by kernel_rfl) (by kernel_rfl) (by kernel_rfl)
noncomputable def k_s_l06Copy:=Kok.mk2 seat 128 ⟨[.v true 3],[(true,[.s,.s,.p])]⟩ p_s_l06Copy F_s_l06Copy [] Try.func128 (by kernel_rfl) (by kernel_rfl) (by kernel_rfl)
noncomputable def k_s_WayTo:=Kok.mk2 seat 47 ⟨[.v false 1,.v false 1],[(true,[.s,.s,.p]),(false,[.s])]⟩ p_s_WayTo F_s_WayTo [k_s_l06Copy] Try.func47 (by kernel_rfl) (by kernel_rfl) (by kernel_rfl)
noncomputable def k_s_Better:=Kok.mk2 seat 168 ⟨[.v true 3,.v true 3],[(false,[.s])]⟩ p_s_Better F_s_Better [] Try.func168 (by kernel_rfl) (by kernel_rfl) (by kernel_rfl)
noncomputable def k_s_Together:=Kok.mk2 seat 97 ⟨[.v true 3,.v true 3],[(true,[.s,.s,.p])]⟩ p_s_Together F_s_Together [k_s_l06Add,k_s_l06Copy,k_s_Better] Try.func97 (by kernel_rfl) (by kernel_rfl) (by kernel_rfl)
noncomputable def k_s_RoutesWithin:=Kok.mk2 seat 24 ⟨[.v false 1,.v false 1,.v false 1],[(false,[.p])]⟩ p_s_RoutesWithin F_s_RoutesWithin [k_s_WaysIn,k_s_WayTo,k_s_Together] Try.func24 (by kernel_rfl) (by kernel_rfl) (by kernel_rfl)
noncomputable def k_s_l07Beyond:=Kok.mk2 seat 99 ⟨[.v false 1,.v false 1,.v false 1,.v false 1,.v false 1,.v true 3,.v false 1],[(true,[.s,.s,.p]),(false,[.s])]⟩ p_s_l07Beyond F_s_l07Beyond [k_s_WayTo,k_s_Together] Try.func99 (by kernel_rfl) (by kernel_rfl) (by kernel_rfl)
noncomputable def k_s_RoutesBeyond:=Kok.mk2 seat 29 ⟨[.v false 1,.v false 1,.v false 1,.v false 1],[(false,[.p])]⟩ p_s_RoutesBeyond F_s_RoutesBeyond [k_s_WaysIn,k_s_RoutesWithin,k_s_WayTo,k_s_StoreOk,k_s_l07Beyond] Try.func29 (by kernel_rfl) (by kernel_rfl) (by kernel_rfl)
noncomputable def k_s_Beyond:=Kok.mk2 seat 172 ⟨[.v false 1,.v false 1,.v false 1,.v false 1],[(false,[.p])]⟩ p_s_Beyond F_s_Beyond [k_s_WaysIn,k_s_RoutesWithin,k_s_RoutesBeyond,k_s_WayTo,k_s_StoreOk] Try.func172 (by kernel_rfl) (by kernel_rfl) (by kernel_rfl)
noncomputable def k_s_l08With:=Kok.mk2 seat 173 ⟨[.v false 1,.v false 1],[(false,[.p])]⟩ p_s_l08With F_s_l08With [k_s_l05Put] Try.func173 (by kernel_rfl) (by kernel_rfl) (by kernel_rfl)
noncomputable def k_s_l13Beyond:=Kok.mk2 seat 105 ⟨[.v false 1,.v false 1,.v false 1],[(false,[.p])]⟩ p_s_l13Beyond F_s_l13Beyond [k_s_Beyond,k_s_l08With] Try.func105 (by kernel_rfl) (by kernel_rfl) (by kernel_rfl)
noncomputable def k_s_l04Copy:=Kok.mk2 seat 124 ⟨[.v true 8],[(true,[.s,.s,.s,.s,.s,.o true,.s,.s])]⟩ p_s_l04Copy F_s_l04Copy [] Try.func124 (by kernel_rfl) (by kernel_rfl) (by kernel_rfl)
noncomputable def k_s_l04CopyList:=Kok.mk2 seat 106 ⟨[.v false 1],[(false,[.o true])]⟩ p_s_l04CopyList F_s_l04CopyList [k_s_l04Copy] Try.func106 (by kernel_rfl) (by kernel_rfl) (by kernel_rfl)
noncomputable def k_s_Ideal:=Kok.mk2 seat 32 ⟨[.v true 3,.v false 1,.v false 1],[(false,[.p]),(false,[.s])]⟩ p_s_Ideal F_s_Ideal [k_s_AreasOf,k_s_Border,k_s_NetOk,k_s_l13Open,k_s_l05Put,k_s_l13Beyond,k_s_l04CopyList] Try.func32 (by kernel_rfl) (by kernel_rfl) (by kernel_rfl)
noncomputable def k_i_in:=Kok.mk2 seat 89 ⟨[.v false 1,.v false 1,.v false 1],[(false,[.s])]⟩ p_i_in F_i_in [] Try.func89 (by kernel_rfl) (by kernel_rfl) (by kernel_rfl)
noncomputable def k_i_copyInts:=Kok.mk2 seat 133 ⟨[.v false 1],[(false,[.o true])]⟩ p_i_copyInts F_i_copyInts [] Try.func133 (by kernel_rfl) (by kernel_rfl) (by kernel_rfl)
noncomputable def k_sameInts:=Kok.mk2 seat 52 ⟨[.v false 1,.v false 1],[(false,[.s])]⟩ p_sameInts F_sameInts [] Try.func52 (by kernel_rfl) (by kernel_rfl) (by kernel_rfl)
noncomputable def k_s_l07Owner:=Kok.mk2 seat 188 ⟨[.v false 1,.v false 1,.v false 1,.v false 1],[(true,[.s,.s,.p]),(false,[.s])]⟩ p_s_l07Owner F_s_l07Owner [k_s_WayTo] Try.func188 (by kernel_rfl) (by kernel_rfl) (by kernel_rfl)
noncomputable def k_s_l07Thing:=Kok.mk2 seat 135 ⟨[.v false 1,.v false 1,.v false 1,.v false 1,.v false 1,.v false 1],[(true,[.s,.s,.s,.s,.s,.p]),(false,[.s])]⟩ p_s_l07Thing F_s_l07Thing [k_s_l06Add,k_s_l07Owner] Try.func135 (by kernel_rfl) (by kernel_rfl) (by kernel_rfl)
noncomputable def k_s_RoutesOf:=Kok.mk2 seat 57 ⟨[.v false 1,.v false 1,.v false 1,.v false 1],[(false,[.o false])]⟩ p_s_RoutesOf F_s_RoutesOf [k_s_RoutesWithin,k_s_RoutesBeyond,k_s_StoreOk,k_s_l07Thing] Try.func57 (by kernel_rfl) (by kernel_rfl) (by kernel_rfl)
noncomputable def k_i_lineAt:=Kok.mk2 seat 141 ⟨[.v false 1,.v true 3],[(false,[.s])]⟩ p_i_lineAt F_i_lineAt [] Try.func141 (by kernel_rfl) (by kernel_rfl) (by kernel_rfl)
noncomputable def k_i_copyLine:=Kok.mk2 seat 142 ⟨[.v true 3],[(true,[.s,.s,.o true])]⟩ p_i_copyLine F_i_copyLine [k_i_copyInts] Try.func142 (by kernel_rfl) (by kernel_rfl) (by kernel_rfl)
noncomputable def k_i_TableOf:=Kok.mk2 seat 64 ⟨[.v false 1],[(false,[.o true])]⟩ p_i_TableOf F_i_TableOf [k_i_lineAt,k_i_copyLine] Try.func64 (by kernel_rfl) (by kernel_rfl) (by kernel_rfl)
noncomputable def k_s_DrawPlaces:=Kok.mk2 seat 65 ⟨[.v false 1],[(false,[.o true])]⟩ p_s_DrawPlaces F_s_DrawPlaces [k_s_l01Byte,k_s_l01Below] Try.func65 (by kernel_rfl) (by kernel_rfl) (by kernel_rfl)
noncomputable def k_i_Walk:=Kok.mk2 seat 66 ⟨[.v false 1,.v false 1,.v false 1,.v false 1],[(false,[.o true]),(false,[.s])]⟩ p_i_Walk F_i_Walk [k_i_in,k_i_lineAt] Try.func66 (by kernel_rfl) (by kernel_rfl) (by kernel_rfl)
noncomputable def k_FnWalks:=Kok.mk2 seat 12 ⟨[.v false 1],[(false,[.s])]⟩ p_FnWalks F_FnWalks [k_s_Ideal,k_big,k_s_DrawRightNet,k_sameInts,k_s_AreasOf,k_s_Border,k_s_RoutesOf,k_i_TableOf,k_s_DrawPlaces,k_i_Walk] Try.func12 (by kernel_rfl) (by kernel_rfl) (by kernel_rfl)
end Go.Proofs.YtlofiplkmgmnfaaWB

/- The walk: each function does as its plain program says (printed by a program). Conditions: none. -/
import Derived.Test.YtlofiplkmgmnfaaChecked
import Derived.Test.YtlofiplkmgmnfaaKe
import Derived.Test.YtlofiplkmgmnfaaXPB
namespace Go.Proofs.YtlofiplkmgmnfaaWB
open Go.Proofs.YtlofiplkmgmnfaaC
theorem fc {α:Type} {p:α→Prop} {a:α} {l:List α} (h:p a∧∀ x∈l,p x):∀ x∈a :: l,p x:=List.forall_mem_cons.2 h
theorem f0 {α:Type} {p:α→Prop}:∀ x∈([]:List α),p x:=fun _ h=>nomatch h
def lty:List (Nat × TI):=[
 (3,⟨1,8,false,[.p (.k (.int .i64 0))],0,[],1⟩),
 (4,⟨1,1,false,[.p (.k (.bool false))],0,[],4⟩),
 (5,⟨1,1,false,[.p (.k (.int .u8 0))],0,[],1⟩),
 (24,⟨1,24,false,[.n],70,[],3⟩),
 (26,⟨1,24,false,[.n],66,[],3⟩),
 (33,⟨1,24,false,[.n],3,[],3⟩),
 (45,⟨1,24,false,[.n],4,[],3⟩),
 (49,⟨1,24,false,[.n],88,[],3⟩),
 (50,⟨1,24,false,[.n],91,[],3⟩),
 (52,⟨3,56,true,[.p (.k (.int .i64 0)),.n,.n],0,[(0,1),(1,1),(2,1)],0⟩),
 (60,⟨1,24,false,[.n],5,[],3⟩),
 (64,⟨1,24,false,[.n],137,[],3⟩),
 (66,⟨8,80,true,[.p (.k (.int .i64 0)),.p (.k (.int .i64 0)),.p (.k (.int .i64 0)),.p (.k (.int .i64 0)),.p (.k (.int .i64 0)),.n,.p (.k (.int .i64 0)),.p (.k (.bool false))],0,[(0,1),(1,1),(2,1),(3,1),(4,1),(5,1),(6,1),(7,1)],0⟩),
 (70,⟨3,40,true,[.p (.k (.int .i64 0)),.p (.k (.int .i64 0)),.n],0,[(0,1),(1,1),(2,1)],0⟩),
 (81,⟨1,24,false,[.n],85,[],3⟩),
 (85,⟨6,64,true,[.p (.k (.bool false)),.p (.k (.int .i64 0)),.p (.k (.int .i64 0)),.p (.k (.int .i64 0)),.p (.k (.int .i64 0)),.n],0,[(0,1),(1,1),(2,1),(3,1),(4,1),(5,1)],0⟩),
 (88,⟨4,32,true,[.p (.k (.int .i64 0)),.p (.k (.int .i64 0)),.p (.k (.int .i64 0)),.p (.k (.int .i64 0))],0,[(0,1),(1,1),(2,1),(3,1)],5⟩),
 (91,⟨4,32,true,[.p (.k (.int .i64 0)),.p (.k (.int .i64 0)),.p (.k (.int .i64 0)),.p (.k (.bool false))],0,[(0,1),(1,1),(2,1),(3,1)],5⟩),
 (94,⟨1,24,false,[.n],95,[],3⟩),
 (95,⟨1,24,false,[.n],165,[],3⟩),
 (108,⟨7,120,true,[.p (.k (.int .i64 0)),.p (.k (.int .i64 0)),.p (.k (.int .i64 0)),.n,.n,.n,.n],0,[(0,1),(1,1),(2,3),(5,1),(6,1)],0⟩),
 (123,⟨1,24,false,[.n],33,[],3⟩),
 (129,⟨1,24,false,[.n],24,[],3⟩),
 (137,⟨2,16,true,[.p (.k (.int .i64 0)),.p (.k (.int .i64 0))],0,[(0,1),(1,1)],5⟩),
 (165,⟨3,40,true,[.p (.k (.bool false)),.p (.k (.int .i64 0)),.n],0,[(0,1),(1,1),(2,1)],0⟩),
 (191,⟨3,40,true,[.n,.p (.k (.int .i64 0)),.p (.k (.int .i64 0))],0,[(0,1),(1,1),(2,1)],0⟩)]
def lhint:List ((Nat × Nat × Nat) × Js):=[
 ((120,0,0),[(3,false,.phi false [.p]),(4,false,.phi false [.p])]),
 ((143,2,34),[(0,true,.phi true [.k,.p,.k]),(3,false,.phi false [.p])]),
 ((185,0,0),[(5,false,.phi false [.o true]),(6,false,.phi false [.p])]),
 ((185,0,2),[(5,false,.phi false [.o true]),(7,false,.phi false [.p])]),
 ((185,2,20),[(5,false,.phi false [.o true])]),
 ((185,2,43),[(5,false,.phi false [.o true])]),
 ((186,0,0),[(5,false,.phi false [.o true]),(6,false,.phi false [.p])]),
 ((186,0,2),[(5,false,.phi false [.o true]),(7,false,.phi false [.p])]),
 ((186,2,20),[(5,false,.phi false [.o true])]),
 ((186,2,43),[(5,false,.phi false [.o true])]),
 ((121,0,0),[(4,false,.phi false [.p]),(0,true,.phi true [.p,.p,.p]),(3,true,.phi true [.k,.o true,.k])]),
 ((121,0,2),[(8,false,.phi false [.p]),(0,true,.phi true [.p,.p,.p]),(3,true,.phi true [.k,.k,.o true])]),
 ((121,2,36),[(5,false,.phi false [.p]),(6,false,.phi false [.p])]),
 ((121,2,43),[(6,false,.phi false [.p])]),
 ((121,2,51),[(5,false,.phi false [.p]),(6,false,.phi false [.p])]),
 ((121,2,66),[(3,true,.phi true [.k,.o true,.k])]),
 ((102,0,0),[(2,false,.phi false [.p]),(3,false,.phi false [.p])]),
 ((102,0,2),[(2,false,.phi false [.p]),(4,false,.phi false [.p])]),
 ((187,0,0),[(8,false,.phi false [.p]),(9,false,.phi false [.p])]),
 ((132,0,0),[(7,false,.phi false [.o true]),(8,false,.phi false [.p])]),
 ((132,2,19),[(7,false,.phi false [.o true])]),
 ((53,0,0),[(5,false,.phi false [.o true]),(6,false,.phi false [.p])]),
 ((53,2,17),[(5,false,.phi false [.o true])]),
 ((103,0,0),[(10,false,.phi false [.p]),(11,false,.phi false [.p])]),
 ((104,0,0),[(5,false,.phi false [.o false]),(6,false,.phi false [.p])]),
 ((104,0,2),[(5,false,.phi false [.o false]),(7,false,.phi false [.p])]),
 ((104,2,20),[(5,false,.phi false [.o false])]),
 ((104,2,43),[(5,false,.phi false [.o false])]),
 ((189,0,0),[(2,false,.phi false [.p]),(3,false,.phi false [.p])]),
 ((63,0,0),[(2,false,.phi false [.p]),(3,false,.phi false [.p])]),
 ((123,0,0),[(4,false,.phi false [.p]),(5,false,.phi false [.p])]),
 ((127,0,0),[(8,false,.phi false [.p]),(11,false,.phi false [.p])]),
 ((85,0,0),[(6,false,.phi false [.p]),(10,false,.rows [(0,true)])]),
 ((85,0,2),[(9,false,.phi false [.p]),(10,false,.rows [(0,true)])]),
 ((85,2,48),[(10,false,.rows [(0,true)])]),
 ((162,0,0),[(4,false,.phi false [.p]),(5,false,.phi false [.p])]),
 ((86,0,0),[(5,false,.phi false [.o true]),(6,false,.phi false [.p])]),
 ((86,2,19),[(5,false,.phi false [.o true])]),
 ((16,0,0),[(14,false,.phi false [.p]),(47,false,.rows [(0,true)])]),
 ((16,0,2),[(15,false,.phi false [.p]),(48,false,.rows [(0,false)]),(49,false,.rows [(0,true)]),(47,false,.rows [(0,true)])]),
 ((16,0,4),[(16,false,.phi false [.p]),(17,false,.phi false [.p])]),
 ((16,0,6),[(18,false,.phi false [.p]),(48,false,.rows [(0,false)]),(47,false,.rows [(0,true)])]),
 ((16,0,8),[(7,false,.phi false [.o true]),(22,false,.phi false [.p])]),
 ((16,2,126),[(20,false,.phi false [.p])]),
 ((16,2,147),[(48,false,.rows [(0,false)]),(47,false,.rows [(0,true)])]),
 ((16,2,163),[(48,false,.rows [(0,false)])]),
 ((16,2,180),[(7,false,.phi false [.o true])]),
 ((16,2,94),[(16,false,.phi false [.p])]),
 ((47,0,0),[(5,false,.phi false [.p]),(6,false,.phi false [.p])]),
 ((24,0,0),[(8,false,.phi false [.o false]),(9,false,.phi false [.p])]),
 ((24,0,2),[(7,false,.phi false [.o false]),(10,false,.phi false [.p])]),
 ((24,0,4),[(12,false,.phi false [.p]),(13,false,.phi false [.p]),(11,true,.phi true [.p,.p,.p])]),
 ((24,2,56),[(14,true,.phi true [.p,.p,.p])]),
 ((24,2,61),[(7,false,.phi false [.o false])]),
 ((99,0,0),[(6,false,.phi false [.p]),(16,false,.phi false [.p]),(12,true,.phi true [.p,.p,.p])]),
 ((99,2,81),[(18,true,.phi true [.p,.p,.p])]),
 ((29,0,0),[(11,false,.phi false [.o false]),(12,false,.phi false [.p])]),
 ((29,0,2),[(9,false,.phi false [.o false]),(13,false,.phi false [.p])]),
 ((29,0,4),[(17,false,.phi false [.p]),(18,false,.phi false [.p]),(16,true,.phi true [.p,.p,.p])]),
 ((29,2,88),[(9,false,.phi false [.o false])]),
 ((172,0,0),[(10,false,.phi false [.o true]),(11,false,.phi false [.p])]),
 ((172,0,2),[(9,false,.phi false [.o true]),(15,false,.phi false [.p])]),
 ((172,2,37),[(10,false,.phi false [.o true])]),
 ((172,2,84),[(18,true,.phi true [.p,.p,.p]),(19,false,.phi false [.p])]),
 ((172,2,91),[(9,false,.phi false [.o true])]),
 ((173,0,0),[(5,false,.phi false [.p]),(6,false,.phi false [.p])]),
 ((173,2,21),[(7,true,.phi true [.k,.k,.k,.k,.p,.k,.k,.k])]),
 ((105,0,0),[(7,false,.phi false [.o false]),(8,false,.phi false [.p])]),
 ((105,0,2),[(9,false,.phi false [.o false]),(10,false,.phi false [.p])]),
 ((105,2,49),[(9,false,.phi false [.o false])]),
 ((106,0,0),[(3,false,.phi false [.o true]),(4,false,.phi false [.p])]),
 ((32,0,0),[(8,false,.phi false [.p]),(9,false,.phi false [.p])]),
 ((32,0,10),[(8,false,.phi false [.p]),(18,false,.phi false [.p])]),
 ((32,0,2),[(8,false,.phi false [.p]),(11,false,.phi false [.p])]),
 ((32,0,4),[(13,false,.phi false [.p]),(12,true,.phi true [.k,.k,.k,.k,.k,.o true,.k,.k])]),
 ((32,0,6),[(8,false,.phi false [.p]),(15,false,.phi false [.p])]),
 ((32,0,8),[(8,false,.phi false [.p]),(17,false,.phi false [.p])]),
 ((32,2,119),[(8,false,.phi false [.p])]),
 ((32,2,150),[(8,false,.phi false [.p])]),
 ((32,2,90),[(12,true,.phi true [.k,.k,.k,.k,.k,.o true,.k,.k])]),
 ((197,0,0),[(2,false,.phi false [.p]),(8,false,.phi false [.p])]),
 ((88,0,0),[(2,false,.phi false [.p]),(7,false,.phi false [.p])]),
 ((90,0,0),[(4,false,.phi false [.p]),(9,false,.phi false [.p])]),
 ((131,0,0),[(5,false,.phi false [.p])]),
 ((131,4,6),[(0,false,.rows [(0,true)])]),
 ((92,0,0),[(10,false,.phi false [.p]),(3,false,.rows [(0,true)])]),
 ((92,2,47),[(12,true,.phi true [.k,.k,.o true])]),
 ((92,2,55),[(3,false,.rows [(0,true)]),(12,true,.phi true [.k,.k,.d])]),
 ((92,2,70),[(3,false,.rows [(0,true)])]),
 ((98,0,0),[(5,false,.phi false [.p])]),
 ((98,5,7),[(0,false,.rows [(0,true)])]),
 ((179,0,0),[(3,false,.phi false [.o true]),(8,false,.phi false [.p])]),
 ((111,0,0),[(5,false,.phi false [.p])]),
 ((111,2,40),[(5,false,.phi false [.p])]),
 ((136,2,36),[(4,true,.phi false [.o true])]),
 ((109,0,0),[(2,false,.phi false [.p]),(26,false,.phi false [.p])]),
 ((109,0,2),[(2,false,.phi false [.p]),(55,false,.phi false [.p])]),
 ((182,0,0),[(8,false,.phi false [.p]),(14,false,.phi false [.p])]),
 ((137,0,0),[(4,false,.phi false [.p]),(5,false,.phi false [.p])]),
 ((60,0,0),[(4,false,.phi false [.p]),(5,false,.phi false [.p])]),
 ((153,0,1),[(4,false,.phi false [.p]),(0,true,.phi true [.p,.p,.p]),(3,true,.phi true [.k,.k,.k,.k,.k,.o true,.k,.k])]),
 ((153,2,19),[(0,true,.phi true [.p,.p,.p]),(3,true,.phi true [.p,.k,.k,.p,.k,.o true,.p,.p])]),
 ((153,2,32),[(0,true,.phi true [.p,.p,.p]),(3,true,.phi true [.k,.k,.k,.k,.k,.o true,.k,.k])]),
 ((153,2,43),[(0,true,.phi true [.p,.p,.p]),(3,true,.phi true [.p,.k,.k,.p,.k,.k,.p,.p])]),
 ((153,2,53),[(0,true,.phi true [.p,.p,.p]),(3,true,.phi true [.p,.k,.k,.p,.k,.k,.p,.p])]),
 ((192,0,0),[(3,false,.phi false [.p]),(4,false,.phi false [.p]),(0,true,.phi true [.p,.p,.p])]),
 ((152,0,0),[(4,false,.phi false [.p]),(0,true,.phi true [.p,.p,.p]),(3,true,.phi true [.k,.k,.k,.k,.k,.o true,.k])]),
 ((152,0,2),[(5,false,.phi false [.p]),(0,true,.phi true [.p,.p,.p]),(3,true,.phi true [.k,.k,.k,.k,.k,.o true,.k])]),
 ((152,0,4),[(8,false,.phi false [.p]),(0,true,.phi true [.p,.p,.p]),(60,false,.rows [(0,true)])]),
 ((152,0,6),[(9,false,.phi false [.p]),(0,true,.phi true [.p,.p,.p]),(64,false,.rows [(0,true)])]),
 ((152,0,8),[(12,false,.phi false [.p]),(3,true,.phi true [.k,.k,.k,.k,.k,.k,.p]),(0,true,.phi true [.p,.p,.p])]),
 ((152,2,100),[(3,true,.phi true [.k,.k,.k,.k,.k,.k,.p]),(0,true,.phi true [.p,.p,.p])]),
 ((152,2,48),[(3,true,.phi true [.k,.k,.k,.k,.k,.o true,.k])]),
 ((76,0,0),[(4,false,.phi false [.o false]),(5,false,.phi false [.p]),(7,true,.phi true [.p,.p,.p])]),
 ((159,0,0),[(2,false,.phi false [.p]),(3,false,.phi false [.p])]),
 ((155,0,0),[(6,false,.phi false [.o true]),(7,false,.phi false [.o true]),(16,false,.phi false [.p])]),
 ((155,2,26),[(6,false,.phi false [.o true]),(7,false,.phi false [.o true]),(10,false,.phi false [.d])]),
 ((195,0,0),[(2,false,.phi false [.p]),(3,false,.phi false [.p])]),
 ((78,0,0),[(7,false,.phi false [.o true]),(8,false,.phi false [.p]),(6,true,.phi true [.k,.k,.k,.k,.k,.k,.p]),(12,false,.phi true [.k,.k,.k,.k,.k,.k,.p])]),
 ((78,2,35),[(6,true,.phi true [.k,.k,.k,.k,.k,.k,.p]),(7,false,.phi false [.o true])]),
 ((80,0,0),[(5,false,.phi false [.p]),(6,false,.phi false [.p])]),
 ((80,2,27),[(5,false,.phi false [.p])]),
 ((81,0,0),[(5,false,.phi false [.p]),(6,false,.phi false [.p])]),
 ((81,2,29),[(5,false,.phi false [.p])]),
 ((14,0,0),[(2,false,.phi false [.p]),(11,false,.phi false [.p])])]
def lfz:List (Nat × Nat × Nat):=[(18,18,1)]
def lnest:List Nat:=[7,8,9,10,11,12,14]
noncomputable def lfn:List (Nat × Func):=[(120,Try.f120),(131,Try.f131),(92,Try.f92),(98,Try.f98),(136,Try.f136)]
noncomputable def cx:Cx:={ ty:=tiOf lty,sg:=fun _=>none,fn:=fnOf lfn,hint:=hintOf lhint,fz:=fzOf lfz,nest:=memN lnest }
theorem in_s_l01New:FnIn Try.prog 120:=.mk Try.func120 (by kernel_rfl) (by kernel_rfl)
theorem in_i_with:FnIn Try.prog 131:=.mk Try.func131 (by kernel_rfl) (by kernel_rfl)
theorem in_i_spread:FnIn Try.prog 92:=.mk Try.func92 (by kernel_rfl) (by kernel_rfl)
theorem in_i_also:FnIn Try.prog 98:=.mk Try.func98 (by kernel_rfl) (by kernel_rfl)
theorem in_i_Beyond_1:FnIn Try.prog 136:=.mk Try.func136 (by kernel_rfl) (by kernel_rfl)
theorem seat:Seat Try.prog cx:=⟨tys_ok (l:=lty) (by kernel_rfl) rfl,into_of (l:=lfn) (fc ⟨⟨Try.func120,in_s_l01New⟩,fc ⟨⟨Try.func131,in_i_with⟩,fc ⟨⟨Try.func92,in_i_spread⟩,fc ⟨⟨Try.func98,in_i_also⟩,fc ⟨⟨Try.func136,in_i_Beyond_1⟩,f0⟩⟩⟩⟩⟩) rfl,by kernel_rfl⟩
noncomputable def k_big:=Kok.mk2 seat 41 ⟨[.v false 1],[(false,[.s])]⟩ p_big F_big [] Try.func41 (by kernel_rfl) (by kernel_rfl) (by kernel_rfl)
noncomputable def k_s_l01Byte:=Kok.mk2 seat 143 ⟨[.x 3],[(false,[.s])]⟩ p_s_l01Byte F_s_l01Byte [] Try.func143 (by kernel_rfl) (by kernel_rfl) (by kernel_rfl)
noncomputable def k_s_l01Below:=Kok.mk2 seat 144 ⟨[.x 3,.v false 1],[(false,[.s])]⟩ p_s_l01Below F_s_l01Below [k_s_l01Byte] Try.func144 (by kernel_rfl) (by kernel_rfl) (by kernel_rfl)
noncomputable def k_s_l01PickInt:=Kok.mk2 seat 130 ⟨[.x 3,.v false 1],[(false,[.s])]⟩ p_s_l01PickInt F_s_l01PickInt [k_s_l01Below] Try.func130 (by kernel_rfl) (by kernel_rfl) (by kernel_rfl)
noncomputable def k_s_l03Ahead:=Kok.mk2 seat 170 ⟨[.v true 4,.v true 4],[(false,[.s])]⟩ p_s_l03Ahead F_s_l03Ahead [] Try.func170 (by kernel_rfl) (by kernel_rfl) (by kernel_rfl)
noncomputable def k_s_l03Put:=Kok.mk2 seat 185 ⟨[.v false 1,.v true 4],[(false,[.o true])]⟩ p_s_l03Put F_s_l03Put [k_s_l03Ahead] Try.func185 (by kernel_rfl) (by kernel_rfl) (by kernel_rfl)
noncomputable def k_s_l01Once:=Kok.mk2 seat 122 ⟨[.x 3,.v false 1],[(false,[.s])]⟩ p_s_l01Once F_s_l01Once [k_s_l01Below] Try.func122 (by kernel_rfl) (by kernel_rfl) (by kernel_rfl)
noncomputable def k_s_l03Thing:=Kok.mk2 seat 171 ⟨[.v true 4,.v true 4],[(false,[.s])]⟩ p_s_l03Thing F_s_l03Thing [] Try.func171 (by kernel_rfl) (by kernel_rfl) (by kernel_rfl)
noncomputable def k_s_l03PutThing:=Kok.mk2 seat 186 ⟨[.v false 1,.v true 4],[(false,[.o true])]⟩ p_s_l03PutThing F_s_l03PutThing [k_s_l03Thing] Try.func186 (by kernel_rfl) (by kernel_rfl) (by kernel_rfl)
noncomputable def k_s_l03Net:=Kok.mk2 seat 121 ⟨[.x 3],[(true,[.s,.o false,.o false])]⟩ p_s_l03Net F_s_l03Net [k_s_l01Once,k_s_l01PickInt,k_s_l01Below,k_s_l03Put,k_s_l03PutThing] Try.func121 (by kernel_rfl) (by kernel_rfl) (by kernel_rfl)
noncomputable def k_s_l01In:=Kok.mk2 seat 84 ⟨[.v false 1,.v false 1,.v false 1],[(false,[.s])]⟩ p_s_l01In F_s_l01In [] Try.func84 (by kernel_rfl) (by kernel_rfl) (by kernel_rfl)
noncomputable def k_s_LinkOk:=Kok.mk2 seat 169 ⟨[.v false 1,.v true 4],[(false,[.s])]⟩ p_s_LinkOk F_s_LinkOk [k_s_l01In] Try.func169 (by kernel_rfl) (by kernel_rfl) (by kernel_rfl)
noncomputable def k_s_NetOk:=Kok.mk2 seat 102 ⟨[.v true 3],[(false,[.s])]⟩ p_s_NetOk F_s_NetOk [k_s_l01In,k_s_LinkOk,k_s_l03Ahead,k_s_l03Thing] Try.func102 (by kernel_rfl) (by kernel_rfl) (by kernel_rfl)
noncomputable def k_s_CostTo:=Kok.mk2 seat 187 ⟨[.v true 3,.v false 1,.v false 1,.v false 1],[(false,[.s])]⟩ p_s_CostTo F_s_CostTo [] Try.func187 (by kernel_rfl) (by kernel_rfl) (by kernel_rfl)
noncomputable def k_s_NextTo:=Kok.mk2 seat 132 ⟨[.v true 3,.v false 1,.v false 1],[(false,[.p])]⟩ p_s_NextTo F_s_NextTo [k_s_CostTo] Try.func132 (by kernel_rfl) (by kernel_rfl) (by kernel_rfl)
noncomputable def k_s_AreasOf:=Kok.mk2 seat 53 ⟨[.v true 3,.v false 1],[(false,[.p])]⟩ p_s_AreasOf F_s_AreasOf [k_s_NextTo] Try.func53 (by kernel_rfl) (by kernel_rfl) (by kernel_rfl)
noncomputable def k_s_l13Open:=Kok.mk2 seat 103 ⟨[.v true 3,.v false 1,.v false 1,.v false 1,.v false 1],[(false,[.s])]⟩ p_s_l13Open F_s_l13Open [] Try.func103 (by kernel_rfl) (by kernel_rfl) (by kernel_rfl)
noncomputable def k_s_Before:=Kok.mk2 seat 140 ⟨[.v true 8,.v true 8],[(false,[.s])]⟩ p_s_Before F_s_Before [] Try.func140 (by kernel_rfl) (by kernel_rfl) (by kernel_rfl)
noncomputable def k_s_l05Put:=Kok.mk2 seat 104 ⟨[.v false 1,.v true 8],[(false,[.p])]⟩ p_s_l05Put F_s_l05Put [k_s_Before] Try.func104 (by kernel_rfl) (by kernel_rfl) (by kernel_rfl)
noncomputable def k_s_Border:=Kok.mk2 seat 54 ⟨[.v true 3,.v false 1],[(false,[.s])]⟩ p_s_Border F_s_Border [k_s_AreasOf] Try.func54 (by kernel_rfl) (by kernel_rfl) (by kernel_rfl)
noncomputable def k_s_l04Near:=Kok.mk2 seat 189 ⟨[.v true 8],[(false,[.s])]⟩ p_s_l04Near F_s_l04Near [k_s_l01In] Try.func189 (by kernel_rfl) (by kernel_rfl) (by kernel_rfl)
noncomputable def k_s_RecordOk:=Kok.mk2 seat 139 ⟨[.v true 8],[(false,[.s])]⟩ p_s_RecordOk F_s_RecordOk [k_s_l01In,k_s_l04Near] Try.func139 (by kernel_rfl) (by kernel_rfl) (by kernel_rfl)
noncomputable def k_s_StoreOk:=Kok.mk2 seat 63 ⟨[.v false 1],[(false,[.s])]⟩ p_s_StoreOk F_s_StoreOk [k_s_RecordOk,k_s_Before] Try.func63 (by kernel_rfl) (by kernel_rfl) (by kernel_rfl)
noncomputable def k_s_SameKey:=Kok.mk2 seat 160 ⟨[.v true 8,.v true 8],[(false,[.s])]⟩ p_s_SameKey F_s_SameKey [] Try.func160 (by kernel_rfl) (by kernel_rfl) (by kernel_rfl)
noncomputable def k_s_l05At:=Kok.mk2 seat 123 ⟨[.v false 1,.v true 8],[(false,[.s])]⟩ p_s_l05At F_s_l05At [k_s_SameKey] Try.func123 (by kernel_rfl) (by kernel_rfl) (by kernel_rfl)
noncomputable def k_s_l06Node:=Kok.mk2 seat 83 ⟨[.v false 1,.v false 1,.v false 1],[(true,[.s,.s,.s,.s,.s,.p,.s,.s]),(false,[.s])]⟩ p_s_l06Node F_s_l06Node [k_s_l05At] Try.func83 (by kernel_rfl) (by kernel_rfl) (by kernel_rfl)
noncomputable def k_s_l06Tells:=Kok.mk2 seat 127 ⟨[.v false 1,.v false 1,.v false 1,.v false 1],[(false,[.s])]⟩ p_s_l06Tells F_s_l06Tells [k_s_l06Node] Try.func127 (by kernel_rfl) (by kernel_rfl) (by kernel_rfl)
noncomputable def k_s_l06Links:=Kok.mk2 seat 85 ⟨[.v false 1,.v false 1],[(false,[.p])]⟩ p_s_l06Links F_s_l06Links [k_s_l06Node,k_s_l01In,k_s_l06Tells] Try.func85 (by kernel_rfl) (by kernel_rfl) (by kernel_rfl)
noncomputable def k_s_l03In:=Kok.mk2 seat 162 ⟨[.v false 1,.v false 1],[(false,[.s])]⟩ p_s_l03In F_s_l03In [] Try.func162 (by kernel_rfl) (by kernel_rfl) (by kernel_rfl)
noncomputable def k_s_l06Add:=Kok.mk2 seat 86 ⟨[.v false 1,.v false 1],[(false,[.o true])]⟩ p_s_l06Add F_s_l06Add [k_s_l03In] Try.func86 (by kernel_rfl) (by kernel_rfl) (by kernel_rfl)
noncomputable def k_s_WaysIn:=Kok.mk2 seat 16 ⟨[.v false 1,.v false 1,.v false 1],[(false,[.p])]⟩ p_s_WaysIn F_s_WaysIn [k_s_StoreOk,k_s_l06Node,k_s_l01In,k_s_l06Links,k_s_l06Add] Try.func16 (by kernel_rfl) (by kernel_rfl) (by kernel_rfl)
noncomputable def k_s_l06Copy:=Kok.mk2 seat 128 ⟨[.v true 3],[(true,[.s,.s,.p])]⟩ p_s_l06Copy F_s_l06Copy [] Try.func128 (by kernel_rfl) (by kernel_rfl) (by kernel_rfl)
noncomputable def k_s_WayTo:=Kok.mk2 seat 47 ⟨[.v false 1,.v false 1],[(true,[.s,.s,.p]),(false,[.s])]⟩ p_s_WayTo F_s_WayTo [k_s_l06Copy] Try.func47 (by kernel_rfl) (by kernel_rfl) (by kernel_rfl)
noncomputable def k_s_Better:=Kok.mk2 seat 168 ⟨[.v true 3,.v true 3],[(false,[.s])]⟩ p_s_Better F_s_Better [] Try.func168 (by kernel_rfl) (by kernel_rfl) (by kernel_rfl)
noncomputable def k_s_Together:=Kok.mk2 seat 97 ⟨[.v true 3,.v true 3],[(true,[.s,.s,.p])]⟩ p_s_Together F_s_Together [k_s_l06Add,k_s_l06Copy,k_s_Better] Try.func97 (by kernel_rfl) (by kernel_rfl) (by kernel_rfl)
noncomputable def k_s_RoutesWithin:=Kok.mk2 seat 24 ⟨[.v false 1,.v false 1,.v false 1],[(false,[.p])]⟩ p_s_RoutesWithin F_s_RoutesWithin [k_s_WaysIn,k_s_WayTo,k_s_Together] Try.func24 (by kernel_rfl) (by kernel_rfl) (by kernel_rfl)
noncomputable def k_s_l07Beyond:=Kok.mk2 seat 99 ⟨[.v false 1,.v false 1,.v false 1,.v false 1,.v false 1,.v true 3,.v false 1],[(true,[.s,.s,.p]),(false,[.s])]⟩ p_s_l07Beyond F_s_l07Beyond [k_s_WayTo,k_s_Together] Try.func99 (by kernel_rfl) (by kernel_rfl) (by kernel_rfl)
noncomputable def k_s_RoutesBeyond:=Kok.mk2 seat 29 ⟨[.v false 1,.v false 1,.v false 1,.v false 1],[(false,[.p])]⟩ p_s_RoutesBeyond F_s_RoutesBeyond [k_s_WaysIn,k_s_RoutesWithin,k_s_WayTo,k_s_StoreOk,k_s_l07Beyond] Try.func29 (by kernel_rfl) (by kernel_rfl) (by kernel_rfl)
noncomputable def k_s_Beyond:=Kok.mk2 seat 172 ⟨[.v false 1,.v false 1,.v false 1,.v false 1],[(false,[.p])]⟩ p_s_Beyond F_s_Beyond [k_s_WaysIn,k_s_RoutesWithin,k_s_RoutesBeyond,k_s_WayTo,k_s_StoreOk] Try.func172 (by kernel_rfl) (by kernel_rfl) (by kernel_rfl)
noncomputable def k_s_l08With:=Kok.mk2 seat 173 ⟨[.v false 1,.v false 1],[(false,[.p])]⟩ p_s_l08With F_s_l08With [k_s_l05Put] Try.func173 (by kernel_rfl) (by kernel_rfl) (by kernel_rfl)
noncomputable def k_s_l13Beyond:=Kok.mk2 seat 105 ⟨[.v false 1,.v false 1,.v false 1],[(false,[.p])]⟩ p_s_l13Beyond F_s_l13Beyond [k_s_Beyond,k_s_l08With] Try.func105 (by kernel_rfl) (by kernel_rfl) (by kernel_rfl)
noncomputable def k_s_l04Copy:=Kok.mk2 seat 124 ⟨[.v true 8],[(true,[.s,.s,.s,.s,.s,.o true,.s,.s])]⟩ p_s_l04Copy F_s_l04Copy [] Try.func124 (by kernel_rfl) (by kernel_rfl) (by kernel_rfl)
noncomputable def k_s_l04CopyList:=Kok.mk2 seat 106 ⟨[.v false 1],[(false,[.o true])]⟩ p_s_l04CopyList F_s_l04CopyList [k_s_l04Copy] Try.func106 (by kernel_rfl) (by kernel_rfl) (by kernel_rfl)
noncomputable def k_s_Ideal:=Kok.mk2 seat 32 ⟨[.v true 3,.v false 1,.v false 1],[(false,[.p]),(false,[.s])]⟩ p_s_Ideal F_s_Ideal [k_s_AreasOf,k_s_Border,k_s_NetOk,k_s_l13Open,k_s_l05Put,k_s_l13Beyond,k_s_l04CopyList] Try.func32 (by kernel_rfl) (by kernel_rfl) (by kernel_rfl)
noncomputable def k_i_in:=Kok.mk2 seat 89 ⟨[.v false 1,.v false 1,.v false 1],[(false,[.s])]⟩ p_i_in F_i_in [] Try.func89 (by kernel_rfl) (by kernel_rfl) (by kernel_rfl)
noncomputable def k_i_nearOk:=Kok.mk2 seat 197 ⟨[.v true 8],[(false,[.s])]⟩ p_i_nearOk F_i_nearOk [k_i_in] Try.func197 (by kernel_rfl) (by kernel_rfl) (by kernel_rfl)
noncomputable def k_i_RecordOk:=Kok.mk2 seat 164 ⟨[.v true 8],[(false,[.s])]⟩ p_i_RecordOk F_i_RecordOk [k_i_in,k_i_nearOk] Try.func164 (by kernel_rfl) (by kernel_rfl) (by kernel_rfl)
noncomputable def k_i_Before:=Kok.mk2 seat 165 ⟨[.v true 8,.v true 8],[(false,[.s])]⟩ p_i_Before F_i_Before [] Try.func165 (by kernel_rfl) (by kernel_rfl) (by kernel_rfl)
noncomputable def k_i_StoreOk:=Kok.mk2 seat 88 ⟨[.v false 1],[(false,[.s])]⟩ p_i_StoreOk F_i_StoreOk [k_i_RecordOk,k_i_Before] Try.func88 (by kernel_rfl) (by kernel_rfl) (by kernel_rfl)
noncomputable def k_i_SameKey:=Kok.mk2 seat 166 ⟨[.v true 8,.v true 8],[(false,[.s])]⟩ p_i_SameKey F_i_SameKey [] Try.func166 (by kernel_rfl) (by kernel_rfl) (by kernel_rfl)
noncomputable def k_i_keyAt:=Kok.mk2 seat 90 ⟨[.v false 1,.v true 8],[(false,[.s])]⟩ p_i_keyAt F_i_keyAt [k_i_SameKey] Try.func90 (by kernel_rfl) (by kernel_rfl) (by kernel_rfl)
noncomputable def k_i_copyInts:=Kok.mk2 seat 133 ⟨[.v false 1],[(false,[.o true])]⟩ p_i_copyInts F_i_copyInts [] Try.func133 (by kernel_rfl) (by kernel_rfl) (by kernel_rfl)
noncomputable def k_i_copyRecord:=Kok.mk2 seat 180 ⟨[.v true 8],[(true,[.s,.s,.s,.s,.s,.o true,.s,.s])]⟩ p_i_copyRecord F_i_copyRecord [] Try.func180 (by kernel_rfl) (by kernel_rfl) (by kernel_rfl)
noncomputable def k_i_copyRecords:=Kok.mk2 seat 179 ⟨[.v false 1],[(false,[.o true])]⟩ p_i_copyRecords F_i_copyRecords [k_i_copyRecord] Try.func179 (by kernel_rfl) (by kernel_rfl) (by kernel_rfl)
noncomputable def k_i_put:=Kok.mk2 seat 111 ⟨[.v false 1,.v true 8],[(false,[.o true])]⟩ p_i_put F_i_put [k_i_Before,k_i_SameKey,k_i_copyRecords,k_i_copyRecord] Try.func111 (by kernel_rfl) (by kernel_rfl) (by kernel_rfl)
noncomputable def k_i_LinkOk:=Kok.mk2 seat 176 ⟨[.v false 1,.v true 4],[(false,[.s])]⟩ p_i_LinkOk F_i_LinkOk [k_i_in] Try.func176 (by kernel_rfl) (by kernel_rfl) (by kernel_rfl)
noncomputable def k_i_ahead:=Kok.mk2 seat 177 ⟨[.v true 4,.v true 4],[(false,[.s])]⟩ p_i_ahead F_i_ahead [] Try.func177 (by kernel_rfl) (by kernel_rfl) (by kernel_rfl)
noncomputable def k_i_less:=Kok.mk2 seat 178 ⟨[.v true 4,.v true 4],[(false,[.s])]⟩ p_i_less F_i_less [] Try.func178 (by kernel_rfl) (by kernel_rfl) (by kernel_rfl)
noncomputable def k_i_NetOk:=Kok.mk2 seat 109 ⟨[.v true 3],[(false,[.s])]⟩ p_i_NetOk F_i_NetOk [k_i_in,k_i_LinkOk,k_i_ahead,k_i_less] Try.func109 (by kernel_rfl) (by kernel_rfl) (by kernel_rfl)
noncomputable def k_i_linkAt:=Kok.mk2 seat 182 ⟨[.v true 3,.v false 1,.v false 1,.v false 1],[(false,[.s])]⟩ p_i_linkAt F_i_linkAt [] Try.func182 (by kernel_rfl) (by kernel_rfl) (by kernel_rfl)
noncomputable def k_same:=Kok.mk2 seat 137 ⟨[.v true 8,.v true 8],[(false,[.s])]⟩ p_same F_same [] Try.func137 (by kernel_rfl) (by kernel_rfl) (by kernel_rfl)
noncomputable def k_sameStore:=Kok.mk2 seat 60 ⟨[.v false 1,.v false 1],[(false,[.s])]⟩ p_sameStore F_sameStore [k_same] Try.func60 (by kernel_rfl) (by kernel_rfl) (by kernel_rfl)
noncomputable def k_s_l04Record:=Kok.mk2 seat 153 ⟨[.x 3],[(true,[.s,.s,.s,.s,.s,.o false,.s,.s])]⟩ p_s_l04Record F_s_l04Record [k_s_l01Once,k_s_l01PickInt,k_s_l01Below] Try.func153 (by kernel_rfl) (by kernel_rfl) (by kernel_rfl)
noncomputable def k_s_l05Install:=Kok.mk2 seat 158 ⟨[.v false 1,.v true 8],[(false,[.p]),(false,[.s])]⟩ p_s_l05Install F_s_l05Install [k_s_l05Put,k_s_l05At,k_s_RecordOk] Try.func158 (by kernel_rfl) (by kernel_rfl) (by kernel_rfl)
noncomputable def k_s_l05Store:=Kok.mk2 seat 192 ⟨[.x 3],[(false,[.p])]⟩ p_s_l05Store F_s_l05Store [k_s_l01Below,k_s_l04Record,k_s_l05Install] Try.func192 (by kernel_rfl) (by kernel_rfl) (by kernel_rfl)
noncomputable def k_s_l08Self:=Kok.mk2 seat 152 ⟨[.x 3],[(true,[.s,.s,.s,.p,.p,.p,.p])]⟩ p_s_l08Self F_s_l08Self [k_s_Ideal,k_s_l03Net,k_s_l01Once,k_s_l01Below,k_s_l04Record,k_s_l05Install,k_s_CostTo,k_s_l05Store] Try.func152 (by kernel_rfl) (by kernel_rfl) (by kernel_rfl)
noncomputable def k_s_DrawRightSelf:=Kok.mk2 seat 75 ⟨[.v false 1],[(true,[.s,.s,.s,.p,.p,.p,.p])]⟩ p_s_DrawRightSelf F_s_DrawRightSelf [k_s_l08Self] Try.func75 (by kernel_rfl) (by kernel_rfl) (by kernel_rfl)
noncomputable def k_s_DrawRecords:=Kok.mk2 seat 76 ⟨[.v false 1],[(false,[.o false])]⟩ p_s_DrawRecords F_s_DrawRecords [k_s_l01Below,k_s_l04Record] Try.func76 (by kernel_rfl) (by kernel_rfl) (by kernel_rfl)
noncomputable def k_i_copyNet:=Kok.mk2 seat 193 ⟨[.v true 3],[(true,[.s,.o true,.o true])]⟩ p_i_copyNet F_i_copyNet [] Try.func193 (by kernel_rfl) (by kernel_rfl) (by kernel_rfl)
noncomputable def k_i_copySelf:=Kok.mk2 seat 154 ⟨[.v true 7],[(true,[.s,.s,.s,.o true,.o true,.o true,.o true])]⟩ p_i_copySelf F_i_copySelf [k_i_copyInts,k_i_copyRecords,k_i_copyNet] Try.func154 (by kernel_rfl) (by kernel_rfl) (by kernel_rfl)
noncomputable def k_i_heardOk:=Kok.mk2 seat 159 ⟨[.v true 7],[(false,[.s])]⟩ p_i_heardOk F_i_heardOk [k_i_linkAt] Try.func159 (by kernel_rfl) (by kernel_rfl) (by kernel_rfl)
noncomputable def k_i_SelfOk:=Kok.mk2 seat 79 ⟨[.v true 7],[(false,[.s])]⟩ p_i_SelfOk F_i_SelfOk [k_i_StoreOk,k_i_in,k_i_NetOk,k_i_heardOk] Try.func79 (by kernel_rfl) (by kernel_rfl) (by kernel_rfl)
noncomputable def k_i_Install:=Kok.mk2 seat 194 ⟨[.v false 1,.v true 8],[(false,[.o true]),(false,[.s])]⟩ p_i_Install F_i_Install [k_i_StoreOk,k_i_keyAt,k_i_put,k_i_RecordOk] Try.func194 (by kernel_rfl) (by kernel_rfl) (by kernel_rfl)
noncomputable def k_i_learned:=Kok.mk2 seat 155 ⟨[.v false 1,.v false 1],[(false,[.o true]),(false,[.o true])]⟩ p_i_learned F_i_learned [k_i_copyRecords,k_i_copyRecord,k_i_Install] Try.func155 (by kernel_rfl) (by kernel_rfl) (by kernel_rfl)
noncomputable def k_i_Learn:=Kok.mk2 seat 77 ⟨[.v true 7,.v false 1],[(true,[.s,.s,.s,.o true,.o true,.o true,.o true]),(false,[.o true])]⟩ p_i_Learn F_i_Learn [k_i_SelfOk,k_i_copySelf,k_i_learned] Try.func77 (by kernel_rfl) (by kernel_rfl) (by kernel_rfl)
noncomputable def k_s_l08Copy:=Kok.mk2 seat 156 ⟨[.v true 7],[(true,[.s,.s,.s,.o true,.o true,.o true,.o true])]⟩ p_s_l08Copy F_s_l08Copy [k_s_l04CopyList] Try.func156 (by kernel_rfl) (by kernel_rfl) (by kernel_rfl)
noncomputable def k_s_l08Heard:=Kok.mk2 seat 195 ⟨[.v true 7],[(false,[.s])]⟩ p_s_l08Heard F_s_l08Heard [k_s_CostTo] Try.func195 (by kernel_rfl) (by kernel_rfl) (by kernel_rfl)
noncomputable def k_s_SelfOk:=Kok.mk2 seat 157 ⟨[.v true 7],[(false,[.s])]⟩ p_s_SelfOk F_s_SelfOk [k_s_StoreOk,k_s_l01In,k_s_NetOk,k_s_l08Heard] Try.func157 (by kernel_rfl) (by kernel_rfl) (by kernel_rfl)
noncomputable def k_s_Learn:=Kok.mk2 seat 78 ⟨[.v true 7,.v false 1],[(true,[.s,.s,.s,.o true,.o true,.o true,.o true]),(false,[.o true])]⟩ p_s_Learn F_s_Learn [k_s_l04CopyList,k_s_l04Copy,k_s_l08Copy,k_s_SelfOk,k_s_l05Install] Try.func78 (by kernel_rfl) (by kernel_rfl) (by kernel_rfl)
noncomputable def k_newest:=Kok.mk2 seat 80 ⟨[.v false 1,.v true 8],[(false,[.s])]⟩ p_newest F_newest [k_s_SameKey] Try.func80 (by kernel_rfl) (by kernel_rfl) (by kernel_rfl)
noncomputable def k_s_Merge:=Kok.mk2 seat 81 ⟨[.v false 1,.v false 1],[(false,[.o true])]⟩ p_s_Merge F_s_Merge [k_s_StoreOk,k_s_l04CopyList,k_s_l05Install] Try.func81 (by kernel_rfl) (by kernel_rfl) (by kernel_rfl)
noncomputable def k_FnLearns:=Kok.mk2 seat 14 ⟨[.v false 1],[(false,[.s])]⟩ p_FnLearns F_FnLearns [k_big,k_sameStore,k_s_DrawRightSelf,k_s_DrawRecords,k_i_Learn,k_s_Learn,k_i_SelfOk,k_newest,k_s_Merge] Try.func14 (by kernel_rfl) (by kernel_rfl) (by kernel_rfl)
end Go.Proofs.YtlofiplkmgmnfaaWB

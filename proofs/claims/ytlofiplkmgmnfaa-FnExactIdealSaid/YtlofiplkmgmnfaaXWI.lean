/- The walk: each function does as its plain program says (printed by a program). Conditions: none. -/
import Derived.Test.YtlofiplkmgmnfaaChecked
import Derived.Test.YtlofiplkmgmnfaaKe
import Derived.Test.YtlofiplkmgmnfaaXPI
namespace Go.Proofs.YtlofiplkmgmnfaaWI
open Go.Proofs.YtlofiplkmgmnfaaC
theorem fc {α:Type} {p:α→Prop} {a:α} {l:List α} (h:p a∧∀ x∈l,p x):∀ x∈a :: l,p x:=List.forall_mem_cons.2 h
theorem f0 {α:Type} {p:α→Prop}:∀ x∈([]:List α),p x:=fun _ h=>nomatch h
def lty:List (Nat × TI):=[
 (3,⟨1,8,false,[.p (.k (.int .i64 0))],0,[],1⟩),
 (4,⟨1,1,false,[.p (.k (.bool false))],0,[],4⟩),
 (24,⟨1,24,false,[.n],70,[],3⟩),
 (26,⟨1,24,false,[.n],66,[],3⟩),
 (33,⟨1,24,false,[.n],3,[],3⟩),
 (41,⟨1,24,false,[.n],186,[],3⟩),
 (42,⟨1,24,false,[.n],188,[],3⟩),
 (44,⟨3,56,true,[.p (.k (.int .i64 0)),.n,.n],0,[(0,1),(1,1),(2,1)],0⟩),
 (45,⟨1,24,false,[.n],4,[],3⟩),
 (49,⟨1,24,false,[.n],88,[],3⟩),
 (50,⟨1,24,false,[.n],91,[],3⟩),
 (52,⟨3,56,true,[.p (.k (.int .i64 0)),.n,.n],0,[(0,1),(1,1),(2,1)],0⟩),
 (64,⟨1,24,false,[.n],137,[],3⟩),
 (66,⟨8,80,true,[.p (.k (.int .i64 0)),.p (.k (.int .i64 0)),.p (.k (.int .i64 0)),.p (.k (.int .i64 0)),.p (.k (.int .i64 0)),.n,.p (.k (.int .i64 0)),.p (.k (.bool false))],0,[(0,1),(1,1),(2,1),(3,1),(4,1),(5,1),(6,1),(7,1)],0⟩),
 (70,⟨3,40,true,[.p (.k (.int .i64 0)),.p (.k (.int .i64 0)),.n],0,[(0,1),(1,1),(2,1)],0⟩),
 (88,⟨4,32,true,[.p (.k (.int .i64 0)),.p (.k (.int .i64 0)),.p (.k (.int .i64 0)),.p (.k (.int .i64 0))],0,[(0,1),(1,1),(2,1),(3,1)],5⟩),
 (91,⟨4,32,true,[.p (.k (.int .i64 0)),.p (.k (.int .i64 0)),.p (.k (.int .i64 0)),.p (.k (.bool false))],0,[(0,1),(1,1),(2,1),(3,1)],5⟩),
 (123,⟨1,24,false,[.n],33,[],3⟩),
 (129,⟨1,24,false,[.n],24,[],3⟩),
 (137,⟨2,16,true,[.p (.k (.int .i64 0)),.p (.k (.int .i64 0))],0,[(0,1),(1,1)],5⟩),
 (186,⟨4,32,true,[.p (.k (.int .i64 0)),.p (.k (.int .i64 0)),.p (.k (.int .i64 0)),.p (.k (.int .i64 0))],0,[(0,1),(1,1),(2,1),(3,1)],5⟩),
 (188,⟨4,32,true,[.p (.k (.int .i64 0)),.p (.k (.int .i64 0)),.p (.k (.int .i64 0)),.p (.k (.bool false))],0,[(0,1),(1,1),(2,1),(3,1)],5⟩)]
def lhint:List ((Nat × Nat × Nat) × Js):=[
 ((107,0,0),[(4,false,.phi false [.p]),(7,false,.rows [(0,true)])]),
 ((108,0,0),[(4,false,.phi false [.p]),(7,false,.rows [(0,true)])]),
 ((34,0,0),[(4,false,.phi false [.p]),(7,false,.rows [(0,true)])]),
 ((102,0,0),[(2,false,.phi false [.p]),(3,false,.phi false [.p])]),
 ((102,0,2),[(2,false,.phi false [.p]),(4,false,.phi false [.p])]),
 ((187,0,0),[(8,false,.phi false [.p]),(9,false,.phi false [.p])]),
 ((132,0,0),[(7,false,.phi false [.o true]),(8,false,.phi false [.p])]),
 ((132,2,19),[(7,false,.phi false [.o true])]),
 ((53,0,0),[(5,false,.phi false [.o true]),(6,false,.phi false [.p])]),
 ((53,2,17),[(5,false,.phi false [.o true])]),
 ((103,0,0),[(10,false,.phi false [.p]),(11,false,.phi false [.p])]),
 ((104,0,0),[(5,false,.phi false [.o false]),(6,false,.phi false [.p])]),
 ((104,0,2),[(5,false,.phi false [.o false]),(7,false,.phi false [.p])]),
 ((104,2,20),[(5,false,.phi false [.o false])]),
 ((104,2,43),[(5,false,.phi false [.o false])]),
 ((189,0,0),[(2,false,.phi false [.p]),(3,false,.phi false [.p])]),
 ((63,0,0),[(2,false,.phi false [.p]),(3,false,.phi false [.p])]),
 ((123,0,0),[(4,false,.phi false [.p]),(5,false,.phi false [.p])]),
 ((127,0,0),[(8,false,.phi false [.p]),(11,false,.phi false [.p])]),
 ((85,0,0),[(6,false,.phi false [.p]),(10,false,.rows [(0,true)])]),
 ((85,0,2),[(9,false,.phi false [.p]),(10,false,.rows [(0,true)])]),
 ((85,2,48),[(10,false,.rows [(0,true)])]),
 ((162,0,0),[(4,false,.phi false [.p]),(5,false,.phi false [.p])]),
 ((86,0,0),[(5,false,.phi false [.o true]),(6,false,.phi false [.p])]),
 ((86,2,19),[(5,false,.phi false [.o true])]),
 ((16,0,0),[(14,false,.phi false [.p]),(47,false,.rows [(0,true)])]),
 ((16,0,2),[(15,false,.phi false [.p]),(48,false,.rows [(0,false)]),(49,false,.rows [(0,true)]),(47,false,.rows [(0,true)])]),
 ((16,0,4),[(16,false,.phi false [.p]),(17,false,.phi false [.p])]),
 ((16,0,6),[(18,false,.phi false [.p]),(48,false,.rows [(0,false)]),(47,false,.rows [(0,true)])]),
 ((16,0,8),[(7,false,.phi false [.o true]),(22,false,.phi false [.p])]),
 ((16,2,126),[(20,false,.phi false [.p])]),
 ((16,2,147),[(48,false,.rows [(0,false)]),(47,false,.rows [(0,true)])]),
 ((16,2,163),[(48,false,.rows [(0,false)])]),
 ((16,2,180),[(7,false,.phi false [.o true])]),
 ((16,2,94),[(16,false,.phi false [.p])]),
 ((47,0,0),[(5,false,.phi false [.p]),(6,false,.phi false [.p])]),
 ((24,0,0),[(8,false,.phi false [.o false]),(9,false,.phi false [.p])]),
 ((24,0,2),[(7,false,.phi false [.o false]),(10,false,.phi false [.p])]),
 ((24,0,4),[(12,false,.phi false [.p]),(13,false,.phi false [.p]),(11,true,.phi true [.p,.p,.p])]),
 ((24,2,56),[(14,true,.phi true [.p,.p,.p])]),
 ((24,2,61),[(7,false,.phi false [.o false])]),
 ((99,0,0),[(6,false,.phi false [.p]),(16,false,.phi false [.p]),(12,true,.phi true [.p,.p,.p])]),
 ((99,2,81),[(18,true,.phi true [.p,.p,.p])]),
 ((29,0,0),[(11,false,.phi false [.o false]),(12,false,.phi false [.p])]),
 ((29,0,2),[(9,false,.phi false [.o false]),(13,false,.phi false [.p])]),
 ((29,0,4),[(17,false,.phi false [.p]),(18,false,.phi false [.p]),(16,true,.phi true [.p,.p,.p])]),
 ((29,2,88),[(9,false,.phi false [.o false])]),
 ((172,0,0),[(10,false,.phi false [.o true]),(11,false,.phi false [.p])]),
 ((172,0,2),[(9,false,.phi false [.o true]),(15,false,.phi false [.p])]),
 ((172,2,37),[(10,false,.phi false [.o true])]),
 ((172,2,84),[(18,true,.phi true [.p,.p,.p]),(19,false,.phi false [.p])]),
 ((172,2,91),[(9,false,.phi false [.o true])]),
 ((173,0,0),[(5,false,.phi false [.p]),(6,false,.phi false [.p])]),
 ((173,2,21),[(7,true,.phi true [.k,.k,.k,.k,.p,.k,.k,.k])]),
 ((105,0,0),[(7,false,.phi false [.o false]),(8,false,.phi false [.p])]),
 ((105,0,2),[(9,false,.phi false [.o false]),(10,false,.phi false [.p])]),
 ((105,2,49),[(9,false,.phi false [.o false])]),
 ((106,0,0),[(3,false,.phi false [.o true]),(4,false,.phi false [.p])]),
 ((32,0,0),[(8,false,.phi false [.p]),(9,false,.phi false [.p])]),
 ((32,0,10),[(8,false,.phi false [.p]),(18,false,.phi false [.p])]),
 ((32,0,2),[(8,false,.phi false [.p]),(11,false,.phi false [.p])]),
 ((32,0,4),[(13,false,.phi false [.p]),(12,true,.phi true [.k,.k,.k,.k,.k,.o true,.k,.k])]),
 ((32,0,6),[(8,false,.phi false [.p]),(15,false,.phi false [.p])]),
 ((32,0,8),[(8,false,.phi false [.p]),(17,false,.phi false [.p])]),
 ((32,2,119),[(8,false,.phi false [.p])]),
 ((32,2,150),[(8,false,.phi false [.p])]),
 ((32,2,90),[(12,true,.phi true [.k,.k,.k,.k,.k,.o true,.k,.k])]),
 ((109,0,0),[(2,false,.phi false [.p]),(26,false,.phi false [.p])]),
 ((109,0,2),[(2,false,.phi false [.p]),(55,false,.phi false [.p])]),
 ((131,0,0),[(5,false,.phi false [.p])]),
 ((131,4,6),[(0,false,.rows [(0,true)])]),
 ((110,0,0),[(5,false,.phi false [.o true]),(11,false,.phi false [.p])]),
 ((110,2,24),[(5,false,.phi false [.o true])]),
 ((181,0,0),[(7,false,.phi false [.o true]),(13,false,.phi false [.p])]),
 ((181,2,24),[(7,false,.phi false [.o true])]),
 ((181,2,32),[(7,false,.phi false [.o true])]),
 ((182,0,0),[(8,false,.phi false [.p]),(14,false,.phi false [.p])]),
 ((112,0,0),[(11,false,.phi false [.o true]),(20,false,.phi false [.p])]),
 ((112,2,39),[(11,false,.phi false [.o true])]),
 ((179,0,0),[(3,false,.phi false [.o true]),(8,false,.phi false [.p])]),
 ((111,0,0),[(5,false,.phi false [.p])]),
 ((111,2,40),[(5,false,.phi false [.p])]),
 ((91,0,0),[(4,false,.phi false [.p]),(9,false,.phi false [.p])]),
 ((197,0,0),[(2,false,.phi false [.p]),(8,false,.phi false [.p])]),
 ((88,0,0),[(2,false,.phi false [.p]),(7,false,.phi false [.p])]),
 ((90,0,0),[(4,false,.phi false [.p]),(9,false,.phi false [.p])]),
 ((125,0,0),[(8,false,.phi false [.p]),(25,false,.phi false [.p])]),
 ((50,0,1),[(34,false,.phi false [.p]),(5,true,.phi true [.k,.k,.o true])]),
 ((50,0,3),[(47,false,.phi false [.p]),(5,true,.phi true [.k,.k,.o true])]),
 ((92,0,0),[(10,false,.phi false [.p]),(3,false,.rows [(0,true)])]),
 ((92,2,47),[(12,true,.phi true [.k,.k,.o true])]),
 ((92,2,55),[(3,false,.rows [(0,true)]),(12,true,.phi true [.k,.k,.d])]),
 ((92,2,70),[(3,false,.rows [(0,true)])]),
 ((18,0,0),[(8,false,.phi false [.o true]),(30,false,.rows [(0,true)])]),
 ((18,0,2),[(9,false,.phi false [.p]),(10,false,.phi false [.p])]),
 ((18,0,4),[(11,false,.phi false [.o true]),(84,false,.phi false [.p]),(30,false,.rows [(0,true)])]),
 ((18,2,68),[(9,false,.phi false [.p])]),
 ((18,2,90),[(11,false,.phi false [.o true]),(87,false,.phi true [.k,.k,.d]),(13,true,.phi true [.k,.k,.d])]),
 ((18,5,16),[(7,false,.rows [(0,true)])]),
 ((45,0,0),[(5,false,.phi false [.p]),(10,false,.phi false [.p])]),
 ((136,2,36),[(4,true,.phi false [.o true])]),
 ((98,0,0),[(5,false,.phi false [.p])]),
 ((98,5,7),[(0,false,.rows [(0,true)])]),
 ((26,0,0),[(7,false,.phi false [.o true]),(14,false,.phi false [.p])]),
 ((26,0,2),[(7,false,.phi false [.o true]),(23,false,.phi false [.p]),(21,false,.rows [(0,false)])]),
 ((30,0,0),[(10,false,.phi false [.o true]),(23,false,.phi false [.p])]),
 ((59,0,0),[(9,false,.phi false [.o true]),(21,false,.phi false [.p])]),
 ((59,0,2),[(43,false,.phi false [.p]),(13,true,.phi false [.o true]),(41,false,.rows [(0,false)])]),
 ((59,0,4),[(58,false,.phi false [.p]),(13,true,.phi false [.o true]),(56,false,.rows [(0,false)])]),
 ((59,2,27),[(9,false,.phi false [.o true])]),
 ((59,2,52),[(13,true,.phi false [.o true])]),
 ((114,0,0),[(7,false,.phi false [.o true]),(17,false,.phi false [.p]),(15,false,.rows [(0,true)])]),
 ((114,0,2),[(7,false,.phi false [.o true]),(40,false,.phi false [.p])]),
 ((114,0,4),[(7,false,.phi false [.o true]),(50,false,.phi false [.p]),(48,false,.rows [(0,false)])]),
 ((114,2,29),[(7,false,.phi false [.o true]),(20,false,.phi true [.k,.k,.k,.k,.k,.d,.k,.k]),(9,true,.phi true [.k,.k,.k,.k,.k,.d,.k,.k])]),
 ((114,5,2),[(0,false,.rows [(0,true)])]),
 ((35,0,0),[(8,false,.phi false [.o true]),(9,false,.phi false [.p])]),
 ((35,0,2),[(8,false,.phi false [.o true]),(43,false,.phi false [.p])]),
 ((35,0,4),[(8,false,.phi false [.o true]),(67,false,.phi false [.p])]),
 ((35,0,6),[(8,false,.phi false [.o true]),(89,false,.phi false [.p])]),
 ((35,0,8),[(8,false,.phi false [.o true]),(14,false,.phi false [.p])]),
 ((35,2,106),[(8,false,.phi false [.o true])]),
 ((35,2,51),[(8,false,.phi false [.o true])]),
 ((35,2,76),[(8,false,.phi false [.o true])]),
 ((167,0,0),[(4,false,.phi false [.p]),(5,false,.phi false [.p])]),
 ((20,0,0),[(4,false,.phi false [.p]),(5,false,.phi false [.p])]),
 ((115,0,0),[(4,false,.phi false [.p]),(5,false,.phi false [.p])]),
 ((116,0,0),[(4,false,.phi false [.p]),(5,false,.phi false [.p])]),
 ((37,0,0),[(4,false,.phi false [.p]),(5,false,.phi false [.p])]),
 ((117,0,0),[(1,false,.phi false [.p]),(5,false,.phi false [.p]),(0,false,.rows [(0,true)])]),
 ((118,0,0),[(1,false,.phi false [.p]),(5,false,.phi false [.p]),(0,false,.rows [(0,true)])]),
 ((39,0,0),[(1,false,.phi false [.p]),(5,false,.phi false [.p]),(0,false,.rows [(0,true)])]),
 ((95,0,0),[(1,false,.phi false [.p]),(5,false,.phi false [.p]),(0,false,.rows [(0,true)])]),
 ((21,0,0),[(1,false,.phi false [.p]),(5,false,.phi false [.p]),(0,false,.rows [(0,true)])]),
 ((119,0,0),[(1,false,.phi false [.p]),(4,false,.phi false [.p]),(5,false,.phi false [.p])]),
 ((40,0,0),[(1,false,.phi false [.p]),(4,false,.phi false [.p]),(5,false,.phi false [.p])])]
def lfz:List (Nat × Nat × Nat):=[(18,18,1),(114,4,1)]
def lnest:List Nat:=[117,118,38,39,95,21,6]
noncomputable def lfn:List (Nat × Func):=[(131,Try.f131),(92,Try.f92),(136,Try.f136),(98,Try.f98),(114,Try.f114),(117,Try.f117),(118,Try.f118),(38,Try.f38),(39,Try.f39),(95,Try.f95),(21,Try.f21)]
noncomputable def cx:Cx:={ ty:=tiOf lty,sg:=fun _=>none,fn:=fnOf lfn,hint:=hintOf lhint,fz:=fzOf lfz,nest:=memN lnest }
theorem in_i_with:FnIn Try.prog 131:=.mk Try.func131 (by kernel_rfl) (by kernel_rfl)
theorem in_i_spread:FnIn Try.prog 92:=.mk Try.func92 (by kernel_rfl) (by kernel_rfl)
theorem in_i_Beyond_1:FnIn Try.prog 136:=.mk Try.func136 (by kernel_rfl) (by kernel_rfl)
theorem in_i_also:FnIn Try.prog 98:=.mk Try.func98 (by kernel_rfl) (by kernel_rfl)
theorem in_i_instead:FnIn Try.prog 114:=.mk Try.func114 (by kernel_rfl) (by kernel_rfl)
theorem in_markLinkS:FnIn Try.prog 117:=.mk Try.func117 (by kernel_rfl) (by kernel_rfl)
theorem in_markThingS:FnIn Try.prog 118:=.mk Try.func118 (by kernel_rfl) (by kernel_rfl)
theorem in_markNet:FnIn Try.prog 38:=.mk Try.func38 (by kernel_rfl) (by kernel_rfl)
theorem in_markBoolS:FnIn Try.prog 39:=.mk Try.func39 (by kernel_rfl) (by kernel_rfl)
theorem in_markNearS:FnIn Try.prog 95:=.mk Try.func95 (by kernel_rfl) (by kernel_rfl)
theorem in_markRecordS:FnIn Try.prog 21:=.mk Try.func21 (by kernel_rfl) (by kernel_rfl)
theorem seat:Seat Try.prog cx:=⟨tys_ok (l:=lty) (by kernel_rfl) rfl,into_of (l:=lfn) (fc ⟨⟨Try.func131,in_i_with⟩,fc ⟨⟨Try.func92,in_i_spread⟩,fc ⟨⟨Try.func136,in_i_Beyond_1⟩,fc ⟨⟨Try.func98,in_i_also⟩,fc ⟨⟨Try.func114,in_i_instead⟩,fc ⟨⟨Try.func117,in_markLinkS⟩,fc ⟨⟨Try.func118,in_markThingS⟩,fc ⟨⟨Try.func38,in_markNet⟩,fc ⟨⟨Try.func39,in_markBoolS⟩,fc ⟨⟨Try.func95,in_markNearS⟩,fc ⟨⟨Try.func21,in_markRecordS⟩,f0⟩⟩⟩⟩⟩⟩⟩⟩⟩⟩⟩) rfl,by kernel_rfl⟩
noncomputable def k_szLinkS:=Kok.mk2 seat 100 ⟨[.v false 1,.v false 1],[(false,[.s])]⟩ p_szLinkS F_szLinkS [] Try.func100 (by kernel_rfl) (by kernel_rfl) (by kernel_rfl)
noncomputable def k_szThingS:=Kok.mk2 seat 101 ⟨[.v false 1,.v false 1],[(false,[.s])]⟩ p_szThingS F_szThingS [] Try.func101 (by kernel_rfl) (by kernel_rfl) (by kernel_rfl)
noncomputable def k_szNet:=Kok.mk2 seat 31 ⟨[.v true 3,.v false 1],[(false,[.s])]⟩ p_szNet F_szNet [k_szLinkS,k_szThingS] Try.func31 (by kernel_rfl) (by kernel_rfl) (by kernel_rfl)
noncomputable def k_toLink:=Kok.mk2 seat 174 ⟨[.v true 4],[(true,[.s,.s,.s,.s])]⟩ p_toLink F_toLink [] Try.func174 (by kernel_rfl) (by kernel_rfl) (by kernel_rfl)
noncomputable def k_toLinkS:=Kok.mk2 seat 107 ⟨[.v false 1],[(false,[.o true])]⟩ p_toLinkS F_toLinkS [k_toLink] Try.func107 (by kernel_rfl) (by kernel_rfl) (by kernel_rfl)
noncomputable def k_toThing:=Kok.mk2 seat 175 ⟨[.v true 4],[(true,[.s,.s,.s,.s])]⟩ p_toThing F_toThing [] Try.func175 (by kernel_rfl) (by kernel_rfl) (by kernel_rfl)
noncomputable def k_toThingS:=Kok.mk2 seat 108 ⟨[.v false 1],[(false,[.o true])]⟩ p_toThingS F_toThingS [k_toThing] Try.func108 (by kernel_rfl) (by kernel_rfl) (by kernel_rfl)
noncomputable def k_toNet:=Kok.mk2 seat 33 ⟨[.v true 3],[(true,[.s,.o true,.o true])]⟩ p_toNet F_toNet [k_toLinkS,k_toThingS] Try.func33 (by kernel_rfl) (by kernel_rfl) (by kernel_rfl)
noncomputable def k_toBoolS:=Kok.mk2 seat 34 ⟨[.v false 1],[(false,[.o true])]⟩ p_toBoolS F_toBoolS [] Try.func34 (by kernel_rfl) (by kernel_rfl) (by kernel_rfl)
noncomputable def k_s_l01In:=Kok.mk2 seat 84 ⟨[.v false 1,.v false 1,.v false 1],[(false,[.s])]⟩ p_s_l01In F_s_l01In [] Try.func84 (by kernel_rfl) (by kernel_rfl) (by kernel_rfl)
noncomputable def k_s_LinkOk:=Kok.mk2 seat 169 ⟨[.v false 1,.v true 4],[(false,[.s])]⟩ p_s_LinkOk F_s_LinkOk [k_s_l01In] Try.func169 (by kernel_rfl) (by kernel_rfl) (by kernel_rfl)
noncomputable def k_s_l03Ahead:=Kok.mk2 seat 170 ⟨[.v true 4,.v true 4],[(false,[.s])]⟩ p_s_l03Ahead F_s_l03Ahead [] Try.func170 (by kernel_rfl) (by kernel_rfl) (by kernel_rfl)
noncomputable def k_s_l03Thing:=Kok.mk2 seat 171 ⟨[.v true 4,.v true 4],[(false,[.s])]⟩ p_s_l03Thing F_s_l03Thing [] Try.func171 (by kernel_rfl) (by kernel_rfl) (by kernel_rfl)
noncomputable def k_s_NetOk:=Kok.mk2 seat 102 ⟨[.v true 3],[(false,[.s])]⟩ p_s_NetOk F_s_NetOk [k_s_l01In,k_s_LinkOk,k_s_l03Ahead,k_s_l03Thing] Try.func102 (by kernel_rfl) (by kernel_rfl) (by kernel_rfl)
noncomputable def k_s_CostTo:=Kok.mk2 seat 187 ⟨[.v true 3,.v false 1,.v false 1,.v false 1],[(false,[.s])]⟩ p_s_CostTo F_s_CostTo [] Try.func187 (by kernel_rfl) (by kernel_rfl) (by kernel_rfl)
noncomputable def k_s_NextTo:=Kok.mk2 seat 132 ⟨[.v true 3,.v false 1,.v false 1],[(false,[.p])]⟩ p_s_NextTo F_s_NextTo [k_s_CostTo] Try.func132 (by kernel_rfl) (by kernel_rfl) (by kernel_rfl)
noncomputable def k_s_AreasOf:=Kok.mk2 seat 53 ⟨[.v true 3,.v false 1],[(false,[.p])]⟩ p_s_AreasOf F_s_AreasOf [k_s_NextTo] Try.func53 (by kernel_rfl) (by kernel_rfl) (by kernel_rfl)
noncomputable def k_s_l13Open:=Kok.mk2 seat 103 ⟨[.v true 3,.v false 1,.v false 1,.v false 1,.v false 1],[(false,[.s])]⟩ p_s_l13Open F_s_l13Open [] Try.func103 (by kernel_rfl) (by kernel_rfl) (by kernel_rfl)
noncomputable def k_s_Before:=Kok.mk2 seat 140 ⟨[.v true 8,.v true 8],[(false,[.s])]⟩ p_s_Before F_s_Before [] Try.func140 (by kernel_rfl) (by kernel_rfl) (by kernel_rfl)
noncomputable def k_s_l05Put:=Kok.mk2 seat 104 ⟨[.v false 1,.v true 8],[(false,[.p])]⟩ p_s_l05Put F_s_l05Put [k_s_Before] Try.func104 (by kernel_rfl) (by kernel_rfl) (by kernel_rfl)
noncomputable def k_s_Border:=Kok.mk2 seat 54 ⟨[.v true 3,.v false 1],[(false,[.s])]⟩ p_s_Border F_s_Border [k_s_AreasOf] Try.func54 (by kernel_rfl) (by kernel_rfl) (by kernel_rfl)
noncomputable def k_s_l04Near:=Kok.mk2 seat 189 ⟨[.v true 8],[(false,[.s])]⟩ p_s_l04Near F_s_l04Near [k_s_l01In] Try.func189 (by kernel_rfl) (by kernel_rfl) (by kernel_rfl)
noncomputable def k_s_RecordOk:=Kok.mk2 seat 139 ⟨[.v true 8],[(false,[.s])]⟩ p_s_RecordOk F_s_RecordOk [k_s_l01In,k_s_l04Near] Try.func139 (by kernel_rfl) (by kernel_rfl) (by kernel_rfl)
noncomputable def k_s_StoreOk:=Kok.mk2 seat 63 ⟨[.v false 1],[(false,[.s])]⟩ p_s_StoreOk F_s_StoreOk [k_s_RecordOk,k_s_Before] Try.func63 (by kernel_rfl) (by kernel_rfl) (by kernel_rfl)
noncomputable def k_s_SameKey:=Kok.mk2 seat 160 ⟨[.v true 8,.v true 8],[(false,[.s])]⟩ p_s_SameKey F_s_SameKey [] Try.func160 (by kernel_rfl) (by kernel_rfl) (by kernel_rfl)
noncomputable def k_s_l05At:=Kok.mk2 seat 123 ⟨[.v false 1,.v true 8],[(false,[.s])]⟩ p_s_l05At F_s_l05At [k_s_SameKey] Try.func123 (by kernel_rfl) (by kernel_rfl) (by kernel_rfl)
noncomputable def k_s_l06Node:=Kok.mk2 seat 83 ⟨[.v false 1,.v false 1,.v false 1],[(true,[.s,.s,.s,.s,.s,.p,.s,.s]),(false,[.s])]⟩ p_s_l06Node F_s_l06Node [k_s_l05At] Try.func83 (by kernel_rfl) (by kernel_rfl) (by kernel_rfl)
noncomputable def k_s_l06Tells:=Kok.mk2 seat 127 ⟨[.v false 1,.v false 1,.v false 1,.v false 1],[(false,[.s])]⟩ p_s_l06Tells F_s_l06Tells [k_s_l06Node] Try.func127 (by kernel_rfl) (by kernel_rfl) (by kernel_rfl)
noncomputable def k_s_l06Links:=Kok.mk2 seat 85 ⟨[.v false 1,.v false 1],[(false,[.p])]⟩ p_s_l06Links F_s_l06Links [k_s_l06Node,k_s_l01In,k_s_l06Tells] Try.func85 (by kernel_rfl) (by kernel_rfl) (by kernel_rfl)
noncomputable def k_s_l03In:=Kok.mk2 seat 162 ⟨[.v false 1,.v false 1],[(false,[.s])]⟩ p_s_l03In F_s_l03In [] Try.func162 (by kernel_rfl) (by kernel_rfl) (by kernel_rfl)
noncomputable def k_s_l06Add:=Kok.mk2 seat 86 ⟨[.v false 1,.v false 1],[(false,[.o true])]⟩ p_s_l06Add F_s_l06Add [k_s_l03In] Try.func86 (by kernel_rfl) (by kernel_rfl) (by kernel_rfl)
noncomputable def k_s_WaysIn:=Kok.mk2 seat 16 ⟨[.v false 1,.v false 1,.v false 1],[(false,[.p])]⟩ p_s_WaysIn F_s_WaysIn [k_s_StoreOk,k_s_l06Node,k_s_l01In,k_s_l06Links,k_s_l06Add] Try.func16 (by kernel_rfl) (by kernel_rfl) (by kernel_rfl)
noncomputable def k_s_l06Copy:=Kok.mk2 seat 128 ⟨[.v true 3],[(true,[.s,.s,.p])]⟩ p_s_l06Copy F_s_l06Copy [] Try.func128 (by kernel_rfl) (by kernel_rfl) (by kernel_rfl)
noncomputable def k_s_WayTo:=Kok.mk2 seat 47 ⟨[.v false 1,.v false 1],[(true,[.s,.s,.p]),(false,[.s])]⟩ p_s_WayTo F_s_WayTo [k_s_l06Copy] Try.func47 (by kernel_rfl) (by kernel_rfl) (by kernel_rfl)
noncomputable def k_s_Better:=Kok.mk2 seat 168 ⟨[.v true 3,.v true 3],[(false,[.s])]⟩ p_s_Better F_s_Better [] Try.func168 (by kernel_rfl) (by kernel_rfl) (by kernel_rfl)
noncomputable def k_s_Together:=Kok.mk2 seat 97 ⟨[.v true 3,.v true 3],[(true,[.s,.s,.p])]⟩ p_s_Together F_s_Together [k_s_l06Add,k_s_l06Copy,k_s_Better] Try.func97 (by kernel_rfl) (by kernel_rfl) (by kernel_rfl)
noncomputable def k_s_RoutesWithin:=Kok.mk2 seat 24 ⟨[.v false 1,.v false 1,.v false 1],[(false,[.p])]⟩ p_s_RoutesWithin F_s_RoutesWithin [k_s_WaysIn,k_s_WayTo,k_s_Together] Try.func24 (by kernel_rfl) (by kernel_rfl) (by kernel_rfl)
noncomputable def k_s_l07Beyond:=Kok.mk2 seat 99 ⟨[.v false 1,.v false 1,.v false 1,.v false 1,.v false 1,.v true 3,.v false 1],[(true,[.s,.s,.p]),(false,[.s])]⟩ p_s_l07Beyond F_s_l07Beyond [k_s_WayTo,k_s_Together] Try.func99 (by kernel_rfl) (by kernel_rfl) (by kernel_rfl)
noncomputable def k_s_RoutesBeyond:=Kok.mk2 seat 29 ⟨[.v false 1,.v false 1,.v false 1,.v false 1],[(false,[.p])]⟩ p_s_RoutesBeyond F_s_RoutesBeyond [k_s_WaysIn,k_s_RoutesWithin,k_s_WayTo,k_s_StoreOk,k_s_l07Beyond] Try.func29 (by kernel_rfl) (by kernel_rfl) (by kernel_rfl)
noncomputable def k_s_Beyond:=Kok.mk2 seat 172 ⟨[.v false 1,.v false 1,.v false 1,.v false 1],[(false,[.p])]⟩ p_s_Beyond F_s_Beyond [k_s_WaysIn,k_s_RoutesWithin,k_s_RoutesBeyond,k_s_WayTo,k_s_StoreOk] Try.func172 (by kernel_rfl) (by kernel_rfl) (by kernel_rfl)
noncomputable def k_s_l08With:=Kok.mk2 seat 173 ⟨[.v false 1,.v false 1],[(false,[.p])]⟩ p_s_l08With F_s_l08With [k_s_l05Put] Try.func173 (by kernel_rfl) (by kernel_rfl) (by kernel_rfl)
noncomputable def k_s_l13Beyond:=Kok.mk2 seat 105 ⟨[.v false 1,.v false 1,.v false 1],[(false,[.p])]⟩ p_s_l13Beyond F_s_l13Beyond [k_s_Beyond,k_s_l08With] Try.func105 (by kernel_rfl) (by kernel_rfl) (by kernel_rfl)
noncomputable def k_s_l04Copy:=Kok.mk2 seat 124 ⟨[.v true 8],[(true,[.s,.s,.s,.s,.s,.o true,.s,.s])]⟩ p_s_l04Copy F_s_l04Copy [] Try.func124 (by kernel_rfl) (by kernel_rfl) (by kernel_rfl)
noncomputable def k_s_l04CopyList:=Kok.mk2 seat 106 ⟨[.v false 1],[(false,[.o true])]⟩ p_s_l04CopyList F_s_l04CopyList [k_s_l04Copy] Try.func106 (by kernel_rfl) (by kernel_rfl) (by kernel_rfl)
noncomputable def k_s_Ideal:=Kok.mk2 seat 32 ⟨[.v true 3,.v false 1,.v false 1],[(false,[.p]),(false,[.s])]⟩ p_s_Ideal F_s_Ideal [k_s_AreasOf,k_s_Border,k_s_NetOk,k_s_l13Open,k_s_l05Put,k_s_l13Beyond,k_s_l04CopyList] Try.func32 (by kernel_rfl) (by kernel_rfl) (by kernel_rfl)
noncomputable def k_i_in:=Kok.mk2 seat 89 ⟨[.v false 1,.v false 1,.v false 1],[(false,[.s])]⟩ p_i_in F_i_in [] Try.func89 (by kernel_rfl) (by kernel_rfl) (by kernel_rfl)
noncomputable def k_i_LinkOk:=Kok.mk2 seat 176 ⟨[.v false 1,.v true 4],[(false,[.s])]⟩ p_i_LinkOk F_i_LinkOk [k_i_in] Try.func176 (by kernel_rfl) (by kernel_rfl) (by kernel_rfl)
noncomputable def k_i_ahead:=Kok.mk2 seat 177 ⟨[.v true 4,.v true 4],[(false,[.s])]⟩ p_i_ahead F_i_ahead [] Try.func177 (by kernel_rfl) (by kernel_rfl) (by kernel_rfl)
noncomputable def k_i_less:=Kok.mk2 seat 178 ⟨[.v true 4,.v true 4],[(false,[.s])]⟩ p_i_less F_i_less [] Try.func178 (by kernel_rfl) (by kernel_rfl) (by kernel_rfl)
noncomputable def k_i_NetOk:=Kok.mk2 seat 109 ⟨[.v true 3],[(false,[.s])]⟩ p_i_NetOk F_i_NetOk [k_i_in,k_i_LinkOk,k_i_ahead,k_i_less] Try.func109 (by kernel_rfl) (by kernel_rfl) (by kernel_rfl)
noncomputable def k_i_copyInts:=Kok.mk2 seat 133 ⟨[.v false 1],[(false,[.o true])]⟩ p_i_copyInts F_i_copyInts [] Try.func133 (by kernel_rfl) (by kernel_rfl) (by kernel_rfl)
noncomputable def k_i_AreasOf:=Kok.mk2 seat 110 ⟨[.v true 3,.v false 1],[(false,[.o true])]⟩ p_i_AreasOf F_i_AreasOf [k_i_copyInts] Try.func110 (by kernel_rfl) (by kernel_rfl) (by kernel_rfl)
noncomputable def k_i_NextTo:=Kok.mk2 seat 181 ⟨[.v true 3,.v false 1,.v false 1],[(false,[.o true])]⟩ p_i_NextTo F_i_NextTo [k_i_copyInts] Try.func181 (by kernel_rfl) (by kernel_rfl) (by kernel_rfl)
noncomputable def k_i_linkAt:=Kok.mk2 seat 182 ⟨[.v true 3,.v false 1,.v false 1,.v false 1],[(false,[.s])]⟩ p_i_linkAt F_i_linkAt [] Try.func182 (by kernel_rfl) (by kernel_rfl) (by kernel_rfl)
noncomputable def k_i_nearUp:=Kok.mk2 seat 112 ⟨[.v true 3,.v false 1,.v false 1,.v false 1,.v false 1],[(false,[.o true])]⟩ p_i_nearUp F_i_nearUp [k_i_NextTo,k_i_linkAt] Try.func112 (by kernel_rfl) (by kernel_rfl) (by kernel_rfl)
noncomputable def k_i_Before:=Kok.mk2 seat 165 ⟨[.v true 8,.v true 8],[(false,[.s])]⟩ p_i_Before F_i_Before [] Try.func165 (by kernel_rfl) (by kernel_rfl) (by kernel_rfl)
noncomputable def k_i_copyRecord:=Kok.mk2 seat 180 ⟨[.v true 8],[(true,[.s,.s,.s,.s,.s,.o true,.s,.s])]⟩ p_i_copyRecord F_i_copyRecord [] Try.func180 (by kernel_rfl) (by kernel_rfl) (by kernel_rfl)
noncomputable def k_i_copyRecords:=Kok.mk2 seat 179 ⟨[.v false 1],[(false,[.o true])]⟩ p_i_copyRecords F_i_copyRecords [k_i_copyRecord] Try.func179 (by kernel_rfl) (by kernel_rfl) (by kernel_rfl)
noncomputable def k_i_SameKey:=Kok.mk2 seat 166 ⟨[.v true 8,.v true 8],[(false,[.s])]⟩ p_i_SameKey F_i_SameKey [] Try.func166 (by kernel_rfl) (by kernel_rfl) (by kernel_rfl)
noncomputable def k_i_put:=Kok.mk2 seat 111 ⟨[.v false 1,.v true 8],[(false,[.o true])]⟩ p_i_put F_i_put [k_i_Before,k_i_SameKey,k_i_copyRecords,k_i_copyRecord] Try.func111 (by kernel_rfl) (by kernel_rfl) (by kernel_rfl)
noncomputable def k_i_hasInt:=Kok.mk2 seat 91 ⟨[.v false 1,.v false 1],[(false,[.s])]⟩ p_i_hasInt F_i_hasInt [] Try.func91 (by kernel_rfl) (by kernel_rfl) (by kernel_rfl)
noncomputable def k_i_Border:=Kok.mk2 seat 113 ⟨[.v true 3,.v false 1],[(false,[.s])]⟩ p_i_Border F_i_Border [k_i_hasInt,k_i_AreasOf] Try.func113 (by kernel_rfl) (by kernel_rfl) (by kernel_rfl)
noncomputable def k_i_nearOk:=Kok.mk2 seat 197 ⟨[.v true 8],[(false,[.s])]⟩ p_i_nearOk F_i_nearOk [k_i_in] Try.func197 (by kernel_rfl) (by kernel_rfl) (by kernel_rfl)
noncomputable def k_i_RecordOk:=Kok.mk2 seat 164 ⟨[.v true 8],[(false,[.s])]⟩ p_i_RecordOk F_i_RecordOk [k_i_in,k_i_nearOk] Try.func164 (by kernel_rfl) (by kernel_rfl) (by kernel_rfl)
noncomputable def k_i_StoreOk:=Kok.mk2 seat 88 ⟨[.v false 1],[(false,[.s])]⟩ p_i_StoreOk F_i_StoreOk [k_i_RecordOk,k_i_Before] Try.func88 (by kernel_rfl) (by kernel_rfl) (by kernel_rfl)
noncomputable def k_i_keyAt:=Kok.mk2 seat 90 ⟨[.v false 1,.v true 8],[(false,[.s])]⟩ p_i_keyAt F_i_keyAt [k_i_SameKey] Try.func90 (by kernel_rfl) (by kernel_rfl) (by kernel_rfl)
noncomputable def k_i_told:=Kok.mk2 seat 125 ⟨[.v false 1,.v false 1,.v false 1,.v false 1],[(false,[.s])]⟩ p_i_told F_i_told [k_i_keyAt] Try.func125 (by kernel_rfl) (by kernel_rfl) (by kernel_rfl)
noncomputable def k_i_Linked:=Kok.mk2 seat 44 ⟨[.v false 1,.v false 1,.v false 1,.v false 1],[(false,[.s])]⟩ p_i_Linked F_i_Linked [k_i_told] Try.func44 (by kernel_rfl) (by kernel_rfl) (by kernel_rfl)
noncomputable def k_i_copyWay:=Kok.mk2 seat 126 ⟨[.v true 3],[(true,[.s,.s,.o true])]⟩ p_i_copyWay F_i_copyWay [k_i_copyInts] Try.func126 (by kernel_rfl) (by kernel_rfl) (by kernel_rfl)
noncomputable def k_i_Together:=Kok.mk2 seat 50 ⟨[.v true 3,.v true 3],[(true,[.s,.s,.o true])]⟩ p_i_Together F_i_Together [k_i_copyWay,k_i_copyInts] Try.func50 (by kernel_rfl) (by kernel_rfl) (by kernel_rfl)
noncomputable def k_i_WaysIn:=Kok.mk2 seat 18 ⟨[.v false 1,.v false 1,.v false 1],[(false,[.o true])]⟩ p_i_WaysIn F_i_WaysIn [k_i_Linked,k_i_Together,k_i_StoreOk,k_i_in,k_i_keyAt,k_i_hasInt,k_i_copyInts] Try.func18 (by kernel_rfl) (by kernel_rfl) (by kernel_rfl)
noncomputable def k_i_WayTo:=Kok.mk2 seat 45 ⟨[.v false 1,.v false 1],[(true,[.s,.s,.o true]),(false,[.s])]⟩ p_i_WayTo F_i_WayTo [k_i_copyWay] Try.func45 (by kernel_rfl) (by kernel_rfl) (by kernel_rfl)
noncomputable def k_i_RoutesWithin:=Kok.mk2 seat 26 ⟨[.v false 1,.v false 1,.v false 1],[(false,[.o true])]⟩ p_i_RoutesWithin F_i_RoutesWithin [k_i_WaysIn,k_i_Together,k_i_copyWay] Try.func26 (by kernel_rfl) (by kernel_rfl) (by kernel_rfl)
noncomputable def k_i_RoutesBeyond:=Kok.mk2 seat 30 ⟨[.v false 1,.v false 1,.v false 1,.v false 1],[(false,[.o true])]⟩ p_i_RoutesBeyond F_i_RoutesBeyond [k_i_WaysIn,k_i_RoutesWithin,k_i_WayTo,k_i_Together,k_i_hasInt,k_i_copyWay] Try.func30 (by kernel_rfl) (by kernel_rfl) (by kernel_rfl)
noncomputable def k_i_Beyond:=Kok.mk2 seat 59 ⟨[.v false 1,.v false 1,.v false 1,.v false 1],[(false,[.o true])]⟩ p_i_Beyond F_i_Beyond [k_i_WaysIn,k_i_RoutesWithin,k_i_RoutesBeyond,k_i_WayTo,k_i_keyAt,k_i_put] Try.func59 (by kernel_rfl) (by kernel_rfl) (by kernel_rfl)
noncomputable def k_i_Ideal:=Kok.mk2 seat 35 ⟨[.v true 3,.v false 1,.v false 1],[(false,[.o true]),(false,[.s])]⟩ p_i_Ideal F_i_Ideal [k_i_Beyond,k_i_NetOk,k_i_AreasOf,k_i_put,k_i_nearUp,k_i_Border] Try.func35 (by kernel_rfl) (by kernel_rfl) (by kernel_rfl)
noncomputable def k_eqNear:=Kok.mk2 seat 198 ⟨[.v true 2,.v true 2],[(false,[.s])]⟩ p_eqNear F_eqNear [] Try.func198 (by kernel_rfl) (by kernel_rfl) (by kernel_rfl)
noncomputable def k_eqNearS:=Kok.mk2 seat 167 ⟨[.v false 1,.v false 1],[(false,[.s])]⟩ p_eqNearS F_eqNearS [k_eqNear] Try.func167 (by kernel_rfl) (by kernel_rfl) (by kernel_rfl)
noncomputable def k_eqRecord:=Kok.mk2 seat 94 ⟨[.v true 8,.v true 8],[(false,[.s])]⟩ p_eqRecord F_eqRecord [k_eqNearS] Try.func94 (by kernel_rfl) (by kernel_rfl) (by kernel_rfl)
noncomputable def k_eqRecordS:=Kok.mk2 seat 20 ⟨[.v false 1,.v false 1],[(false,[.s])]⟩ p_eqRecordS F_eqRecordS [k_eqRecord] Try.func20 (by kernel_rfl) (by kernel_rfl) (by kernel_rfl)
noncomputable def k_eqLink:=Kok.mk2 seat 183 ⟨[.v true 4,.v true 4],[(false,[.s])]⟩ p_eqLink F_eqLink [] Try.func183 (by kernel_rfl) (by kernel_rfl) (by kernel_rfl)
noncomputable def k_eqLinkS:=Kok.mk2 seat 115 ⟨[.v false 1,.v false 1],[(false,[.s])]⟩ p_eqLinkS F_eqLinkS [k_eqLink] Try.func115 (by kernel_rfl) (by kernel_rfl) (by kernel_rfl)
noncomputable def k_eqThing:=Kok.mk2 seat 184 ⟨[.v true 4,.v true 4],[(false,[.s])]⟩ p_eqThing F_eqThing [] Try.func184 (by kernel_rfl) (by kernel_rfl) (by kernel_rfl)
noncomputable def k_eqThingS:=Kok.mk2 seat 116 ⟨[.v false 1,.v false 1],[(false,[.s])]⟩ p_eqThingS F_eqThingS [k_eqThing] Try.func116 (by kernel_rfl) (by kernel_rfl) (by kernel_rfl)
noncomputable def k_eqNet:=Kok.mk2 seat 36 ⟨[.v true 3,.v true 3],[(false,[.s])]⟩ p_eqNet F_eqNet [k_eqLinkS,k_eqThingS] Try.func36 (by kernel_rfl) (by kernel_rfl) (by kernel_rfl)
noncomputable def k_eqBoolS:=Kok.mk2 seat 37 ⟨[.v false 1,.v false 1],[(false,[.s])]⟩ p_eqBoolS F_eqBoolS [] Try.func37 (by kernel_rfl) (by kernel_rfl) (by kernel_rfl)
noncomputable def k_heldNearS:=Kok.mk2 seat 119 ⟨[.v false 1,.v false 1],[(false,[.s])]⟩ p_heldNearS F_heldNearS [] Try.func119 (by kernel_rfl) (by kernel_rfl) (by kernel_rfl)
noncomputable def k_heldRecordS:=Kok.mk2 seat 40 ⟨[.v false 1,.v false 1],[(false,[.s])]⟩ p_heldRecordS F_heldRecordS [k_heldNearS] Try.func40 (by kernel_rfl) (by kernel_rfl) (by kernel_rfl)
noncomputable def k_FnExactIdeal:=Kok.mk2 seat 6 ⟨[.v true 3,.v false 1,.v false 1],[(false,[.s])]⟩ p_FnExactIdeal F_FnExactIdeal [k_eqRecordS,k_szNet,k_s_Ideal,k_toNet,k_toBoolS,k_i_Ideal,k_eqNet,k_eqBoolS,k_heldRecordS] Try.func6 (by kernel_rfl) (by kernel_rfl) (by kernel_rfl)
end Go.Proofs.YtlofiplkmgmnfaaWI

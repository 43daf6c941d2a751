/- The walk: each function does as its plain program says (printed by a program). Conditions: none. -/
import Derived.Test.YtbhplkilhknciaaChecked
import Derived.Test.YtbhplkilhknciaaKe
import Derived.Test.YtbhplkilhknciaaXPB
namespace Go.Proofs.YtbhplkilhknciaaWB
open Go.Proofs.YtbhplkilhknciaaC
theorem fc{α:Type}{p:α->Prop}{a:α}{l:List α}(h:p a∧∀x∈l,p x):∀x∈a::l,p x:=List.forall_mem_cons.2 h
theorem f0{α:Type}{p:α->Prop}:∀x∈([]:List α),p x:=λ_ h=>nomatch h
def lty:List (Nat×TI):=[
 (3,⟨1,8,false,[.p (.k (.int .i64 0))],0,[],1⟩),
 (4,⟨1,1,false,[.p (.k (.bool false))],0,[],4⟩),
 (5,⟨1,1,false,[.p (.k (.int .u8 0))],0,[],1⟩),
 (22,⟨1,24,false,[.n],5,[],3⟩),
 (24,⟨1,24,false,[.n],49,[],3⟩),
 (27,⟨1,24,false,[.n],52,[],3⟩),
 (32,⟨1,24,false,[.n],55,[],3⟩),
 (34,⟨1,24,false,[.n],3,[],3⟩),
 (35,⟨1,24,false,[.n],63,[],3⟩),
 (49,⟨3,40,true,[.p (.k (.bool false)),.p (.k (.int .i64 0)),.n],0,[(0,1),(1,1),(2,1)],0⟩),
 (52,⟨4,48,true,[.p (.k (.bool false)),.p (.k (.bool false)),.p (.k (.int .i64 0)),.n],0,[(0,1),(1,3)],0⟩),
 (55,⟨6,64,true,[.p (.k (.bool false)),.p (.k (.int .i64 0)),.p (.k (.int .i64 0)),.p (.k (.int .i64 0)),.p (.k (.int .i64 0)),.n],0,[(0,1),(1,1),(2,1),(3,1),(4,1),(5,1)],0⟩),
 (61,⟨1,24,false,[.n],100,[],3⟩),
 (63,⟨8,80,true,[.p (.k (.int .i64 0)),.p (.k (.int .i64 0)),.p (.k (.int .i64 0)),.p (.k (.int .i64 0)),.p (.k (.int .i64 0)),.n,.p (.k (.int .i64 0)),.p (.k (.bool false))],0,[(0,1),(1,1),(2,1),(3,1),(4,1),(5,1),(6,1),(7,1)],0⟩),
 (87,⟨1,24,false,[.n],117,[],3⟩),
 (88,⟨1,24,false,[.n],121,[],3⟩),
 (90,⟨3,56,true,[.p (.k (.int .i64 0)),.n,.n],0,[(0,1),(1,1),(2,1)],0⟩),
 (92,⟨1,24,false,[.n],4,[],3⟩),
 (95,⟨3,40,true,[.n,.p (.k (.int .i64 0)),.p (.k (.int .i64 0))],0,[(0,1),(1,1),(2,1)],0⟩),
 (100,⟨2,16,true,[.p (.k (.int .i64 0)),.p (.k (.int .i64 0))],0,[(0,1),(1,1)],5⟩),
 (117,⟨4,32,true,[.p (.k (.int .i64 0)),.p (.k (.int .i64 0)),.p (.k (.int .i64 0)),.p (.k (.int .i64 0))],0,[(0,1),(1,1),(2,1),(3,1)],5⟩),
 (121,⟨4,32,true,[.p (.k (.int .i64 0)),.p (.k (.int .i64 0)),.p (.k (.int .i64 0)),.p (.k (.bool false))],0,[(0,1),(1,1),(2,1),(3,1)],5⟩),
 (136,⟨1,24,false,[.n],140,[],3⟩),
 (140,⟨3,40,true,[.p (.k (.int .i64 0)),.p (.k (.int .i64 0)),.n],0,[(0,1),(1,1),(2,1)],0⟩),
 (148,⟨1,24,false,[.n],136,[],3⟩),
 (159,⟨1,24,false,[.n],34,[],3⟩)]
def W8:List ((Nat×Nat×Nat)×Js):=[
 ((32,0,0),[(3,false,.aO false [.p]),(4,false,.aO false [.p])]),
 ((49,2,34),[(0,true,.aO true [.k,.p,.k]),(3,false,.aO false [.p])]),
 ((87,0,0),[(5,false,.aO false [.o true]),(6,false,.aO false [.p])]),
 ((87,0,2),[(5,false,.aO false [.o true]),(7,false,.aO false [.p])]),
 ((87,2,20),[(5,false,.aO false [.o true])]),
 ((87,2,43),[(5,false,.aO false [.o true])]),
 ((88,0,0),[(5,false,.aO false [.o true]),(6,false,.aO false [.p])]),
 ((88,0,2),[(5,false,.aO false [.o true]),(7,false,.aO false [.p])]),
 ((88,2,20),[(5,false,.aO false [.o true])]),
 ((88,2,43),[(5,false,.aO false [.o true])]),
 ((63,0,0),[(4,false,.aO false [.p]),(0,true,.aO true [.p,.p,.p]),(3,true,.aO true [.k,.o true,.k])]),
 ((63,0,2),[(8,false,.aO false [.p]),(0,true,.aO true [.p,.p,.p]),(3,true,.aO true [.k,.k,.o true])]),
 ((63,2,36),[(5,false,.aO false [.p]),(6,false,.aO false [.p])]),
 ((63,2,43),[(6,false,.aO false [.p])]),
 ((63,2,51),[(5,false,.aO false [.p]),(6,false,.aO false [.p])]),
 ((63,2,66),[(3,true,.aO true [.k,.o true,.k])]),
 ((108,0,0),[(2,false,.aO false [.p]),(3,false,.aO false [.p])]),
 ((108,0,2),[(2,false,.aO false [.p]),(4,false,.aO false [.p])]),
 ((129,0,0),[(8,false,.aO false [.p]),(9,false,.aO false [.p])]),
 ((115,0,0),[(7,false,.aO false [.o true]),(8,false,.aO false [.p])]),
 ((115,2,19),[(7,false,.aO false [.o true])]),
 ((92,0,0),[(5,false,.aO false [.o true]),(6,false,.aO false [.p])]),
 ((92,2,17),[(5,false,.aO false [.o true])]),
 ((109,0,0),[(10,false,.aO false [.p]),(11,false,.aO false [.p])]),
 ((110,0,0),[(5,false,.aO false [.o false]),(6,false,.aO false [.p])]),
 ((110,0,2),[(5,false,.aO false [.o false]),(7,false,.aO false [.p])]),
 ((110,2,20),[(5,false,.aO false [.o false])]),
 ((110,2,43),[(5,false,.aO false [.o false])]),
 ((119,0,0),[(2,false,.aO false [.p]),(3,false,.aO false [.p])]),
 ((101,0,0),[(2,false,.aO false [.p]),(3,false,.aO false [.p])]),
 ((116,0,0),[(4,false,.aO false [.p]),(5,false,.aO false [.p])]),
 ((135,0,0),[(8,false,.aO false [.p]),(11,false,.aO false [.p])]),
 ((131,0,0),[(6,false,.aO false [.p]),(10,false,.rows [(0,true)])]),
 ((131,0,2),[(9,false,.aO false [.p]),(10,false,.rows [(0,true)])]),
 ((131,2,48),[(10,false,.rows [(0,true)])]),
 ((134,0,0),[(4,false,.aO false [.p]),(5,false,.aO false [.p])]),
 ((128,0,0),[(5,false,.aO false [.o true]),(6,false,.aO false [.p])]),
 ((128,2,19),[(5,false,.aO false [.o true])]),
 ((123,0,0),[(14,false,.aO false [.p]),(47,false,.rows [(0,true)])]),
 ((123,0,2),[(15,false,.aO false [.p]),(48,false,.rows [(0,false)]),(49,false,.rows [(0,true)]),(47,false,.rows [(0,true)])]),
 ((123,0,4),[(16,false,.aO false [.p]),(17,false,.aO false [.p])]),
 ((123,0,6),[(18,false,.aO false [.p]),(48,false,.rows [(0,false)]),(47,false,.rows [(0,true)])]),
 ((123,0,8),[(7,false,.aO false [.o true]),(22,false,.aO false [.p])]),
 ((123,2,126),[(20,false,.aO false [.p])]),
 ((123,2,147),[(48,false,.rows [(0,false)]),(47,false,.rows [(0,true)])]),
 ((123,2,163),[(48,false,.rows [(0,false)])]),
 ((123,2,180),[(7,false,.aO false [.o true])]),
 ((123,2,94),[(16,false,.aO false [.p])]),
 ((124,0,0),[(5,false,.aO false [.p]),(6,false,.aO false [.p])]),
 ((112,0,0),[(8,false,.aO false [.o false]),(9,false,.aO false [.p])]),
 ((112,0,2),[(7,false,.aO false [.o false]),(10,false,.aO false [.p])]),
 ((112,0,4),[(12,false,.aO false [.p]),(13,false,.aO false [.p]),(11,true,.aO true [.p,.p,.p])]),
 ((112,2,56),[(14,true,.aO true [.p,.p,.p])]),
 ((112,2,61),[(7,false,.aO false [.o false])]),
 ((126,0,0),[(6,false,.aO false [.p]),(16,false,.aO false [.p]),(12,true,.aO true [.p,.p,.p])]),
 ((126,2,81),[(18,true,.aO true [.p,.p,.p])]),
 ((113,0,0),[(11,false,.aO false [.o false]),(12,false,.aO false [.p])]),
 ((113,0,2),[(9,false,.aO false [.o false]),(13,false,.aO false [.p])]),
 ((113,0,4),[(17,false,.aO false [.p]),(18,false,.aO false [.p]),(16,true,.aO true [.p,.p,.p])]),
 ((113,2,88),[(9,false,.aO false [.o false])]),
 ((121,0,0),[(10,false,.aO false [.o true]),(11,false,.aO false [.p])]),
 ((121,0,2),[(9,false,.aO false [.o true]),(15,false,.aO false [.p])]),
 ((121,2,37),[(10,false,.aO false [.o true])]),
 ((121,2,84),[(18,true,.aO true [.p,.p,.p]),(19,false,.aO false [.p])]),
 ((121,2,91),[(9,false,.aO false [.o true])]),
 ((122,0,0),[(5,false,.aO false [.p]),(6,false,.aO false [.p])]),
 ((122,2,21),[(7,true,.aO true [.k,.k,.k,.k,.p,.k,.k,.k])]),
 ((111,0,0),[(7,false,.aO false [.o false]),(8,false,.aO false [.p])]),
 ((111,0,2),[(9,false,.aO false [.o false]),(10,false,.aO false [.p])]),
 ((111,2,49),[(9,false,.aO false [.o false])]),
 ((104,0,0),[(3,false,.aO false [.o true]),(4,false,.aO false [.p])]),
 ((89,0,0),[(8,false,.aO false [.p]),(9,false,.aO false [.p])]),
 ((89,0,10),[(8,false,.aO false [.p]),(18,false,.aO false [.p])]),
 ((89,0,2),[(8,false,.aO false [.p]),(11,false,.aO false [.p])]),
 ((89,0,4),[(13,false,.aO false [.p]),(12,true,.aO true [.k,.k,.k,.k,.k,.o true,.k,.k])]),
 ((89,0,6),[(8,false,.aO false [.p]),(15,false,.aO false [.p])]),
 ((89,0,8),[(8,false,.aO false [.p]),(17,false,.aO false [.p])]),
 ((89,2,119),[(8,false,.aO false [.p])]),
 ((89,2,150),[(8,false,.aO false [.p])]),
 ((89,2,90),[(12,true,.aO true [.k,.k,.k,.k,.k,.o true,.k,.k])]),
 ((114,0,0),[(15,false,.aO false [.p]),(16,false,.aO false [.p]),(14,true,.aO true [.k,.k,.p,.p,.p,.p])]),
 ((114,2,106),[(14,true,.aO true [.k,.k,.k,.k,.k,.p])]),
 ((114,2,70),[(14,true,.aO true [.k,.k,.p,.k,.k,.k]),(20,false,.aO false [.p]),(21,false,.aO false [.p])]),
 ((114,2,76),[(14,true,.aO true [.k,.k,.k,.p,.p,.p])]),
 ((91,0,0),[(9,false,.aO false [.o false]),(12,false,.aO false [.p])]),
 ((91,0,2),[(9,false,.aO false [.o false]),(13,false,.aO false [.p])]),
 ((91,0,4),[(9,false,.aO false [.o false]),(14,false,.aO false [.p])]),
 ((91,2,109),[(15,true,.aO true [.p,.p,.p,.p,.p,.p]),(16,false,.aO false [.p])]),
 ((91,2,119),[(9,false,.aO false [.o false]),(15,true,.aO true [.k,.k,.k,.k,.k,.d])]),
 ((91,2,43),[(9,false,.aO false [.o false])]),
 ((91,2,75),[(9,false,.aO false [.o false])]),
 ((31,0,0),[(6,false,.aO false [.p]),(0,true,.aO true [.p,.p,.p]),(14,false,.rows [(0,true)])]),
 ((31,0,2),[(7,false,.aO false [.p]),(17,false,.rows [(0,true)])]),
 ((31,2,54),[(8,false,.aO false [.o false]),(47,false,.aO false [.d]),(48,false,.aO false [.d])]),
 ((29,0,0),[(4,false,.aO false [.p]),(5,false,.aO false [.p])]),
 ((13,0,0),[(3,false,.aO false [.o true]),(4,false,.aO false [.p])]),
 ((13,2,32),[(3,false,.aO false [.o true]),(29,false,.aO false [.d])]),
 ((61,0,0),[(5,false,.aO false [.o true]),(6,false,.aO false [.p])]),
 ((61,0,2),[(5,false,.aO false [.o true]),(7,false,.aO false [.p])]),
 ((61,2,39),[(5,false,.aO false [.o true]),(35,false,.aO false [.d])]),
 ((61,2,56),[(5,false,.rows []),(5,false,.aO false [.o true]),(35,false,.aO false [.d])]),
 ((61,2,70),[(5,false,.aO false [.o true]),(35,false,.aO false [.d])]),
 ((61,5,12),[(5,false,.rows [(0,true)])]),
 ((24,2,16),[(6,false,.aO false [.o false])]),
 ((24,2,22),[(6,false,.rows [(0,false)])]),
 ((25,0,0),[(4,false,.aO false [.p]),(9,false,.aO false [.p])]),
 ((26,0,0),[(4,false,.aO false [.p]),(13,false,.aO false [.p])]),
 ((7,0,0),[(5,false,.aO false [.o true]),(13,false,.aO false [.p])]),
 ((7,0,2),[(5,false,.aO false [.o true]),(33,false,.aO false [.p])]),
 ((7,2,20),[(5,false,.aO false [.o true])]),
 ((7,2,52),[(5,false,.aO false [.o true])]),
 ((8,0,0),[(5,false,.aO false [.o true]),(16,false,.aO false [.p])]),
 ((8,0,2),[(5,false,.aO false [.o false]),(28,false,.aO false [.p])]),
 ((8,0,5),[(11,false,.aO false [.o false]),(47,false,.aO false [.p])]),
 ((8,2,42),[(5,false,.aO false [.o false]),(32,false,.aO false [.d])]),
 ((8,2,64),[(11,false,.aO false [.o false])]),
 ((8,2,71),[(5,false,.rows []),(5,false,.aO false [.o false]),(32,false,.aO false [.d])]),
 ((28,0,0),[(4,false,.aO false [.p]),(14,false,.aO false [.p])]),
 ((28,0,2),[(7,false,.aO false [.p]),(20,false,.aO false [.p])]),
 ((28,0,4),[(7,false,.aO false [.p]),(48,false,.aO false [.p])]),
 ((28,2,42),[(7,false,.aO false [.p])]),
 ((28,2,70),[(7,false,.aO false [.p])]),
 ((30,0,0),[(4,false,.aO false [.p]),(5,false,.aO false [.p])]),
 ((10,0,0),[(4,false,.aO false [.p]),(5,false,.aO false [.p])]),
 ((11,0,0),[(3,false,.aO false [.o true]),(9,false,.aO false [.p])]),
 ((11,2,23),[(3,false,.aO false [.o true]),(20,false,.aO false [.d])]),
 ((14,0,0),[(5,false,.aO false [.o true]),(6,false,.aO false [.p])]),
 ((14,0,2),[(5,false,.aO false [.o true]),(7,false,.aO false [.p])]),
 ((14,2,22),[(5,false,.aO false [.o true])]),
 ((14,2,65),[(5,false,.aO false [.o true])])]
def lfz:List (Nat×Nat×Nat):=[]
def W9:List Nat:=[24,3]
noncomputable def lfn:List (Nat×Func):=[(32,Try.f32)]
noncomputable def cx:Cx:={ty:=wb lty,sg:=λ_=>none,fn:=zb lfn,n7:=Kl W8,fz:=Km lfz,nest:=Ko W9}
theorem W_:lG Try.prog 32:=.mk Try.func32 (by kernel_rfl) (by kernel_rfl)
theorem bS:Dc Try.prog cx:=⟨S' (l:=lty) (by kernel_rfl) rfl,Ta (l:=lfn) (fc ⟨⟨Try.func32,W_⟩,f0⟩) rfl,by kernel_rfl⟩
noncomputable def Xa:=dG.cg bS 5 ⟨[.v false 1],[(false,[.s])]⟩ wu tT [] Try.func5 (by kernel_rfl) (by kernel_rfl) (by kernel_rfl)
noncomputable def Xb:=dG.cg bS 49 ⟨[.x 3],[(false,[.s])]⟩ jA Fw [] Try.func49 (by kernel_rfl) (by kernel_rfl) (by kernel_rfl)
noncomputable def Oc:=dG.cg bS 50 ⟨[.x 3,.v false 1],[(false,[.s])]⟩ ie qQ [Xb] Try.func50 (by kernel_rfl) (by kernel_rfl) (by kernel_rfl)
noncomputable def Xc:=dG.cg bS 81 ⟨[.x 3,.v false 1],[(false,[.s])]⟩ gj Fx [Oc] Try.func81 (by kernel_rfl) (by kernel_rfl) (by kernel_rfl)
noncomputable def Lm:=dG.cg bS 106 ⟨[.v true 4,.v true 4],[(false,[.s])]⟩ ig zj [] Try.func106 (by kernel_rfl) (by kernel_rfl) (by kernel_rfl)
noncomputable def Xd:=dG.cg bS 87 ⟨[.v false 1,.v true 4],[(false,[.o true])]⟩ kE Fy [Lm] Try.func87 (by kernel_rfl) (by kernel_rfl) (by kernel_rfl)
noncomputable def Xe:=dG.cg bS 60 ⟨[.x 3,.v false 1],[(false,[.s])]⟩ jB tU [Oc] Try.func60 (by kernel_rfl) (by kernel_rfl) (by kernel_rfl)
noncomputable def Ln:=dG.cg bS 107 ⟨[.v true 4,.v true 4],[(false,[.s])]⟩ ij zk [] Try.func107 (by kernel_rfl) (by kernel_rfl) (by kernel_rfl)
noncomputable def Xf:=dG.cg bS 88 ⟨[.v false 1,.v true 4],[(false,[.o true])]⟩ fK Fz [Ln] Try.func88 (by kernel_rfl) (by kernel_rfl) (by kernel_rfl)
noncomputable def Xg:=dG.cg bS 63 ⟨[.x 3],[(true,[.s,.o false,.o false])]⟩ kF FA [Oc,Xe,Xc,Xd,Xf] Try.func63 (by kernel_rfl) (by kernel_rfl) (by kernel_rfl)
noncomputable def Dn:=dG.cg bS 90 ⟨[.v false 1,.v false 1,.v false 1],[(false,[.s])]⟩ mh np [] Try.func90 (by kernel_rfl) (by kernel_rfl) (by kernel_rfl)
noncomputable def Xh:=dG.cg bS 120 ⟨[.v false 1,.v true 4],[(false,[.s])]⟩ kG FB [Dn] Try.func120 (by kernel_rfl) (by kernel_rfl) (by kernel_rfl)
noncomputable def Xi:=dG.cg bS 108 ⟨[.v true 3],[(false,[.s])]⟩ mi FC [Dn,Lm,Ln,Xh] Try.func108 (by kernel_rfl) (by kernel_rfl) (by kernel_rfl)
noncomputable def Xj:=dG.cg bS 129 ⟨[.v true 3,.v false 1,.v false 1,.v false 1],[(false,[.s])]⟩ kH FD [] Try.func129 (by kernel_rfl) (by kernel_rfl) (by kernel_rfl)
noncomputable def Xk:=dG.cg bS 115 ⟨[.v true 3,.v false 1,.v false 1],[(false,[.p])]⟩ kJ FE [Xj] Try.func115 (by kernel_rfl) (by kernel_rfl) (by kernel_rfl)
noncomputable def Xl:=dG.cg bS 92 ⟨[.v true 3,.v false 1],[(false,[.p])]⟩ jC uy [Xk] Try.func92 (by kernel_rfl) (by kernel_rfl) (by kernel_rfl)
noncomputable def Xm:=dG.cg bS 109 ⟨[.v true 3,.v false 1,.v false 1,.v false 1,.v false 1],[(false,[.s])]⟩ jD FF [] Try.func109 (by kernel_rfl) (by kernel_rfl) (by kernel_rfl)
noncomputable def Lp:=dG.cg bS 117 ⟨[.v true 8,.v true 8],[(false,[.s])]⟩ kK zl [] Try.func117 (by kernel_rfl) (by kernel_rfl) (by kernel_rfl)
noncomputable def Lq:=dG.cg bS 110 ⟨[.v false 1,.v true 8],[(false,[.p])]⟩ kL zm [Lp] Try.func110 (by kernel_rfl) (by kernel_rfl) (by kernel_rfl)
noncomputable def Lr:=dG.cg bS 93 ⟨[.v true 3,.v false 1],[(false,[.s])]⟩ kM zn [Xl] Try.func93 (by kernel_rfl) (by kernel_rfl) (by kernel_rfl)
noncomputable def Xn:=dG.cg bS 119 ⟨[.v true 8],[(false,[.s])]⟩ jE FG [Dn] Try.func119 (by kernel_rfl) (by kernel_rfl) (by kernel_rfl)
noncomputable def Xo:=dG.cg bS 103 ⟨[.v true 8],[(false,[.s])]⟩ il FH [Dn,Xn] Try.func103 (by kernel_rfl) (by kernel_rfl) (by kernel_rfl)
noncomputable def Od:=dG.cg bS 101 ⟨[.v false 1],[(false,[.s])]⟩ jF rG [Xo,Lp] Try.func101 (by kernel_rfl) (by kernel_rfl) (by kernel_rfl)
noncomputable def Xp:=dG.cg bS 118 ⟨[.v true 8,.v true 8],[(false,[.s])]⟩ jG FI [] Try.func118 (by kernel_rfl) (by kernel_rfl) (by kernel_rfl)
noncomputable def Xq:=dG.cg bS 116 ⟨[.v false 1,.v true 8],[(false,[.s])]⟩ mj FJ [Xp] Try.func116 (by kernel_rfl) (by kernel_rfl) (by kernel_rfl)
noncomputable def Xr:=dG.cg bS 130 ⟨[.v false 1,.v false 1,.v false 1],[(true,[.s,.s,.s,.s,.s,.p,.s,.s]),(false,[.s])]⟩ jH tV [Xq] Try.func130 (by kernel_rfl) (by kernel_rfl) (by kernel_rfl)
noncomputable def Xs:=dG.cg bS 135 ⟨[.v false 1,.v false 1,.v false 1,.v false 1],[(false,[.s])]⟩ im FK [Xr] Try.func135 (by kernel_rfl) (by kernel_rfl) (by kernel_rfl)
noncomputable def Xt:=dG.cg bS 131 ⟨[.v false 1,.v false 1],[(false,[.p])]⟩ iq FL [Dn,Xr,Xs] Try.func131 (by kernel_rfl) (by kernel_rfl) (by kernel_rfl)
noncomputable def Xu:=dG.cg bS 134 ⟨[.v false 1,.v false 1],[(false,[.s])]⟩ ml FM [] Try.func134 (by kernel_rfl) (by kernel_rfl) (by kernel_rfl)
noncomputable def Dp:=dG.cg bS 128 ⟨[.v false 1,.v false 1],[(false,[.o true])]⟩ kN n5 [Xu] Try.func128 (by kernel_rfl) (by kernel_rfl) (by kernel_rfl)
noncomputable def Dq:=dG.cg bS 123 ⟨[.v false 1,.v false 1,.v false 1],[(false,[.p])]⟩ kO uz [Dn,Od,Dp,Xr,Xt] Try.func123 (by kernel_rfl) (by kernel_rfl) (by kernel_rfl)
noncomputable def Ls:=dG.cg bS 132 ⟨[.v true 3],[(true,[.s,.s,.p])]⟩ jI zo [] Try.func132 (by kernel_rfl) (by kernel_rfl) (by kernel_rfl)
noncomputable def Lt:=dG.cg bS 124 ⟨[.v false 1,.v false 1],[(true,[.s,.s,.p]),(false,[.s])]⟩ mm pg [Ls] Try.func124 (by kernel_rfl) (by kernel_rfl) (by kernel_rfl)
noncomputable def Xv:=dG.cg bS 133 ⟨[.v true 3,.v true 3],[(false,[.s])]⟩ kQ FN [] Try.func133 (by kernel_rfl) (by kernel_rfl) (by kernel_rfl)
noncomputable def Lu:=dG.cg bS 125 ⟨[.v true 3,.v true 3],[(true,[.s,.s,.p])]⟩ iu zp [Dp,Ls,Xv] Try.func125 (by kernel_rfl) (by kernel_rfl) (by kernel_rfl)
noncomputable def Xw:=dG.cg bS 112 ⟨[.v false 1,.v false 1,.v false 1],[(false,[.p])]⟩ ft uA [Dq,Lt,Lu] Try.func112 (by kernel_rfl) (by kernel_rfl) (by kernel_rfl)
noncomputable def Xx:=dG.cg bS 126 ⟨[.v false 1,.v false 1,.v false 1,.v false 1,.v false 1,.v true 3,.v false 1],[(true,[.s,.s,.p]),(false,[.s])]⟩ gO FO [Lt,Lu] Try.func126 (by kernel_rfl) (by kernel_rfl) (by kernel_rfl)
noncomputable def j3_:=dG.cg bS 113 ⟨[.v false 1,.v false 1,.v false 1,.v false 1],[(false,[.p])]⟩ fu zq [Od,Xw,Dq,Lt,Xx] Try.func113 (by kernel_rfl) (by kernel_rfl) (by kernel_rfl)
noncomputable def Xy:=dG.cg bS 121 ⟨[.v false 1,.v false 1,.v false 1,.v false 1],[(false,[.p])]⟩ kR FP [Od,Xw,j3_,Dq,Lt] Try.func121 (by kernel_rfl) (by kernel_rfl) (by kernel_rfl)
noncomputable def Xz:=dG.cg bS 122 ⟨[.v false 1,.v false 1],[(false,[.p])]⟩ jJ FQ [Lq] Try.func122 (by kernel_rfl) (by kernel_rfl) (by kernel_rfl)
noncomputable def XA:=dG.cg bS 111 ⟨[.v false 1,.v false 1,.v false 1],[(false,[.p])]⟩ gP FR [Xy,Xz] Try.func111 (by kernel_rfl) (by kernel_rfl) (by kernel_rfl)
noncomputable def XB:=dG.cg bS 96 ⟨[.v true 8],[(true,[.s,.s,.s,.s,.s,.o true,.s,.s])]⟩ jK FT [] Try.func96 (by kernel_rfl) (by kernel_rfl) (by kernel_rfl)
noncomputable def XC:=dG.cg bS 104 ⟨[.v false 1],[(false,[.o true])]⟩ fM FU [XB] Try.func104 (by kernel_rfl) (by kernel_rfl) (by kernel_rfl)
noncomputable def XD:=dG.cg bS 89 ⟨[.v true 3,.v false 1,.v false 1],[(false,[.p]),(false,[.s])]⟩ mo FV [Xl,Lr,XC,Xi,Xm,Lq,XA] Try.func89 (by kernel_rfl) (by kernel_rfl) (by kernel_rfl)
noncomputable def XE:=dG.cg bS 127 ⟨[.v false 1,.v false 1,.v false 1,.v false 1],[(true,[.s,.s,.p]),(false,[.s])]⟩ iv FW [Lt] Try.func127 (by kernel_rfl) (by kernel_rfl) (by kernel_rfl)
noncomputable def XF:=dG.cg bS 114 ⟨[.v false 1,.v false 1,.v false 1,.v false 1,.v false 1,.v false 1],[(true,[.s,.s,.s,.s,.s,.p]),(false,[.s])]⟩ iw Dl [XE,Dp] Try.func114 (by kernel_rfl) (by kernel_rfl) (by kernel_rfl)
noncomputable def XG:=dG.cg bS 91 ⟨[.v false 1,.v false 1,.v false 1,.v false 1],[(false,[.o false])]⟩ iy FX [Od,Xw,j3_,XF] Try.func91 (by kernel_rfl) (by kernel_rfl) (by kernel_rfl)
noncomputable def XH:=dG.cg bS 64 ⟨[.v true 3,.v false 1,.v false 1,.v false 1],[(false,[.o false])]⟩ gk Dm [XD,Dn,XG,Xl,Lr] Try.func64 (by kernel_rfl) (by kernel_rfl) (by kernel_rfl)
noncomputable def Lv:=dG.cg bS 31 ⟨[.x 3],[(false,[.o false])]⟩ gQ zr [Oc,Xe,Xg,XH] Try.func31 (by kernel_rfl) (by kernel_rfl) (by kernel_rfl)
noncomputable def Oe:=dG.cg bS 29 ⟨[.v false 1,.v true 3],[(false,[.s])]⟩ mq rH [] Try.func29 (by kernel_rfl) (by kernel_rfl) (by kernel_rfl)
noncomputable def XI:=dG.cg bS 33 ⟨[.v true 3],[(true,[.s,.s,.o true])]⟩ jL uB [] Try.func33 (by kernel_rfl) (by kernel_rfl) (by kernel_rfl)
noncomputable def Lw:=dG.cg bS 13 ⟨[.v false 1],[(false,[.o true])]⟩ jM zt [Oe,XI] Try.func13 (by kernel_rfl) (by kernel_rfl) (by kernel_rfl)
noncomputable def XJ:=dG.cg bS 61 ⟨[.v false 1,.v false 1],[(false,[.o true])]⟩ mr FY [Oe,XI] Try.func61 (by kernel_rfl) (by kernel_rfl) (by kernel_rfl)
noncomputable def XK:=dG.cg bS 24 ⟨[.v false 1],[(false,[.o false]),(false,[.o false])]⟩ kU FZ [Lw,Lv,Xe,XJ] Try.func24 (by kernel_rfl) (by kernel_rfl) (by kernel_rfl)
noncomputable def XL:=dG.cg bS 6 ⟨[.v false 1],[(false,[.o false]),(false,[.o false])]⟩ gm F0 [XK] Try.func6 (by kernel_rfl) (by kernel_rfl) (by kernel_rfl)
noncomputable def Dr:=dG.cg bS 25 ⟨[.v false 1,.v true 3],[(false,[.s])]⟩ kV uC [] Try.func25 (by kernel_rfl) (by kernel_rfl) (by kernel_rfl)
noncomputable def Lx:=dG.cg bS 26 ⟨[.v false 1,.v false 1],[(false,[.s])]⟩ iz xi [] Try.func26 (by kernel_rfl) (by kernel_rfl) (by kernel_rfl)
noncomputable def XM:=dG.cg bS 62 ⟨[.v false 1],[(false,[.o true])]⟩ iA F1 [] Try.func62 (by kernel_rfl) (by kernel_rfl) (by kernel_rfl)
noncomputable def XN:=dG.cg bS 27 ⟨[.v true 3],[(true,[.s,.s,.o true])]⟩ iB uD [XM] Try.func27 (by kernel_rfl) (by kernel_rfl) (by kernel_rfl)
noncomputable def XO:=dG.cg bS 7 ⟨[.v false 1,.v false 1],[(false,[.o true])]⟩ kW F2 [Dr,Lx,XN] Try.func7 (by kernel_rfl) (by kernel_rfl) (by kernel_rfl)
noncomputable def XP:=dG.cg bS 8 ⟨[.v false 1,.v false 1],[(false,[.o false])]⟩ mu F3 [Dr,XN] Try.func8 (by kernel_rfl) (by kernel_rfl) (by kernel_rfl)
noncomputable def XQ:=dG.cg bS 28 ⟨[.v false 1,.v false 1],[(false,[.s])]⟩ kX F4 [Lx] Try.func28 (by kernel_rfl) (by kernel_rfl) (by kernel_rfl)
noncomputable def XR:=dG.cg bS 9 ⟨[.v false 1,.v false 1],[(false,[.s])]⟩ gR F5 [XQ] Try.func9 (by kernel_rfl) (by kernel_rfl) (by kernel_rfl)
noncomputable def ka_:=dG.cg bS 30 ⟨[.v false 1,.v false 1],[(false,[.s])]⟩ fN zu [] Try.func30 (by kernel_rfl) (by kernel_rfl) (by kernel_rfl)
noncomputable def XS:=dG.cg bS 10 ⟨[.v false 1,.v false 1],[(false,[.s])]⟩ gS F6 [Oe,ka_] Try.func10 (by kernel_rfl) (by kernel_rfl) (by kernel_rfl)
noncomputable def XU:=dG.cg bS 12 ⟨[.v false 1],[(false,[.o false])]⟩ fO F7 [Lv] Try.func12 (by kernel_rfl) (by kernel_rfl) (by kernel_rfl)
noncomputable def XV:=dG.cg bS 11 ⟨[.v false 1],[(false,[.o true])]⟩ jN F8 [Dr,XN] Try.func11 (by kernel_rfl) (by kernel_rfl) (by kernel_rfl)
noncomputable def XW:=dG.cg bS 14 ⟨[.v false 1,.v false 1],[(false,[.o true])]⟩ kY F9 [Oe,ka_,XI] Try.func14 (by kernel_rfl) (by kernel_rfl) (by kernel_rfl)
noncomputable def nN:=dG.cg bS 3 ⟨[.v false 1],[(false,[.s])]⟩ kZ Ob [Xa,XL,XO,XP,XR,XS,XV,XU,Lw,XW] Try.func3 (by kernel_rfl) (by kernel_rfl) (by kernel_rfl)
end Go.Proofs.YtbhplkilhknciaaWB

/- The walk: each function does as its plain program says (printed by a program). Conditions: none. -/
import Derived.Test.YtbhplkilhknciaaChecked
import Derived.Test.YtbhplkilhknciaaKe
import Derived.Test.YtbhplkilhknciaaXPD
namespace Go.Proofs.YtbhplkilhknciaaWD
open Go.Proofs.YtbhplkilhknciaaC
theorem fc{α:Type}{p:α->Prop}{a:α}{l:List α}(h:p a∧∀x∈l,p x):∀x∈a::l,p x:=List.forall_mem_cons.2 h
theorem f0{α:Type}{p:α->Prop}:∀x∈([]:List α),p x:=λ_ h=>nomatch h
def lty:List (Nat×TI):=[
 (3,⟨1,8,false,[.p (.k (.int .i64 0))],0,[],1⟩),
 (4,⟨1,1,false,[.p (.k (.bool false))],0,[],4⟩),
 (5,⟨1,1,false,[.p (.k (.int .u8 0))],0,[],1⟩),
 (9,⟨1,16,false,[.p (.k (.string ByteArray.empty))],0,[],2⟩),
 (22,⟨1,24,false,[.n],5,[],3⟩),
 (34,⟨1,24,false,[.n],3,[],3⟩),
 (35,⟨1,24,false,[.n],63,[],3⟩),
 (37,⟨6,80,true,[.p (.k (.int .i64 0)),.p (.k (.int .i64 0)),.p (.k (.int .i64 0)),.p (.k (.int .i64 0)),.n,.n],0,[(0,1),(1,1),(2,1),(3,1),(4,1),(5,1)],0⟩),
 (61,⟨1,24,false,[.n],100,[],3⟩),
 (63,⟨8,80,true,[.p (.k (.int .i64 0)),.p (.k (.int .i64 0)),.p (.k (.int .i64 0)),.p (.k (.int .i64 0)),.p (.k (.int .i64 0)),.n,.p (.k (.int .i64 0)),.p (.k (.bool false))],0,[(0,1),(1,1),(2,1),(3,1),(4,1),(5,1),(6,1),(7,1)],0⟩),
 (68,⟨3,32,true,[.p (.k (.string ByteArray.empty)),.p (.k (.int .i64 0)),.p (.k (.bool false))],0,[(0,1),(1,1),(2,1)],5⟩),
 (82,⟨3,32,true,[.p (.k (.string ByteArray.empty)),.p (.k (.int .i64 0)),.p (.k (.bool false))],0,[(0,1),(1,1),(2,1)],5⟩),
 (95,⟨3,40,true,[.n,.p (.k (.int .i64 0)),.p (.k (.int .i64 0))],0,[(0,1),(1,1),(2,1)],0⟩),
 (100,⟨2,16,true,[.p (.k (.int .i64 0)),.p (.k (.int .i64 0))],0,[(0,1),(1,1)],5⟩),
 (101,⟨1,4,false,[.p (.k (.int .u32 0))],0,[],1⟩)]
def YS:List ((Nat×Nat×Nat)×Js):=[
 ((32,0,0),[(3,false,.aY false [.p]),(4,false,.aY false [.p])]),
 ((49,2,34),[(0,true,.aY true [.k,.p,.k]),(3,false,.aY false [.p])]),
 ((95,0,1),[(4,false,.aY false [.p]),(0,true,.aY true [.p,.p,.p]),(3,true,.aY true [.k,.k,.k,.k,.k,.o true,.k,.k])]),
 ((95,2,19),[(0,true,.aY true [.p,.p,.p]),(3,true,.aY true [.p,.k,.k,.p,.k,.o true,.p,.p])]),
 ((95,2,32),[(0,true,.aY true [.p,.p,.p]),(3,true,.aY true [.k,.k,.k,.k,.k,.o true,.k,.k])]),
 ((95,2,43),[(0,true,.aY true [.p,.p,.p]),(3,true,.aY true [.p,.k,.k,.p,.k,.k,.p,.p])]),
 ((95,2,53),[(0,true,.aY true [.p,.p,.p]),(3,true,.aY true [.p,.k,.k,.p,.k,.k,.p,.p])]),
 ((116,0,0),[(4,false,.aY false [.p]),(5,false,.aY false [.p])]),
 ((119,0,0),[(2,false,.aY false [.p]),(3,false,.aY false [.p])]),
 ((110,0,0),[(5,false,.aY false [.o false]),(6,false,.aY false [.p])]),
 ((110,0,2),[(5,false,.aY false [.o false]),(7,false,.aY false [.p])]),
 ((110,2,20),[(5,false,.aY false [.o false])]),
 ((110,2,43),[(5,false,.aY false [.o false])]),
 ((65,0,0),[(3,false,.aY false [.p]),(4,false,.aY false [.p]),(0,true,.aY true [.p,.p,.p])]),
 ((66,0,0),[(5,false,.aY false [.o true]),(6,false,.aY false [.p])]),
 ((66,2,28),[(5,false,.aY false [.o true])]),
 ((97,2,8),[(1,true,.aY true [.k,.k,.k,.k,.k,.k,.p,.k])]),
 ((67,0,0),[(6,false,.aY false [.p]),(9,false,.rows [(0,false)])]),
 ((34,0,0),[(4,false,.aY false [.p]),(0,true,.aY true [.p,.p,.p]),(3,true,.aY true [.k,.k,.k,.k,.o true,.k])]),
 ((34,2,28),[(3,true,.aY true [.k,.k,.k,.k,.o true,.k])]),
 ((34,2,45),[(3,true,.aY true [.k,.k,.k,.k,.k,.p])]),
 ((45,0,0),[(2,false,.aY false [.p]),(7,false,.aY false [.p])]),
 ((98,0,0),[(2,false,.aY false [.p]),(8,false,.aY false [.p])]),
 ((46,0,0),[(2,false,.aY false [.p]),(7,false,.aY false [.p])]),
 ((73,2,17),[(3,true,.aY true [.k,.k,.k,.k,.k,.k,.p,.k])]),
 ((74,0,0),[(4,false,.aY false [.p]),(36,false,.aY false [.p])]),
 ((47,0,0),[(2,false,.aY false [.p]),(8,false,.aY false [.p])]),
 ((18,0,0),[(2,false,.aY false [.p]),(49,false,.aY false [.p])]),
 ((35,0,0),[(0,false,.aY false [.p]),(4,false,.aY false [.o true])]),
 ((36,0,0),[(8,false,.aY false [.p]),(53,false,.aY false [.p])]),
 ((36,2,80),[(15,false,.aY false [.p])]),
 ((99,0,0),[(0,false,.aY false [.p]),(9,false,.aY false [.p])]),
 ((99,0,2),[(0,false,.aY false [.p]),(18,false,.aY false [.p])]),
 ((99,2,25),[(0,false,.aY false [.p])]),
 ((16,0,0),[(6,false,.aY false [.p]),(48,false,.aY false [.p])]),
 ((16,0,2),[(2,false,.aY false [.p]),(3,false,.aY false [.p]),(6,false,.aY false [.p]),(72,false,.aY false [.p])]),
 ((70,0,0),[(4,false,.aY false [.p]),(5,false,.aY false [.p]),(6,false,.aY false [.p]),(7,false,.aY false [.p]),(8,false,.aY false [.p]),(9,false,.aY false [.p])]),
 ((42,0,0),[(6,false,.aY false [.p]),(11,true,.aY true [.p,.p,.p]),(5,true,.aY true [.k,.k,.k,.k,.k,.o true,.k,.k])]),
 ((42,1,16),[(80,false,.aY false [.p])]),
 ((42,1,9),[(37,false,.aY false [.p])]),
 ((17,0,0),[(8,false,.aY false [.p]),(22,true,.aY true [.p,.p,.p]),(7,true,.aY true [.k,.k,.k,.k,.o true,.k])]),
 ((17,0,2),[(9,false,.aY false [.p]),(22,true,.aY true [.p,.p,.p]),(7,true,.aY true [.k,.k,.k,.k,.k,.o true])]),
 ((17,1,11),[(45,false,.aY false [.p])]),
 ((17,1,15),[(65,false,.aY false [.p])]),
 ((17,1,20),[(108,false,.aY false [.p])]),
 ((19,0,0),[(4,false,.aY false [.p]),(5,false,.aY false [.p])]),
 ((48,0,0),[(4,false,.aY false [.p]),(5,false,.aY false [.p])]),
 ((20,0,0),[(4,false,.aY false [.p]),(5,false,.aY false [.p])]),
 ((21,0,0),[(4,false,.aY false [.o true]),(5,false,.aY false [.p]),(7,true,.aY true [.p,.p,.p])]),
 ((104,0,0),[(3,false,.aY false [.o true]),(4,false,.aY false [.p])]),
 ((82,2,14),[(0,true,.aY true [.p,.p,.p]),(3,true,.aY true [.k,.p,.p,.p,.p,.o false,.p,.p]),(5,false,.aY true [.k,.k,.k,.k,.k,.d,.k,.k])]),
 ((82,2,20),[(0,true,.aY true [.p,.p,.p]),(3,true,.aY true [.k,.k,.p,.p,.p,.o false,.p,.p]),(5,false,.aY true [.k,.k,.k,.k,.k,.d,.k,.k])]),
 ((82,2,26),[(0,true,.aY true [.p,.p,.p]),(3,true,.aY true [.k,.k,.k,.p,.p,.o false,.p,.p]),(5,false,.aY true [.k,.k,.k,.k,.k,.d,.k,.k])]),
 ((82,2,32),[(0,true,.aY true [.p,.p,.p]),(3,true,.aY true [.k,.k,.k,.k,.p,.o false,.p,.p]),(5,false,.aY true [.k,.k,.k,.k,.k,.d,.k,.k])]),
 ((82,2,38),[(0,true,.aY true [.p,.p,.p]),(3,true,.aY true [.k,.k,.k,.k,.k,.o false,.p,.p]),(5,false,.aY true [.k,.k,.k,.k,.k,.d,.k,.k])]),
 ((82,2,51),[(0,true,.aY true [.p,.p,.p]),(3,true,.aY true [.k,.k,.k,.k,.k,.k,.p,.p])]),
 ((82,2,57),[(3,true,.aY true [.k,.k,.k,.k,.k,.k,.k,.p])]),
 ((82,2,8),[(0,true,.aY true [.p,.p,.p]),(3,true,.aY true [.p,.p,.p,.p,.p,.o false,.p,.p]),(5,false,.aY true [.k,.k,.k,.k,.k,.d,.k,.k])]),
 ((52,2,15),[(0,true,.aY true [.p,.p,.p]),(3,true,.aY true [.k,.p,.k,.p,.o true,.o false]),(6,false,.aY true [.k,.k,.k,.k,.d,.d])]),
 ((52,2,23),[(0,true,.aY true [.p,.p,.p]),(3,true,.aY true [.k,.k,.k,.p,.o true,.o false]),(6,false,.aY true [.k,.k,.k,.k,.d,.d])]),
 ((52,2,29),[(0,true,.aY true [.p,.p,.p]),(3,true,.aY true [.k,.k,.k,.k,.o true,.o false]),(6,false,.aY true [.k,.k,.k,.k,.d,.d])]),
 ((52,2,38),[(0,true,.aY true [.p,.p,.p]),(3,true,.aY true [.k,.k,.k,.k,.k,.o false]),(6,false,.aY true [.k,.k,.k,.k,.k,.d])]),
 ((52,2,9),[(0,true,.aY true [.p,.p,.p]),(3,true,.aY true [.p,.p,.k,.p,.o true,.o false]),(6,false,.aY true [.k,.k,.k,.k,.d,.d])]),
 ((101,0,0),[(2,false,.aY false [.p]),(3,false,.aY false [.p])]),
 ((102,0,0),[(4,false,.aY false [.p]),(5,false,.aY false [.p])]),
 ((75,0,0),[(2,false,.aY false [.p]),(3,false,.aY false [.p])]),
 ((75,0,2),[(2,false,.aY false [.p]),(4,false,.aY false [.p])]),
 ((75,1,1),[(34,false,.aY false [.p])]),
 ((75,1,14),[(127,false,.aY false [.p])]),
 ((75,1,8),[(92,false,.aY false [.p])]),
 ((77,0,0),[(0,false,.aY false [.p]),(3,false,.aY false [.o true])]),
 ((78,0,0),[(4,false,.aY false [.p]),(5,false,.aY false [.p])]),
 ((105,0,0),[(0,false,.aY false [.p]),(5,false,.aY false [.p])]),
 ((105,0,2),[(0,false,.aY false [.p]),(6,false,.aY false [.p])]),
 ((105,2,29),[(0,false,.aY false [.p])]),
 ((51,0,0),[(4,false,.aY false [.o true]),(5,false,.aY false [.p])]),
 ((51,0,2),[(4,false,.aY false [.o true]),(6,false,.aY false [.p])]),
 ((83,0,0),[(5,false,.aY false [.o true]),(6,false,.aY false [.p]),(0,true,.aY true [.p,.p,.p])]),
 ((83,2,8),[(1,false,.aY false [.p])]),
 ((53,2,23),[(23,false,.aY false [.p])]),
 ((22,2,23),[(9,true,.aY true [.p,.p,.p]),(4,false,.aY false [.p])]),
 ((22,2,30),[(9,true,.aY true [.p,.p,.p]),(4,false,.aY false [.p])]),
 ((86,0,0),[(4,false,.aY false [.p]),(5,false,.aY false [.p]),(6,false,.aY false [.p]),(7,false,.aY false [.p]),(8,false,.aY false [.p]),(9,false,.aY false [.p])]),
 ((58,0,0),[(7,false,.aY false [.p]),(13,true,.aY true [.p,.p,.p]),(5,true,.aY true [.k,.k,.k,.k,.k,.o true,.k,.k])]),
 ((58,1,17),[(83,false,.aY false [.p])]),
 ((58,1,9),[(44,false,.aY false [.p])]),
 ((23,0,0),[(9,false,.aY false [.p]),(25,true,.aY true [.p,.p,.p]),(7,true,.aY true [.k,.k,.k,.k,.o true,.k])]),
 ((23,0,2),[(10,false,.aY false [.p]),(25,true,.aY true [.p,.p,.p]),(7,true,.aY true [.k,.k,.k,.k,.k,.o true])]),
 ((23,1,14),[(78,false,.aY false [.p])]),
 ((23,1,20),[(113,false,.aY false [.p])]),
 ((23,1,9),[(53,false,.aY false [.p])])]
def lfz:List (Nat×Nat×Nat):=[]
def YT:List Nat:=[4]
noncomputable def lfn:List (Nat×Func):=[(32,Try.f32)]
noncomputable def cx:Cx:={ty:=xH lty,sg:=λ_=>none,fn:=A1 lfn,pk:=MO YS,fz:=MP lfz,nest:=MQ YT}
theorem YU:mB Try.prog 32:=.mk Try.func32 (by kernel_rfl) (by kernel_rfl)
theorem bG:Fb Try.prog cx:=⟨V3 (l:=lty) (by kernel_rfl) rfl,V4 (l:=lfn) (fc ⟨⟨Try.func32,YU⟩,f0⟩) rfl,by kernel_rfl⟩
noncomputable def YV:=dB.cd bG 5 ⟨[.v false 1],[(false,[.s])]⟩ xL vm [] Try.func5 (by kernel_rfl) (by kernel_rfl) (by kernel_rfl)
noncomputable def YW:=dB.cd bG 49 ⟨[.x 3],[(false,[.s])]⟩ j7 rY [] Try.func49 (by kernel_rfl) (by kernel_rfl) (by kernel_rfl)
noncomputable def y4:=dB.cd bG 50 ⟨[.x 3,.v false 1],[(false,[.s])]⟩ jd j8 [YW] Try.func50 (by kernel_rfl) (by kernel_rfl) (by kernel_rfl)
noncomputable def Nu:=dB.cd bG 60 ⟨[.x 3,.v false 1],[(false,[.s])]⟩ j9 Ba [y4] Try.func60 (by kernel_rfl) (by kernel_rfl) (by kernel_rfl)
noncomputable def YX:=dB.cd bG 81 ⟨[.x 3,.v false 1],[(false,[.s])]⟩ gO v_ [y4] Try.func81 (by kernel_rfl) (by kernel_rfl) (by kernel_rfl)
noncomputable def Nv:=dB.cd bG 95 ⟨[.x 3],[(true,[.s,.s,.s,.s,.s,.o false,.s,.s])]⟩ iG Bb [y4,Nu,YX] Try.func95 (by kernel_rfl) (by kernel_rfl) (by kernel_rfl)
noncomputable def Nw:=dB.cd bG 118 ⟨[.v true 8,.v true 8],[(false,[.s])]⟩ j_ Bc [] Try.func118 (by kernel_rfl) (by kernel_rfl) (by kernel_rfl)
noncomputable def YY:=dB.cd bG 116 ⟨[.v false 1,.v true 8],[(false,[.s])]⟩ nh HL [Nw] Try.func116 (by kernel_rfl) (by kernel_rfl) (by kernel_rfl)
noncomputable def RB:=dB.cd bG 90 ⟨[.v false 1,.v false 1,.v false 1],[(false,[.s])]⟩ nj tl [] Try.func90 (by kernel_rfl) (by kernel_rfl) (by kernel_rfl)
noncomputable def YZ:=dB.cd bG 119 ⟨[.v true 8],[(false,[.s])]⟩ ke HM [RB] Try.func119 (by kernel_rfl) (by kernel_rfl) (by kernel_rfl)
noncomputable def Y0:=dB.cd bG 103 ⟨[.v true 8],[(false,[.s])]⟩ je wb [RB,YZ] Try.func103 (by kernel_rfl) (by kernel_rfl) (by kernel_rfl)
noncomputable def Nx:=dB.cd bG 117 ⟨[.v true 8,.v true 8],[(false,[.s])]⟩ lL Bd [] Try.func117 (by kernel_rfl) (by kernel_rfl) (by kernel_rfl)
noncomputable def Y5:=dB.cd bG 110 ⟨[.v false 1,.v true 8],[(false,[.p])]⟩ lM HN [Nx] Try.func110 (by kernel_rfl) (by kernel_rfl) (by kernel_rfl)
noncomputable def Y7:=dB.cd bG 94 ⟨[.v false 1,.v true 8],[(false,[.p]),(false,[.s])]⟩ gP HO [Y0,Y5,YY] Try.func94 (by kernel_rfl) (by kernel_rfl) (by kernel_rfl)
noncomputable def Y9:=dB.cd bG 65 ⟨[.x 3],[(false,[.p])]⟩ jf HP [y4,Y7,Nv] Try.func65 (by kernel_rfl) (by kernel_rfl) (by kernel_rfl)
noncomputable def Y_:=dB.cd bG 96 ⟨[.v true 8],[(true,[.s,.s,.s,.s,.s,.o true,.s,.s])]⟩ kf uk [] Try.func96 (by kernel_rfl) (by kernel_rfl) (by kernel_rfl)
noncomputable def Ny:=dB.cd bG 66 ⟨[.v false 1,.v false 1],[(false,[.o true])]⟩ nk Be [Y_] Try.func66 (by kernel_rfl) (by kernel_rfl) (by kernel_rfl)
noncomputable def Nz:=dB.cd bG 97 ⟨[.v true 8],[(true,[.s,.s,.s,.s,.s,.p,.s,.s])]⟩ kg xM [] Try.func97 (by kernel_rfl) (by kernel_rfl) (by kernel_rfl)
noncomputable def Y':=dB.cd bG 67 ⟨[.v false 1,.v false 1],[(false,[.p])]⟩ kh HQ [Ny,Nz] Try.func67 (by kernel_rfl) (by kernel_rfl) (by kernel_rfl)
noncomputable def NA:=dB.cd bG 34 ⟨[.x 3],[(true,[.s,.s,.s,.s,.p,.p])]⟩ iH yY [y4,Nu,Y9,Ny,Y'] Try.func34 (by kernel_rfl) (by kernel_rfl) (by kernel_rfl)
noncomputable def Za:=dB.cd bG 15 ⟨[.v false 1],[(true,[.s,.s,.s,.s,.p,.p])]⟩ eF HR [NA] Try.func15 (by kernel_rfl) (by kernel_rfl) (by kernel_rfl)
noncomputable def vp:=dB.cd bG 44 ⟨[.v false 1,.v false 1,.v false 1],[(false,[.s])]⟩ tq pw [] Try.func44 (by kernel_rfl) (by kernel_rfl) (by kernel_rfl)
noncomputable def Zc:=dB.cd bG 45 ⟨[.v false 1],[(false,[.s])]⟩ ki HS [vp] Try.func45 (by kernel_rfl) (by kernel_rfl) (by kernel_rfl)
noncomputable def Zd:=dB.cd bG 98 ⟨[.v true 8],[(false,[.s])]⟩ lN HT [vp] Try.func98 (by kernel_rfl) (by kernel_rfl) (by kernel_rfl)
noncomputable def Ze:=dB.cd bG 68 ⟨[.v true 8],[(false,[.s])]⟩ jg re [vp,Zd] Try.func68 (by kernel_rfl) (by kernel_rfl) (by kernel_rfl)
noncomputable def Zf:=dB.cd bG 72 ⟨[.v true 8,.v true 8],[(false,[.s])]⟩ lO HU [] Try.func72 (by kernel_rfl) (by kernel_rfl) (by kernel_rfl)
noncomputable def Zg:=dB.cd bG 46 ⟨[.v false 1],[(false,[.s])]⟩ kj HV [Ze,Zf] Try.func46 (by kernel_rfl) (by kernel_rfl) (by kernel_rfl)
noncomputable def Zh:=dB.cd bG 73 ⟨[.v true 8],[(true,[.s,.s,.s,.s,.s,.o true,.s,.s])]⟩ lP HW [] Try.func73 (by kernel_rfl) (by kernel_rfl) (by kernel_rfl)
noncomputable def Zi:=dB.cd bG 100 ⟨[.v true 8,.v true 8],[(false,[.s])]⟩ kl HX [] Try.func100 (by kernel_rfl) (by kernel_rfl) (by kernel_rfl)
noncomputable def Zj:=dB.cd bG 74 ⟨[.v true 8,.v true 8],[(false,[.s])]⟩ jh HY [Zi] Try.func74 (by kernel_rfl) (by kernel_rfl) (by kernel_rfl)
noncomputable def Zk:=dB.cd bG 47 ⟨[.v false 1],[(false,[.s])]⟩ lQ HZ [Zh,Zj] Try.func47 (by kernel_rfl) (by kernel_rfl) (by kernel_rfl)
noncomputable def Zl:=dB.cd bG 18 ⟨[.v true 6],[(false,[.s])]⟩ ji ol [vp,Zc,Zg,Zk] Try.func18 (by kernel_rfl) (by kernel_rfl) (by kernel_rfl)
noncomputable def Zm:=dB.cd bG 35 ⟨[.v false 1],[(false,[.s]),(false,[.s])]⟩ km vn [vp] Try.func35 (by kernel_rfl) (by kernel_rfl) (by kernel_rfl)
noncomputable def Zn:=dB.cd bG 36 ⟨[.v true 8],[(false,[.s]),(false,[.s])]⟩ gQ H0 [Zm,Ze] Try.func36 (by kernel_rfl) (by kernel_rfl) (by kernel_rfl)
noncomputable def Zo:=dB.cd bG 37 ⟨[.v false 1],[(false,[.s]),(false,[.s])]⟩ iI H2 [Zm] Try.func37 (by kernel_rfl) (by kernel_rfl) (by kernel_rfl)
noncomputable def Zp:=dB.cd bG 99 ⟨[.v false 1,.v false 1],[(false,[.s])]⟩ ko H3 [] Try.func99 (by kernel_rfl) (by kernel_rfl) (by kernel_rfl)
noncomputable def Zq:=dB.cd bG 69 ⟨[.v false 1],[(false,[.s])]⟩ nl H4 [Zp] Try.func69 (by kernel_rfl) (by kernel_rfl) (by kernel_rfl)
noncomputable def NB:=dB.cd bG 38 ⟨[.v false 1],[(false,[.s]),(false,[.s])]⟩ lR Bf [Zq] Try.func38 (by kernel_rfl) (by kernel_rfl) (by kernel_rfl)
noncomputable def Zr:=dB.cd bG 16 ⟨[.v true 6],[(false,[.s]),(false,[.s])]⟩ gR H5 [Zl,Zm,Zn,Zo,NB] Try.func16 (by kernel_rfl) (by kernel_rfl) (by kernel_rfl)
noncomputable def Zs:=dB.cd bG 39 ⟨[.v false 1],[(false,[.s]),(false,[.s])]⟩ jj Fp [NB] Try.func39 (by kernel_rfl) (by kernel_rfl) (by kernel_rfl)
noncomputable def NC:=dB.cd bG 40 ⟨[.x 3],[(false,[.s])]⟩ gS pA [] Try.func40 (by kernel_rfl) (by kernel_rfl) (by kernel_rfl)
noncomputable def ND:=dB.cd bG 70 ⟨[.v false 1,.v false 1],[(false,[.s]),(false,[.s]),(false,[.s])]⟩ kq Bg [vp] Try.func70 (by kernel_rfl) (by kernel_rfl) (by kernel_rfl)
noncomputable def NE:=dB.cd bG 41 ⟨[.x 3],[(false,[.s])]⟩ gT pB [ND] Try.func41 (by kernel_rfl) (by kernel_rfl) (by kernel_rfl)
noncomputable def Zt:=dB.cd bG 71 ⟨[.v false 1,.v false 1],[(false,[.s]),(false,[.s]),(false,[.s])]⟩ iJ H6 [ND] Try.func71 (by kernel_rfl) (by kernel_rfl) (by kernel_rfl)
noncomputable def Zu:=dB.cd bG 43 ⟨[.x 3],[(false,[.s])]⟩ fT rf [Zt] Try.func43 (by kernel_rfl) (by kernel_rfl) (by kernel_rfl)
noncomputable def Zv:=dB.cd bG 42 ⟨[.v false 1],[(true,[.s,.s,.s,.s,.s,.o true,.s,.s]),(false,[.s])]⟩ gU rh [NC,NE,Ze] Try.func42 (by kernel_rfl) (by kernel_rfl) (by kernel_rfl)
noncomputable def Zw:=dB.cd bG 17 ⟨[.v false 1],[(true,[.s,.s,.s,.s,.o true,.o true]),(false,[.s])]⟩ gV yZ [Zl,Zs,NC,NE,Zv,Zu] Try.func17 (by kernel_rfl) (by kernel_rfl) (by kernel_rfl)
noncomputable def Zx:=dB.cd bG 19 ⟨[.v false 1,.v false 1],[(false,[.s])]⟩ lS H7 [] Try.func19 (by kernel_rfl) (by kernel_rfl) (by kernel_rfl)
noncomputable def Zy:=dB.cd bG 48 ⟨[.v true 8,.v true 8],[(false,[.s])]⟩ tv vo [] Try.func48 (by kernel_rfl) (by kernel_rfl) (by kernel_rfl)
noncomputable def Zz:=dB.cd bG 20 ⟨[.v false 1,.v false 1],[(false,[.s])]⟩ kt H8 [Zy] Try.func20 (by kernel_rfl) (by kernel_rfl) (by kernel_rfl)
noncomputable def ZA:=dB.cd bG 21 ⟨[.v false 1],[(false,[.o true])]⟩ gW H9 [YW,y4] Try.func21 (by kernel_rfl) (by kernel_rfl) (by kernel_rfl)
noncomputable def ZB:=dB.cd bG 104 ⟨[.v false 1],[(false,[.o true])]⟩ gk H_ [Y_] Try.func104 (by kernel_rfl) (by kernel_rfl) (by kernel_rfl)
noncomputable def ZC:=dB.cd bG 80 ⟨[.v true 6],[(true,[.s,.s,.s,.s,.o true,.o true])]⟩ ku Ia [ZB] Try.func80 (by kernel_rfl) (by kernel_rfl) (by kernel_rfl)
noncomputable def ZD:=dB.cd bG 82 ⟨[.x 3],[(true,[.s,.s,.s,.s,.s,.o false,.s,.s])]⟩ lT Ib [y4,YX,Nv] Try.func82 (by kernel_rfl) (by kernel_rfl) (by kernel_rfl)
noncomputable def ZE:=dB.cd bG 52 ⟨[.x 3],[(true,[.s,.s,.s,.s,.o false,.o false])]⟩ lU Ic [NA,y4,ZC,YX,ZD] Try.func52 (by kernel_rfl) (by kernel_rfl) (by kernel_rfl)
noncomputable def ZF:=dB.cd bG 101 ⟨[.v false 1],[(false,[.s])]⟩ kC Ie [Y0,Nx] Try.func101 (by kernel_rfl) (by kernel_rfl) (by kernel_rfl)
noncomputable def ZG:=dB.cd bG 102 ⟨[.v true 8,.v true 8],[(false,[.s])]⟩ jk CS [Nw] Try.func102 (by kernel_rfl) (by kernel_rfl) (by kernel_rfl)
noncomputable def ZH:=dB.cd bG 75 ⟨[.v true 6],[(false,[.s])]⟩ jl Ig [RB,Y_,Nz,ZF,ZG] Try.func75 (by kernel_rfl) (by kernel_rfl) (by kernel_rfl)
noncomputable def NF:=dB.cd bG 76 ⟨[.v false 1],[(false,[.s])]⟩ kE Bh [] Try.func76 (by kernel_rfl) (by kernel_rfl) (by kernel_rfl)
noncomputable def RC:=dB.cd bG 77 ⟨[.v false 1],[(false,[.s])]⟩ lV pC [] Try.func77 (by kernel_rfl) (by kernel_rfl) (by kernel_rfl)
noncomputable def NG:=dB.cd bG 78 ⟨[.v true 8],[(false,[.s]),(false,[.s])]⟩ gX tw [NF,RC,Y0] Try.func78 (by kernel_rfl) (by kernel_rfl) (by kernel_rfl)
noncomputable def ZI:=dB.cd bG 79 ⟨[.v false 1],[(false,[.s])]⟩ jm Ih [RC] Try.func79 (by kernel_rfl) (by kernel_rfl) (by kernel_rfl)
noncomputable def ZJ:=dB.cd bG 105 ⟨[.v false 1,.v false 1],[(false,[.s])]⟩ kF Ii [] Try.func105 (by kernel_rfl) (by kernel_rfl) (by kernel_rfl)
noncomputable def NH:=dB.cd bG 85 ⟨[.v false 1],[(false,[.s])]⟩ np Bi [ZJ] Try.func85 (by kernel_rfl) (by kernel_rfl) (by kernel_rfl)
noncomputable def NI:=dB.cd bG 84 ⟨[.v false 1],[(false,[.s])]⟩ kG Bj [] Try.func84 (by kernel_rfl) (by kernel_rfl) (by kernel_rfl)
noncomputable def NJ:=dB.cd bG 55 ⟨[.v false 1],[(false,[.s]),(false,[.s])]⟩ lW Bk [NI,NH] Try.func55 (by kernel_rfl) (by kernel_rfl) (by kernel_rfl)
noncomputable def NK:=dB.cd bG 51 ⟨[.v true 6],[(false,[.s]),(false,[.s])]⟩ gY o9 [NJ,ZH,NF,RC,NG,ZI] Try.func51 (by kernel_rfl) (by kernel_rfl) (by kernel_rfl)
noncomputable def ZK:=dB.cd bG 83 ⟨[.x 3,.v false 1],[(false,[.s])]⟩ kH Fq [YW] Try.func83 (by kernel_rfl) (by kernel_rfl) (by kernel_rfl)
noncomputable def ZL:=dB.cd bG 53 ⟨[.x 3,.v false 1],[(false,[.s])]⟩ iK Ij [y4,ZK] Try.func53 (by kernel_rfl) (by kernel_rfl) (by kernel_rfl)
noncomputable def NL:=dB.cd bG 54 ⟨[.v false 1],[(false,[.s]),(false,[.s])]⟩ jo xN [NI,NH] Try.func54 (by kernel_rfl) (by kernel_rfl) (by kernel_rfl)
noncomputable def ZM:=dB.cd bG 22 ⟨[.v false 1],[(false,[.s])]⟩ e_ Ik [y4,NK,ZE,ZL,NL,NJ] Try.func22 (by kernel_rfl) (by kernel_rfl) (by kernel_rfl)
noncomputable def NM:=dB.cd bG 59 ⟨[.x 3,.v false 1],[(false,[.s])]⟩ kJ pD [] Try.func59 (by kernel_rfl) (by kernel_rfl) (by kernel_rfl)
noncomputable def NN:=dB.cd bG 56 ⟨[.x 3],[(false,[.s])]⟩ lX pE [NM] Try.func56 (by kernel_rfl) (by kernel_rfl) (by kernel_rfl)
noncomputable def ZN:=dB.cd bG 86 ⟨[.v false 1,.v false 1],[(false,[.s]),(false,[.s]),(false,[.s])]⟩ kK Il [RC,RB] Try.func86 (by kernel_rfl) (by kernel_rfl) (by kernel_rfl)
noncomputable def NO:=dB.cd bG 57 ⟨[.x 3],[(false,[.s])]⟩ lY nq [ZN] Try.func57 (by kernel_rfl) (by kernel_rfl) (by kernel_rfl)
noncomputable def ZO:=dB.cd bG 58 ⟨[.v false 1],[(true,[.s,.s,.s,.s,.s,.o true,.s,.s]),(false,[.s])]⟩ gZ qI [NN,NO,NG] Try.func58 (by kernel_rfl) (by kernel_rfl) (by kernel_rfl)
noncomputable def ZP:=dB.cd bG 23 ⟨[.v false 1],[(true,[.s,.s,.s,.s,.o true,.o true]),(false,[.s])]⟩ g_ Bl [NK,NL,NN,NO,ZO,NM] Try.func23 (by kernel_rfl) (by kernel_rfl) (by kernel_rfl)
noncomputable def nI:=dB.cd bG 4 ⟨[.v false 1],[(false,[.s])]⟩ kL RA [YV,Za,Zr,Zw,Zl,Zx,Zz,ZA,ZM,ZP] Try.func4 (by kernel_rfl) (by kernel_rfl) (by kernel_rfl)
end Go.Proofs.YtbhplkilhknciaaWD

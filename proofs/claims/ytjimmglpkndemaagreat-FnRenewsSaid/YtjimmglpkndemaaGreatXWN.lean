/- The walk: each function does as its plain program says (printed by a program). Conditions: none. -/
import Derived.Test.YtjimmglpkndemaaGreatChecked
import Derived.Test.YtjimmglpkndemaaGreatKe
import Derived.Test.YtjimmglpkndemaaGreatXPN
namespace Go.Proofs.YtjimmglpkndemaaGreatWN
open Go.Proofs.YtjimmglpkndemaaGreatC
theorem fc {α:Type} {p:α→Prop} {a:α} {l:List α} (h:p a∧∀ x∈l,p x):∀ x∈a :: l,p x:=List.forall_mem_cons.2 h
theorem f0 {α:Type} {p:α→Prop}:∀ x∈([]:List α),p x:=fun _ h=>nomatch h
def lty:List (Nat × TI):=[
 (3,⟨1,8,false,[.p (.k (.int .i64 0))],0,[],1⟩),
 (4,⟨1,1,false,[.p (.k (.bool false))],0,[],4⟩),
 (5,⟨1,1,false,[.p (.k (.int .u8 0))],0,[],1⟩),
 (22,⟨1,24,false,[.n],5,[],3⟩),
 (24,⟨1,24,false,[.n],185,[],3⟩),
 (25,⟨1,24,false,[.n],122,[],3⟩),
 (27,⟨3,56,true,[.p (.k (.int .i64 0)),.n,.n],0,[(0,1),(1,1),(2,1)],0⟩),
 (28,⟨1,24,false,[.n],3,[],3⟩),
 (29,⟨1,24,false,[.n],39,[],3⟩),
 (31,⟨7,120,true,[.p (.k (.int .i64 0)),.p (.k (.int .i64 0)),.p (.k (.int .i64 0)),.n,.n,.n,.n],0,[(0,1),(1,1),(2,3),(5,1),(6,1)],0⟩),
 (37,⟨1,24,false,[.n],117,[],3⟩),
 (39,⟨8,80,true,[.p (.k (.int .i64 0)),.p (.k (.int .i64 0)),.p (.k (.int .i64 0)),.p (.k (.int .i64 0)),.p (.k (.int .i64 0)),.n,.p (.k (.int .i64 0)),.p (.k (.bool false))],0,[(0,1),(1,1),(2,1),(3,1),(4,1),(5,1),(6,1),(7,1)],0⟩),
 (93,⟨1,24,false,[.n],4,[],3⟩),
 (117,⟨2,16,true,[.p (.k (.int .i64 0)),.p (.k (.int .i64 0))],0,[(0,1),(1,1)],5⟩),
 (122,⟨4,32,true,[.p (.k (.int .i64 0)),.p (.k (.int .i64 0)),.p (.k (.int .i64 0)),.p (.k (.bool false))],0,[(0,1),(1,1),(2,1),(3,1)],5⟩),
 (181,⟨3,40,true,[.n,.p (.k (.int .i64 0)),.p (.k (.int .i64 0))],0,[(0,1),(1,1),(2,1)],0⟩),
 (185,⟨4,32,true,[.p (.k (.int .i64 0)),.p (.k (.int .i64 0)),.p (.k (.int .i64 0)),.p (.k (.int .i64 0))],0,[(0,1),(1,1),(2,1),(3,1)],5⟩),
 (190,⟨1,24,false,[.n],193,[],3⟩),
 (193,⟨3,40,true,[.p (.k (.int .i64 0)),.p (.k (.int .i64 0)),.n],0,[(0,1),(1,1),(2,1)],0⟩),
 (236,⟨1,24,false,[.n],28,[],3⟩),
 (238,⟨1,24,false,[.n],190,[],3⟩)]
def aPg_:List ((Nat × Nat × Nat) × Js):=[
 ((53,0,0),[(3,false,.phi false [.p]),(4,false,.phi false [.p])]),
 ((215,2,34),[(0,true,.phi true [.k,.p,.k]),(3,false,.phi false [.p])]),
 ((213,0,0),[(5,false,.phi false [.o true]),(6,false,.phi false [.p])]),
 ((213,0,2),[(5,false,.phi false [.o true]),(7,false,.phi false [.p])]),
 ((213,2,20),[(5,false,.phi false [.o true])]),
 ((213,2,43),[(5,false,.phi false [.o true])]),
 ((214,0,0),[(5,false,.phi false [.o true]),(6,false,.phi false [.p])]),
 ((214,0,2),[(5,false,.phi false [.o true]),(7,false,.phi false [.p])]),
 ((214,2,20),[(5,false,.phi false [.o true])]),
 ((214,2,43),[(5,false,.phi false [.o true])]),
 ((148,0,0),[(4,false,.phi false [.p]),(0,true,.phi true [.p,.p,.p]),(3,true,.phi true [.k,.o true,.k])]),
 ((148,0,2),[(8,false,.phi false [.p]),(0,true,.phi true [.p,.p,.p]),(3,true,.phi true [.k,.k,.o true])]),
 ((148,2,36),[(5,false,.phi false [.p]),(6,false,.phi false [.p])]),
 ((148,2,43),[(6,false,.phi false [.p])]),
 ((148,2,51),[(5,false,.phi false [.p]),(6,false,.phi false [.p])]),
 ((148,2,66),[(3,true,.phi true [.k,.o true,.k])]),
 ((150,0,0),[(8,false,.phi false [.p]),(9,false,.phi false [.p])]),
 ((132,0,0),[(2,false,.phi false [.p]),(3,false,.phi false [.p])]),
 ((132,0,2),[(2,false,.phi false [.p]),(4,false,.phi false [.p])]),
 ((78,0,0),[(7,false,.phi false [.o true]),(8,false,.phi false [.p])]),
 ((78,2,19),[(7,false,.phi false [.o true])]),
 ((20,0,0),[(5,false,.phi false [.o true]),(6,false,.phi false [.p])]),
 ((20,2,17),[(5,false,.phi false [.o true])]),
 ((216,0,0),[(10,false,.phi false [.p]),(11,false,.phi false [.p])]),
 ((62,0,0),[(5,false,.phi false [.o false]),(6,false,.phi false [.p])]),
 ((62,0,2),[(5,false,.phi false [.o false]),(7,false,.phi false [.p])]),
 ((62,2,20),[(5,false,.phi false [.o false])]),
 ((62,2,43),[(5,false,.phi false [.o false])]),
 ((229,0,0),[(2,false,.phi false [.p]),(3,false,.phi false [.p])]),
 ((106,0,0),[(2,false,.phi false [.p]),(3,false,.phi false [.p])]),
 ((63,0,0),[(4,false,.phi false [.p]),(5,false,.phi false [.p])]),
 ((242,0,0),[(8,false,.phi false [.p]),(11,false,.phi false [.p])]),
 ((234,0,0),[(6,false,.phi false [.p]),(10,false,.rows [(0,true)])]),
 ((234,0,2),[(9,false,.phi false [.p]),(10,false,.rows [(0,true)])]),
 ((234,2,48),[(10,false,.rows [(0,true)])]),
 ((100,0,0),[(4,false,.phi false [.p]),(5,false,.phi false [.p])]),
 ((235,0,0),[(5,false,.phi false [.o true]),(6,false,.phi false [.p])]),
 ((235,2,19),[(5,false,.phi false [.o true])]),
 ((218,0,0),[(14,false,.phi false [.p]),(47,false,.rows [(0,true)])]),
 ((218,0,2),[(15,false,.phi false [.p]),(48,false,.rows [(0,false)]),(49,false,.rows [(0,true)]),(47,false,.rows [(0,true)])]),
 ((218,0,4),[(16,false,.phi false [.p]),(17,false,.phi false [.p])]),
 ((218,0,6),[(18,false,.phi false [.p]),(48,false,.rows [(0,false)]),(47,false,.rows [(0,true)])]),
 ((218,0,8),[(7,false,.phi false [.o true]),(22,false,.phi false [.p])]),
 ((218,2,126),[(20,false,.phi false [.p])]),
 ((218,2,147),[(48,false,.rows [(0,false)]),(47,false,.rows [(0,true)])]),
 ((218,2,163),[(48,false,.rows [(0,false)])]),
 ((218,2,180),[(7,false,.phi false [.o true])]),
 ((218,2,94),[(16,false,.phi false [.p])]),
 ((221,0,0),[(5,false,.phi false [.p]),(6,false,.phi false [.p])]),
 ((219,0,0),[(8,false,.phi false [.o false]),(9,false,.phi false [.p])]),
 ((219,0,2),[(7,false,.phi false [.o false]),(10,false,.phi false [.p])]),
 ((219,0,4),[(12,false,.phi false [.p]),(13,false,.phi false [.p]),(11,true,.phi true [.p,.p,.p])]),
 ((219,2,56),[(14,true,.phi true [.p,.p,.p])]),
 ((219,2,61),[(7,false,.phi false [.o false])]),
 ((237,0,0),[(6,false,.phi false [.p]),(16,false,.phi false [.p]),(12,true,.phi true [.p,.p,.p])]),
 ((237,2,81),[(18,true,.phi true [.p,.p,.p])]),
 ((220,0,0),[(11,false,.phi false [.o false]),(12,false,.phi false [.p])]),
 ((220,0,2),[(9,false,.phi false [.o false]),(13,false,.phi false [.p])]),
 ((220,0,4),[(17,false,.phi false [.p]),(18,false,.phi false [.p]),(16,true,.phi true [.p,.p,.p])]),
 ((220,2,88),[(9,false,.phi false [.o false])]),
 ((167,0,0),[(10,false,.phi false [.o true]),(11,false,.phi false [.p])]),
 ((167,0,2),[(9,false,.phi false [.o true]),(15,false,.phi false [.p])]),
 ((167,2,37),[(10,false,.phi false [.o true])]),
 ((167,2,84),[(18,true,.phi true [.p,.p,.p]),(19,false,.phi false [.p])]),
 ((167,2,91),[(9,false,.phi false [.o true])]),
 ((67,0,0),[(5,false,.phi false [.p]),(6,false,.phi false [.p])]),
 ((67,2,21),[(7,true,.phi true [.k,.k,.k,.k,.p,.k,.k,.k])]),
 ((217,0,0),[(7,false,.phi false [.o false]),(8,false,.phi false [.p])]),
 ((217,0,2),[(9,false,.phi false [.o false]),(10,false,.phi false [.p])]),
 ((217,2,49),[(9,false,.phi false [.o false])]),
 ((66,0,0),[(3,false,.phi false [.o true]),(4,false,.phi false [.p])]),
 ((152,0,0),[(8,false,.phi false [.p]),(9,false,.phi false [.p])]),
 ((152,0,10),[(8,false,.phi false [.p]),(18,false,.phi false [.p])]),
 ((152,0,2),[(8,false,.phi false [.p]),(11,false,.phi false [.p])]),
 ((152,0,4),[(13,false,.phi false [.p]),(12,true,.phi true [.k,.k,.k,.k,.k,.o true,.k,.k])]),
 ((152,0,6),[(8,false,.phi false [.p]),(15,false,.phi false [.p])]),
 ((152,0,8),[(8,false,.phi false [.p]),(17,false,.phi false [.p])]),
 ((152,2,119),[(8,false,.phi false [.p])]),
 ((152,2,150),[(8,false,.phi false [.p])]),
 ((152,2,90),[(12,true,.phi true [.k,.k,.k,.k,.k,.o true,.k,.k])]),
 ((155,0,1),[(4,false,.phi false [.p]),(0,true,.phi true [.p,.p,.p]),(3,true,.phi true [.k,.k,.k,.k,.k,.o true,.k,.k])]),
 ((155,2,19),[(0,true,.phi true [.p,.p,.p]),(3,true,.phi true [.p,.k,.k,.p,.k,.o true,.p,.p])]),
 ((155,2,32),[(0,true,.phi true [.p,.p,.p]),(3,true,.phi true [.k,.k,.k,.k,.k,.o true,.k,.k])]),
 ((155,2,43),[(0,true,.phi true [.p,.p,.p]),(3,true,.phi true [.p,.k,.k,.p,.k,.k,.p,.p])]),
 ((155,2,53),[(0,true,.phi true [.p,.p,.p]),(3,true,.phi true [.p,.k,.k,.p,.k,.k,.p,.p])]),
 ((153,0,0),[(3,false,.phi false [.p]),(4,false,.phi false [.p]),(0,true,.phi true [.p,.p,.p])]),
 ((52,0,0),[(4,false,.phi false [.p]),(0,true,.phi true [.p,.p,.p]),(3,true,.phi true [.k,.k,.k,.k,.k,.o true,.k])]),
 ((52,0,2),[(5,false,.phi false [.p]),(0,true,.phi true [.p,.p,.p]),(3,true,.phi true [.k,.k,.k,.k,.k,.o true,.k])]),
 ((52,0,4),[(8,false,.phi false [.p]),(0,true,.phi true [.p,.p,.p]),(60,false,.rows [(0,true)])]),
 ((52,0,6),[(9,false,.phi false [.p]),(0,true,.phi true [.p,.p,.p]),(64,false,.rows [(0,true)])]),
 ((52,0,8),[(12,false,.phi false [.p]),(3,true,.phi true [.k,.k,.k,.k,.k,.k,.p]),(0,true,.phi true [.p,.p,.p])]),
 ((52,2,100),[(3,true,.phi true [.k,.k,.k,.k,.k,.k,.p]),(0,true,.phi true [.p,.p,.p])]),
 ((52,2,48),[(3,true,.phi true [.k,.k,.k,.k,.k,.o true,.k])]),
 ((56,0,0),[(3,false,.phi false [.o true]),(8,false,.phi false [.p])]),
 ((68,0,0),[(2,false,.phi false [.p]),(26,false,.phi false [.p])]),
 ((68,0,2),[(2,false,.phi false [.p]),(55,false,.phi false [.p])]),
 ((172,0,0),[(8,false,.phi false [.p]),(14,false,.phi false [.p])]),
 ((70,0,0),[(2,false,.phi false [.p]),(3,false,.phi false [.p])]),
 ((222,0,0),[(2,false,.phi false [.p]),(8,false,.phi false [.p])]),
 ((71,0,0),[(2,false,.phi false [.p]),(7,false,.phi false [.p])]),
 ((84,0,0),[(5,false,.phi false [.p])]),
 ((84,4,6),[(0,false,.rows [(0,true)])]),
 ((74,0,0),[(5,false,.phi false [.o true]),(11,false,.phi false [.p])]),
 ((74,2,24),[(5,false,.phi false [.o true])]),
 ((73,0,0),[(3,false,.phi false [.o true]),(14,false,.phi false [.p])]),
 ((73,0,2),[(7,false,.phi false [.p]),(6,true,.phi true [.k,.k,.k,.k,.k,.o true,.k,.k])]),
 ((73,2,36),[(6,true,.phi true [.k,.k,.k,.k,.k,.o true,.k,.k])]),
 ((57,0,0),[(5,false,.phi false [.p])]),
 ((57,2,40),[(5,false,.phi false [.p])]),
 ((175,0,0),[(4,false,.phi false [.p]),(9,false,.phi false [.p])]),
 ((76,0,0),[(7,false,.phi false [.o false]),(14,false,.phi false [.p])]),
 ((76,0,2),[(7,false,.phi false [.o false]),(34,false,.phi false [.p])]),
 ((76,2,26),[(7,false,.phi false [.o false])]),
 ((157,0,0),[(4,false,.phi false [.p]),(9,false,.phi false [.p])]),
 ((244,0,0),[(8,false,.phi false [.p]),(25,false,.phi false [.p])]),
 ((227,0,1),[(34,false,.phi false [.p]),(5,true,.phi true [.k,.k,.o true])]),
 ((227,0,3),[(47,false,.phi false [.p]),(5,true,.phi true [.k,.k,.o true])]),
 ((223,0,0),[(10,false,.phi false [.p]),(3,false,.rows [(0,true)])]),
 ((223,2,47),[(12,true,.phi true [.k,.k,.o true])]),
 ((223,2,55),[(3,false,.rows [(0,true)]),(12,true,.phi true [.k,.k,.d])]),
 ((223,2,70),[(3,false,.rows [(0,true)])]),
 ((176,0,0),[(8,false,.phi false [.o true]),(30,false,.rows [(0,true)])]),
 ((176,0,2),[(9,false,.phi false [.p]),(10,false,.phi false [.p])]),
 ((176,0,4),[(11,false,.phi false [.o true]),(84,false,.phi false [.p]),(30,false,.rows [(0,true)])]),
 ((176,2,68),[(9,false,.phi false [.p])]),
 ((176,2,90),[(11,false,.phi false [.o true]),(87,false,.phi true [.k,.k,.d]),(13,true,.phi true [.k,.k,.d])]),
 ((176,5,16),[(7,false,.rows [(0,true)])]),
 ((178,0,0),[(5,false,.phi false [.p]),(10,false,.phi false [.p])]),
 ((177,2,36),[(4,true,.phi false [.o true])]),
 ((225,0,0),[(5,false,.phi false [.p])]),
 ((225,5,7),[(0,false,.rows [(0,true)])]),
 ((179,0,0),[(7,false,.phi false [.o true]),(14,false,.phi false [.p])]),
 ((179,0,2),[(7,false,.phi false [.o true]),(23,false,.phi false [.p]),(21,false,.rows [(0,false)])]),
 ((180,0,0),[(10,false,.phi false [.o true]),(23,false,.phi false [.p])]),
 ((77,0,0),[(9,false,.phi false [.o true]),(21,false,.phi false [.p])]),
 ((77,0,2),[(43,false,.phi false [.p]),(13,true,.phi false [.o true]),(41,false,.rows [(0,false)])]),
 ((77,0,4),[(58,false,.phi false [.p]),(13,true,.phi false [.o true]),(56,false,.rows [(0,false)])]),
 ((77,2,27),[(9,false,.phi false [.o true])]),
 ((77,2,52),[(13,true,.phi false [.o true])]),
 ((18,0,0),[(3,false,.phi false [.o true]),(22,false,.phi false [.p]),(19,false,.rows [(0,false)])]),
 ((18,0,2),[(3,false,.phi false [.o true]),(48,false,.phi false [.p])]),
 ((18,0,4),[(3,false,.phi false [.o true]),(59,false,.phi false [.p]),(57,false,.rows [(0,false)])]),
 ((18,0,6),[(3,false,.phi false [.o true]),(72,false,.phi false [.p])]),
 ((18,2,39),[(3,false,.phi false [.o true]),(19,false,.phi false [.p]),(4,false,.phi false [.p]),(20,false,.phi false [.p])]),
 ((18,2,80),[(3,false,.phi false [.o true])]),
 ((158,0,0),[(4,false,.phi false [.p]),(36,false,.phi false [.p])]),
 ((159,2,12),[(5,false,.phi false [.p])]),
 ((160,2,8),[(3,true,.phi true [.k,.k,.k,.k,.k,.k,.p,.k])]),
 ((55,0,0),[(3,false,.phi false [.o true]),(15,false,.phi false [.p]),(12,false,.rows [(0,false)])]),
 ((55,0,2),[(3,false,.phi false [.o true]),(46,false,.phi false [.p])]),
 ((55,2,34),[(3,false,.phi false [.o true]),(6,true,.phi true [.k,.k,.k,.k,.p,.k,.k,.k])]),
 ((55,2,66),[(3,false,.phi false [.o true]),(10,true,.phi true [.k,.k,.k,.k,.p,.k,.k,.k])]),
 ((11,0,0),[(3,false,.phi false [.o true]),(6,false,.phi false [.o true]),(22,false,.phi false [.p])]),
 ((164,0,0),[(2,false,.phi false [.p]),(3,false,.phi false [.p])]),
 ((165,0,0),[(6,false,.phi false [.p]),(5,true,.phi true [.k,.k,.k,.k,.k,.o true,.k,.k])]),
 ((165,2,25),[(5,true,.phi true [.k,.k,.k,.k,.k,.o true,.k,.k])]),
 ((60,0,0),[(5,false,.phi false [.o false]),(6,false,.phi false [.p])]),
 ((60,0,2),[(7,false,.phi false [.o false]),(9,false,.phi false [.p])]),
 ((60,0,4),[(7,false,.phi false [.o false]),(10,false,.phi false [.p])]),
 ((60,0,6),[(3,false,.phi false [.p]),(12,false,.phi false [.p])]),
 ((60,2,46),[(7,false,.phi false [.o false]),(5,false,.phi false [.p]),(40,false,.phi false [.p]),(41,false,.phi false [.d])]),
 ((60,2,86),[(7,false,.phi false [.o false])]),
 ((19,0,0),[(4,false,.phi false [.p]),(5,false,.phi false [.p])]),
 ((12,0,0),[(5,false,.phi false [.p]),(6,false,.phi false [.p])]),
 ((12,0,2),[(5,false,.phi false [.p]),(10,false,.phi false [.p])]),
 ((12,0,4),[(3,false,.phi false [.o true]),(13,false,.phi false [.p])]),
 ((16,0,0),[(4,false,.phi false [.p]),(5,false,.phi false [.p])]),
 ((14,0,0),[(4,false,.phi false [.p]),(5,false,.phi false [.p])]),
 ((17,0,0),[(5,false,.phi false [.p]),(6,false,.phi false [.p])]),
 ((17,2,27),[(5,false,.phi false [.p])]),
 ((3,0,0),[(2,false,.phi false [.p]),(10,false,.phi false [.p])]),
 ((3,0,2),[(2,false,.phi false [.p]),(13,false,.phi false [.p])]),
 ((3,0,4),[(2,false,.phi false [.p]),(17,false,.phi false [.p])]),
 ((3,2,130),[])]
def lfz:List (Nat × Nat × Nat):=[(176,18,1)]
def aPd_:List Nat:=[11,3]
noncomputable def lfn:List (Nat × Func):=[(53,Tryz.f53),(84,Tryz.f84),(223,Tryz.f223),(177,Tryz.f177),(225,Tryz.f225)]
noncomputable def cx:Cx:={ ty:=tiOf lty,sg:=fun _=>none,fn:=fnOf lfn,hint:=aIe_ aPg_,fz:=fzOf lfz,nest:=memN aPd_ }
theorem ayv_:FnIn Tryz.prog 53:=.mk Tryz.func53 (by kernel_rfl) (by kernel_rfl)
theorem aGc_:FnIn Tryz.prog 84:=.mk Tryz.func84 (by kernel_rfl) (by kernel_rfl)
theorem axm_:FnIn Tryz.prog 223:=.mk Tryz.func223 (by kernel_rfl) (by kernel_rfl)
theorem asb_:FnIn Tryz.prog 177:=.mk Tryz.func177 (by kernel_rfl) (by kernel_rfl)
theorem aIh_:FnIn Tryz.prog 225:=.mk Tryz.func225 (by kernel_rfl) (by kernel_rfl)
theorem seat:Seat Tryz.prog cx:=⟨aN6_ (l:=lty) (by kernel_rfl) rfl,aMe_ (l:=lfn) (fc ⟨⟨Tryz.func53,ayv_⟩,fc ⟨⟨Tryz.func84,aGc_⟩,fc ⟨⟨Tryz.func223,axm_⟩,fc ⟨⟨Tryz.func177,asb_⟩,fc ⟨⟨Tryz.func225,aIh_⟩,f0⟩⟩⟩⟩⟩) rfl,by kernel_rfl⟩
noncomputable def aPq_:=Kok.mk2 seat 9 ⟨[.v false 1],[(false,[.s])]⟩ p_big aky_ [] Tryz.func9 (by kernel_rfl) (by kernel_rfl) (by kernel_rfl)
noncomputable def axw_:=Kok.mk2 seat 215 ⟨[.x 3],[(false,[.s])]⟩ p_s_l01Byte u8_ [] Tryz.func215 (by kernel_rfl) (by kernel_rfl) (by kernel_rfl)
noncomputable def ut_:=Kok.mk2 seat 149 ⟨[.x 3,.v false 1],[(false,[.s])]⟩ p_s_l01Below zR_ [axw_] Tryz.func149 (by kernel_rfl) (by kernel_rfl) (by kernel_rfl)
noncomputable def afh_:=Kok.mk2 seat 212 ⟨[.x 3,.v false 1],[(false,[.s])]⟩ p_s_l01PickInt x4_ [ut_] Tryz.func212 (by kernel_rfl) (by kernel_rfl) (by kernel_rfl)
noncomputable def aj0_:=Kok.mk2 seat 204 ⟨[.v true 4,.v true 4],[(false,[.s])]⟩ p_s_l03Ahead wq_ [] Tryz.func204 (by kernel_rfl) (by kernel_rfl) (by kernel_rfl)
noncomputable def aEq_:=Kok.mk2 seat 213 ⟨[.v false 1,.v true 4],[(false,[.o true])]⟩ p_s_l03Put qU_ [aj0_] Tryz.func213 (by kernel_rfl) (by kernel_rfl) (by kernel_rfl)
noncomputable def aeq_:=Kok.mk2 seat 151 ⟨[.x 3,.v false 1],[(false,[.s])]⟩ p_s_l01Once xw_ [ut_] Tryz.func151 (by kernel_rfl) (by kernel_rfl) (by kernel_rfl)
noncomputable def aj5_:=Kok.mk2 seat 205 ⟨[.v true 4,.v true 4],[(false,[.s])]⟩ p_s_l03Thing wD_ [] Tryz.func205 (by kernel_rfl) (by kernel_rfl) (by kernel_rfl)
noncomputable def aow_:=Kok.mk2 seat 214 ⟨[.v false 1,.v true 4],[(false,[.o true])]⟩ p_s_l03PutThing w7_ [aj5_] Tryz.func214 (by kernel_rfl) (by kernel_rfl) (by kernel_rfl)
noncomputable def aE5_:=Kok.mk2 seat 148 ⟨[.x 3],[(true,[.s,.o false,.o false])]⟩ p_s_l03Net qP_ [ut_,aeq_,afh_,aEq_,aow_] Tryz.func148 (by kernel_rfl) (by kernel_rfl) (by kernel_rfl)
noncomputable def aa2_:=Kok.mk2 seat 150 ⟨[.v true 3,.v false 1,.v false 1,.v false 1],[(false,[.s])]⟩ p_s_CostTo xE_ [] Tryz.func150 (by kernel_rfl) (by kernel_rfl) (by kernel_rfl)
noncomputable def qz_:=Kok.mk2 seat 105 ⟨[.v false 1,.v false 1,.v false 1],[(false,[.s])]⟩ p_s_l01In yt_ [] Tryz.func105 (by kernel_rfl) (by kernel_rfl) (by kernel_rfl)
noncomputable def aC5_:=Kok.mk2 seat 203 ⟨[.v false 1,.v true 4],[(false,[.s])]⟩ p_s_LinkOk qC_ [qz_] Tryz.func203 (by kernel_rfl) (by kernel_rfl) (by kernel_rfl)
noncomputable def aqv_:=Kok.mk2 seat 132 ⟨[.v true 3],[(false,[.s])]⟩ p_s_NetOk vQ_ [qz_,aC5_,aj0_,aj5_] Tryz.func132 (by kernel_rfl) (by kernel_rfl) (by kernel_rfl)
noncomputable def aC7_:=Kok.mk2 seat 78 ⟨[.v true 3,.v false 1,.v false 1],[(false,[.p])]⟩ p_s_NextTo qE_ [aa2_] Tryz.func78 (by kernel_rfl) (by kernel_rfl) (by kernel_rfl)
noncomputable def kS_:=Kok.mk2 seat 20 ⟨[.v true 3,.v false 1],[(false,[.p])]⟩ p_s_AreasOf xe_ [aC7_] Tryz.func20 (by kernel_rfl) (by kernel_rfl) (by kernel_rfl)
noncomputable def ay7_:=Kok.mk2 seat 216 ⟨[.v true 3,.v false 1,.v false 1,.v false 1,.v false 1],[(false,[.s])]⟩ p_s_l13Open u5_ [] Tryz.func216 (by kernel_rfl) (by kernel_rfl) (by kernel_rfl)
noncomputable def ana_:=Kok.mk2 seat 168 ⟨[.v true 8,.v true 8],[(false,[.s])]⟩ p_s_Before vn_ [] Tryz.func168 (by kernel_rfl) (by kernel_rfl) (by kernel_rfl)
noncomputable def kn_:=Kok.mk2 seat 62 ⟨[.v false 1,.v true 8],[(false,[.p])]⟩ p_s_l05Put yS_ [ana_] Tryz.func62 (by kernel_rfl) (by kernel_rfl) (by kernel_rfl)
noncomputable def ann_:=Kok.mk2 seat 166 ⟨[.v true 3,.v false 1],[(false,[.s])]⟩ p_s_Border vm_ [kS_] Tryz.func166 (by kernel_rfl) (by kernel_rfl) (by kernel_rfl)
noncomputable def ayw_:=Kok.mk2 seat 229 ⟨[.v true 8],[(false,[.s])]⟩ p_s_l04Near uX_ [qz_] Tryz.func229 (by kernel_rfl) (by kernel_rfl) (by kernel_rfl)
noncomputable def ajh_:=Kok.mk2 seat 195 ⟨[.v true 8],[(false,[.s])]⟩ p_s_RecordOk ws_ [qz_,ayw_] Tryz.func195 (by kernel_rfl) (by kernel_rfl) (by kernel_rfl)
noncomputable def kR_:=Kok.mk2 seat 106 ⟨[.v false 1],[(false,[.s])]⟩ p_s_StoreOk xf_ [ana_,ajh_] Tryz.func106 (by kernel_rfl) (by kernel_rfl) (by kernel_rfl)
noncomputable def adt_:=Kok.mk2 seat 72 ⟨[.v true 8,.v true 8],[(false,[.s])]⟩ p_s_SameKey xY_ [] Tryz.func72 (by kernel_rfl) (by kernel_rfl) (by kernel_rfl)
noncomputable def adp_:=Kok.mk2 seat 63 ⟨[.v false 1,.v true 8],[(false,[.s])]⟩ p_s_l05At xU_ [adt_] Tryz.func63 (by kernel_rfl) (by kernel_rfl) (by kernel_rfl)
noncomputable def aes_:=Kok.mk2 seat 233 ⟨[.v false 1,.v false 1,.v false 1],[(true,[.s,.s,.s,.s,.s,.p,.s,.s]),(false,[.s])]⟩ p_s_l06Node xG_ [adp_] Tryz.func233 (by kernel_rfl) (by kernel_rfl) (by kernel_rfl)
noncomputable def axa_:=Kok.mk2 seat 242 ⟨[.v false 1,.v false 1,.v false 1,.v false 1],[(false,[.s])]⟩ p_s_l06Tells ul_ [aes_] Tryz.func242 (by kernel_rfl) (by kernel_rfl) (by kernel_rfl)
noncomputable def atg_:=Kok.mk2 seat 234 ⟨[.v false 1,.v false 1],[(false,[.p])]⟩ p_s_l06Links uo_ [qz_,aes_,axa_] Tryz.func234 (by kernel_rfl) (by kernel_rfl) (by kernel_rfl)
noncomputable def aG7_:=Kok.mk2 seat 100 ⟨[.v false 1,.v false 1],[(false,[.s])]⟩ p_s_l03In jB_ [] Tryz.func100 (by kernel_rfl) (by kernel_rfl) (by kernel_rfl)
noncomputable def ao7_:=Kok.mk2 seat 235 ⟨[.v false 1,.v false 1],[(false,[.o true])]⟩ p_s_l06Add wC_ [aG7_] Tryz.func235 (by kernel_rfl) (by kernel_rfl) (by kernel_rfl)
noncomputable def agw_:=Kok.mk2 seat 218 ⟨[.v false 1,.v false 1,.v false 1],[(false,[.p])]⟩ p_s_WaysIn we_ [qz_,kR_,aes_,atg_,ao7_] Tryz.func218 (by kernel_rfl) (by kernel_rfl) (by kernel_rfl)
noncomputable def alm_:=Kok.mk2 seat 238 ⟨[.v true 3],[(true,[.s,.s,.p])]⟩ p_s_l06Copy wW_ [] Tryz.func238 (by kernel_rfl) (by kernel_rfl) (by kernel_rfl)
noncomputable def ade_:=Kok.mk2 seat 221 ⟨[.v false 1,.v false 1],[(true,[.s,.s,.p]),(false,[.s])]⟩ p_s_WayTo xJ_ [alm_] Tryz.func221 (by kernel_rfl) (by kernel_rfl) (by kernel_rfl)
noncomputable def aCq_:=Kok.mk2 seat 243 ⟨[.v true 3,.v true 3],[(false,[.s])]⟩ p_s_Better qO_ [] Tryz.func243 (by kernel_rfl) (by kernel_rfl) (by kernel_rfl)
noncomputable def ajc_:=Kok.mk2 seat 236 ⟨[.v true 3,.v true 3],[(true,[.s,.s,.p])]⟩ p_s_Together wv_ [ao7_,alm_,aCq_] Tryz.func236 (by kernel_rfl) (by kernel_rfl) (by kernel_rfl)
noncomputable def ab9_:=Kok.mk2 seat 219 ⟨[.v false 1,.v false 1,.v false 1],[(false,[.p])]⟩ p_s_RoutesWithin xA_ [agw_,ade_,ajc_] Tryz.func219 (by kernel_rfl) (by kernel_rfl) (by kernel_rfl)
noncomputable def asj_:=Kok.mk2 seat 237 ⟨[.v false 1,.v false 1,.v false 1,.v false 1,.v false 1,.v true 3,.v false 1],[(true,[.s,.s,.p]),(false,[.s])]⟩ p_s_l07Beyond vK_ [ade_,ajc_] Tryz.func237 (by kernel_rfl) (by kernel_rfl) (by kernel_rfl)
noncomputable def alr_:=Kok.mk2 seat 220 ⟨[.v false 1,.v false 1,.v false 1,.v false 1],[(false,[.p])]⟩ p_s_RoutesBeyond wR_ [kR_,agw_,ab9_,ade_,asj_] Tryz.func220 (by kernel_rfl) (by kernel_rfl) (by kernel_rfl)
noncomputable def aox_:=Kok.mk2 seat 167 ⟨[.v false 1,.v false 1,.v false 1,.v false 1],[(false,[.p])]⟩ p_s_Beyond vh_ [kR_,agw_,ab9_,alr_,ade_] Tryz.func167 (by kernel_rfl) (by kernel_rfl) (by kernel_rfl)
noncomputable def ad6_:=Kok.mk2 seat 67 ⟨[.v false 1,.v false 1],[(false,[.p])]⟩ p_s_l08With xZ_ [kn_] Tryz.func67 (by kernel_rfl) (by kernel_rfl) (by kernel_rfl)
noncomputable def asp_:=Kok.mk2 seat 217 ⟨[.v false 1,.v false 1,.v false 1],[(false,[.p])]⟩ p_s_l13Beyond vL_ [ad6_,aox_] Tryz.func217 (by kernel_rfl) (by kernel_rfl) (by kernel_rfl)
noncomputable def ad8_:=Kok.mk2 seat 65 ⟨[.v true 8],[(true,[.s,.s,.s,.s,.s,.o true,.s,.s])]⟩ p_s_l04Copy x1_ [] Tryz.func65 (by kernel_rfl) (by kernel_rfl) (by kernel_rfl)
noncomputable def qj_:=Kok.mk2 seat 66 ⟨[.v false 1],[(false,[.o true])]⟩ p_s_l04CopyList z8_ [ad8_] Tryz.func66 (by kernel_rfl) (by kernel_rfl) (by kernel_rfl)
noncomputable def aGn_:=Kok.mk2 seat 152 ⟨[.v true 3,.v false 1,.v false 1],[(false,[.p]),(false,[.s])]⟩ p_s_Ideal uz_ [kS_,kn_,qj_,aqv_,ann_,ay7_,asp_] Tryz.func152 (by kernel_rfl) (by kernel_rfl) (by kernel_rfl)
noncomputable def aia_:=Kok.mk2 seat 155 ⟨[.x 3],[(true,[.s,.s,.s,.s,.s,.o false,.s,.s])]⟩ p_s_l04Record xn_ [ut_,aeq_,afh_] Tryz.func155 (by kernel_rfl) (by kernel_rfl) (by kernel_rfl)
noncomputable def afa_:=Kok.mk2 seat 154 ⟨[.v false 1,.v true 8],[(false,[.p]),(false,[.s])]⟩ p_s_l05Install xa_ [kn_,adp_,ajh_] Tryz.func154 (by kernel_rfl) (by kernel_rfl) (by kernel_rfl)
noncomputable def atj_:=Kok.mk2 seat 153 ⟨[.x 3],[(false,[.p])]⟩ p_s_l05Store w2_ [ut_,afa_,aia_] Tryz.func153 (by kernel_rfl) (by kernel_rfl) (by kernel_rfl)
noncomputable def axv_:=Kok.mk2 seat 52 ⟨[.x 3],[(true,[.s,.s,.s,.p,.p,.p,.p])]⟩ p_s_l08Self uZ_ [aE5_,ut_,aa2_,aeq_,aGn_,atj_,afa_,aia_] Tryz.func52 (by kernel_rfl) (by kernel_rfl) (by kernel_rfl)
noncomputable def ak2_:=Kok.mk2 seat 10 ⟨[.v false 1],[(true,[.s,.s,.s,.p,.p,.p,.p])]⟩ p_s_DrawRightSelf wE_ [axv_] Tryz.func10 (by kernel_rfl) (by kernel_rfl) (by kernel_rfl)
noncomputable def ayo_:=Kok.mk2 seat 90 ⟨[.v true 3],[(true,[.s,.o true,.o true])]⟩ p_i_copyNet qa_ [] Tryz.func90 (by kernel_rfl) (by kernel_rfl) (by kernel_rfl)
noncomputable def qn_:=Kok.mk2 seat 156 ⟨[.v false 1],[(false,[.o true])]⟩ p_i_copyInts ya_ [] Tryz.func156 (by kernel_rfl) (by kernel_rfl) (by kernel_rfl)
noncomputable def aft_:=Kok.mk2 seat 161 ⟨[.v true 8],[(true,[.s,.s,.s,.s,.s,.o true,.s,.s])]⟩ p_i_copyRecord x7_ [] Tryz.func161 (by kernel_rfl) (by kernel_rfl) (by kernel_rfl)
noncomputable def jZ_:=Kok.mk2 seat 56 ⟨[.v false 1],[(false,[.o true])]⟩ p_i_copyRecords y4_ [aft_] Tryz.func56 (by kernel_rfl) (by kernel_rfl) (by kernel_rfl)
noncomputable def avk_:=Kok.mk2 seat 54 ⟨[.v true 7],[(true,[.s,.s,.s,.o true,.o true,.o true,.o true])]⟩ p_i_copySelf ud_ [jZ_,ayo_,qn_] Tryz.func54 (by kernel_rfl) (by kernel_rfl) (by kernel_rfl)
noncomputable def afc_:=Kok.mk2 seat 69 ⟨[.v false 1,.v false 1,.v false 1],[(false,[.s])]⟩ p_i_in wd_ [] Tryz.func69 (by kernel_rfl) (by kernel_rfl) (by kernel_rfl)
noncomputable def aC0_:=Kok.mk2 seat 169 ⟨[.v false 1,.v true 4],[(false,[.s])]⟩ p_i_LinkOk qM_ [afc_] Tryz.func169 (by kernel_rfl) (by kernel_rfl) (by kernel_rfl)
noncomputable def aI1_:=Kok.mk2 seat 170 ⟨[.v true 4,.v true 4],[(false,[.s])]⟩ p_i_ahead jY_ [] Tryz.func170 (by kernel_rfl) (by kernel_rfl) (by kernel_rfl)
noncomputable def aI5_:=Kok.mk2 seat 171 ⟨[.v true 4,.v true 4],[(false,[.s])]⟩ p_i_less kB_ [] Tryz.func171 (by kernel_rfl) (by kernel_rfl) (by kernel_rfl)
noncomputable def aFw_:=Kok.mk2 seat 68 ⟨[.v true 3],[(false,[.s])]⟩ p_i_NetOk jM_ [afc_,aC0_,aI1_,aI5_] Tryz.func68 (by kernel_rfl) (by kernel_rfl) (by kernel_rfl)
noncomputable def am0_:=Kok.mk2 seat 172 ⟨[.v true 3,.v false 1,.v false 1,.v false 1],[(false,[.s])]⟩ p_i_linkAt vl_ [] Tryz.func172 (by kernel_rfl) (by kernel_rfl) (by kernel_rfl)
noncomputable def aAx_:=Kok.mk2 seat 70 ⟨[.v true 7],[(false,[.s])]⟩ p_i_heardOk u0_ [am0_] Tryz.func70 (by kernel_rfl) (by kernel_rfl) (by kernel_rfl)
noncomputable def aD0_:=Kok.mk2 seat 222 ⟨[.v true 8],[(false,[.s])]⟩ p_i_nearOk qQ_ [afc_] Tryz.func222 (by kernel_rfl) (by kernel_rfl) (by kernel_rfl)
noncomputable def aue_:=Kok.mk2 seat 173 ⟨[.v true 8],[(false,[.s])]⟩ p_i_RecordOk uu_ [afc_,aD0_] Tryz.func173 (by kernel_rfl) (by kernel_rfl) (by kernel_rfl)
noncomputable def ao3_:=Kok.mk2 seat 162 ⟨[.v true 8,.v true 8],[(false,[.s])]⟩ p_i_Before vi_ [] Tryz.func162 (by kernel_rfl) (by kernel_rfl) (by kernel_rfl)
noncomputable def all_:=Kok.mk2 seat 71 ⟨[.v false 1],[(false,[.s])]⟩ p_i_StoreOk wV_ [ao3_,aue_] Tryz.func71 (by kernel_rfl) (by kernel_rfl) (by kernel_rfl)
noncomputable def agp_:=Kok.mk2 seat 13 ⟨[.v true 7],[(false,[.s])]⟩ p_i_SelfOk wg_ [aFw_,afc_,aAx_,all_] Tryz.func13 (by kernel_rfl) (by kernel_rfl) (by kernel_rfl)
noncomputable def adw_:=Kok.mk2 seat 74 ⟨[.v true 3,.v false 1],[(false,[.o true])]⟩ p_i_AreasOf xX_ [qn_] Tryz.func74 (by kernel_rfl) (by kernel_rfl) (by kernel_rfl)
noncomputable def aEs_:=Kok.mk2 seat 174 ⟨[.v true 3,.v false 1,.v false 1,.v false 1],[(false,[.s])]⟩ p_i_CostTo qW_ [am0_] Tryz.func174 (by kernel_rfl) (by kernel_rfl) (by kernel_rfl)
noncomputable def aM3_:=Kok.mk2 seat 73 ⟨[.v true 7],[(false,[.o true])]⟩ p_i_own abe_ [adw_,aEs_] Tryz.func73 (by kernel_rfl) (by kernel_rfl) (by kernel_rfl)
noncomputable def aee_:=Kok.mk2 seat 163 ⟨[.v true 8,.v true 8],[(false,[.s])]⟩ p_i_SameKey x0_ [] Tryz.func163 (by kernel_rfl) (by kernel_rfl) (by kernel_rfl)
noncomputable def afm_:=Kok.mk2 seat 57 ⟨[.v false 1,.v true 8],[(false,[.o true])]⟩ p_i_put x6_ [jZ_,aft_,ao3_,aee_] Tryz.func57 (by kernel_rfl) (by kernel_rfl) (by kernel_rfl)
noncomputable def agt_:=Kok.mk2 seat 175 ⟨[.v false 1,.v false 1],[(false,[.s])]⟩ p_i_hasInt wh_ [] Tryz.func175 (by kernel_rfl) (by kernel_rfl) (by kernel_rfl)
noncomputable def aEz_:=Kok.mk2 seat 75 ⟨[.v true 3,.v false 1],[(false,[.s])]⟩ p_i_Border qI_ [adw_,agt_] Tryz.func75 (by kernel_rfl) (by kernel_rfl) (by kernel_rfl)
noncomputable def aO4_:=Kok.mk2 seat 76 ⟨[.v false 1,.v false 1,.v false 1],[(false,[.o false])]⟩ p_i_by afv_ [afm_] Tryz.func76 (by kernel_rfl) (by kernel_rfl) (by kernel_rfl)
noncomputable def aab_:=Kok.mk2 seat 157 ⟨[.v false 1,.v true 8],[(false,[.s])]⟩ p_i_keyAt xj_ [aee_] Tryz.func157 (by kernel_rfl) (by kernel_rfl) (by kernel_rfl)
noncomputable def aKi_:=Kok.mk2 seat 244 ⟨[.v false 1,.v false 1,.v false 1,.v false 1],[(false,[.s])]⟩ p_i_told kG_ [aab_] Tryz.func244 (by kernel_rfl) (by kernel_rfl) (by kernel_rfl)
noncomputable def aEt_:=Kok.mk2 seat 239 ⟨[.v false 1,.v false 1,.v false 1,.v false 1],[(false,[.s])]⟩ p_i_Linked qB_ [aKi_] Tryz.func239 (by kernel_rfl) (by kernel_rfl) (by kernel_rfl)
noncomputable def kL_:=Kok.mk2 seat 224 ⟨[.v true 3],[(true,[.s,.s,.o true])]⟩ p_i_copyWay yF_ [qn_] Tryz.func224 (by kernel_rfl) (by kernel_rfl) (by kernel_rfl)
noncomputable def abo_:=Kok.mk2 seat 227 ⟨[.v true 3,.v true 3],[(true,[.s,.s,.o true])]⟩ p_i_Together yN_ [qn_,kL_] Tryz.func227 (by kernel_rfl) (by kernel_rfl) (by kernel_rfl)
noncomputable def af6_:=Kok.mk2 seat 176 ⟨[.v false 1,.v false 1,.v false 1],[(false,[.o true])]⟩ p_i_WaysIn wj_ [afc_,all_,qn_,aab_,agt_,abo_,aEt_] Tryz.func176 (by kernel_rfl) (by kernel_rfl) (by kernel_rfl)
noncomputable def ar1_:=Kok.mk2 seat 178 ⟨[.v false 1,.v false 1],[(true,[.s,.s,.o true]),(false,[.s])]⟩ p_i_WayTo vT_ [kL_] Tryz.func178 (by kernel_rfl) (by kernel_rfl) (by kernel_rfl)
noncomputable def ab8_:=Kok.mk2 seat 179 ⟨[.v false 1,.v false 1,.v false 1],[(false,[.o true])]⟩ p_i_RoutesWithin xB_ [af6_,kL_,abo_] Tryz.func179 (by kernel_rfl) (by kernel_rfl) (by kernel_rfl)
noncomputable def al4_:=Kok.mk2 seat 180 ⟨[.v false 1,.v false 1,.v false 1,.v false 1],[(false,[.o true])]⟩ p_i_RoutesBeyond wS_ [agt_,af6_,ar1_,ab8_,kL_,abo_] Tryz.func180 (by kernel_rfl) (by kernel_rfl) (by kernel_rfl)
noncomputable def aDc_:=Kok.mk2 seat 77 ⟨[.v false 1,.v false 1,.v false 1,.v false 1],[(false,[.o true])]⟩ p_i_Beyond q1_ [afm_,aab_,af6_,ar1_,ab8_,al4_] Tryz.func77 (by kernel_rfl) (by kernel_rfl) (by kernel_rfl)
noncomputable def anq_:=Kok.mk2 seat 18 ⟨[.v true 7],[(false,[.o true])]⟩ p_i_Wanted wZ_ [agp_,afm_,aM3_,adw_,aEz_,aO4_,aDc_] Tryz.func18 (by kernel_rfl) (by kernel_rfl) (by kernel_rfl)
noncomputable def awc_:=Kok.mk2 seat 158 ⟨[.v true 8,.v true 8],[(false,[.s])]⟩ p_i_SameBody ug_ [aee_] Tryz.func158 (by kernel_rfl) (by kernel_rfl) (by kernel_rfl)
noncomputable def aF4_:=Kok.mk2 seat 159 ⟨[.v true 7,.v true 8],[(false,[.s])]⟩ p_i_seqOf jG_ [aab_] Tryz.func159 (by kernel_rfl) (by kernel_rfl) (by kernel_rfl)
noncomputable def aK3_:=Kok.mk2 seat 160 ⟨[.v true 8],[(true,[.s,.s,.s,.s,.s,.o true,.s,.s])]⟩ p_i_gone kE_ [] Tryz.func160 (by kernel_rfl) (by kernel_rfl) (by kernel_rfl)
noncomputable def aGp_:=Kok.mk2 seat 55 ⟨[.v true 7],[(false,[.o true])]⟩ p_i_fresh jR_ [anq_,afm_,aab_,awc_,aF4_,aK3_] Tryz.func55 (by kernel_rfl) (by kernel_rfl) (by kernel_rfl)
noncomputable def aHw_:=Kok.mk2 seat 11 ⟨[.v true 7],[(true,[.s,.s,.s,.o true,.o true,.o true,.o true]),(false,[.o true])]⟩ p_i_Renew jF_ [agp_,avk_,aGp_,jZ_,afm_] Tryz.func11 (by kernel_rfl) (by kernel_rfl) (by kernel_rfl)
noncomputable def auf_:=Kok.mk2 seat 164 ⟨[.v true 7],[(false,[.s])]⟩ p_s_l08Heard uj_ [aa2_] Tryz.func164 (by kernel_rfl) (by kernel_rfl) (by kernel_rfl)
noncomputable def an3_:=Kok.mk2 seat 58 ⟨[.v true 7],[(false,[.s])]⟩ p_s_SelfOk vg_ [qz_,kR_,aqv_,auf_] Tryz.func58 (by kernel_rfl) (by kernel_rfl) (by kernel_rfl)
noncomputable def azg_:=Kok.mk2 seat 59 ⟨[.v true 7],[(true,[.s,.s,.s,.o true,.o true,.o true,.o true])]⟩ p_s_l08Copy u1_ [qj_] Tryz.func59 (by kernel_rfl) (by kernel_rfl) (by kernel_rfl)
noncomputable def azd_:=Kok.mk2 seat 165 ⟨[.v true 7,.v false 1],[(true,[.s,.s,.s,.s,.s,.p,.s,.s])]⟩ p_s_l08Node u7_ [aa2_] Tryz.func165 (by kernel_rfl) (by kernel_rfl) (by kernel_rfl)
noncomputable def aCe_:=Kok.mk2 seat 60 ⟨[.v true 7],[(false,[.p])]⟩ p_s_Wanted qK_ [kS_,an3_,kn_,qj_,ad6_,azd_,ann_,aox_] Tryz.func60 (by kernel_rfl) (by kernel_rfl) (by kernel_rfl)
noncomputable def av3_:=Kok.mk2 seat 15 ⟨[.v false 1,.v true 8],[(true,[.s,.s,.s,.s,.s,.o true,.s,.s]),(false,[.s])]⟩ p_s_Find vF_ [adp_,ad8_] Tryz.func15 (by kernel_rfl) (by kernel_rfl) (by kernel_rfl)
noncomputable def ajl_:=Kok.mk2 seat 19 ⟨[.v true 8,.v true 8],[(false,[.s])]⟩ p_s_SameBody wB_ [adt_] Tryz.func19 (by kernel_rfl) (by kernel_rfl) (by kernel_rfl)
noncomputable def aEv_:=Kok.mk2 seat 61 ⟨[.v true 7,.v false 1],[(false,[.s])]⟩ p_s_l08Seq qH_ [] Tryz.func61 (by kernel_rfl) (by kernel_rfl) (by kernel_rfl)
noncomputable def ax5_:=Kok.mk2 seat 64 ⟨[.v true 8],[(true,[.s,.s,.s,.s,.s,.p,.s,.s])]⟩ p_s_l08Bare uY_ [] Tryz.func64 (by kernel_rfl) (by kernel_rfl) (by kernel_rfl)
noncomputable def aG6_:=Kok.mk2 seat 12 ⟨[.v true 7],[(true,[.s,.s,.s,.o true,.o true,.o true,.o true]),(false,[.o true])]⟩ p_s_Renew jC_ [av3_,ajl_,an3_,azg_,aCe_,aEv_,kn_,adp_,ax5_,ad8_,qj_,ad6_] Tryz.func12 (by kernel_rfl) (by kernel_rfl) (by kernel_rfl)
noncomputable def aGt_:=Kok.mk2 seat 16 ⟨[.v true 8,.v true 8],[(false,[.s])]⟩ p_same jb_ [] Tryz.func16 (by kernel_rfl) (by kernel_rfl) (by kernel_rfl)
noncomputable def azc_:=Kok.mk2 seat 14 ⟨[.v false 1,.v false 1],[(false,[.s])]⟩ p_sameStore u4_ [aGt_] Tryz.func14 (by kernel_rfl) (by kernel_rfl) (by kernel_rfl)
noncomputable def aKj_:=Kok.mk2 seat 17 ⟨[.v false 1,.v true 8],[(false,[.s])]⟩ p_newest kt_ [adt_] Tryz.func17 (by kernel_rfl) (by kernel_rfl) (by kernel_rfl)
noncomputable def k_FnRenews:=Kok.mk2 seat 3 ⟨[.v false 1],[(false,[.s])]⟩ p_FnRenews aaq_ [aPq_,ak2_,aHw_,aG6_,agp_,azc_,av3_,aGt_,aKj_,anq_,ajl_,kS_] Tryz.func3 (by kernel_rfl) (by kernel_rfl) (by kernel_rfl)
end Go.Proofs.YtjimmglpkndemaaGreatWN

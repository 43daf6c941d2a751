/- The walk: each function does as its plain program says (printed by a program). Conditions: none. -/
import Derived.Test.YtiebbbmibbkpcaaGreatChecked
import Derived.Test.YtiebbbmibbkpcaaGreatKe
import Derived.Test.YtiebbbmibbkpcaaGreatXPR
namespace Go.Proofs.YtiebbbmibbkpcaaGreatWR
open Go.Proofs.YtiebbbmibbkpcaaGreatC
theorem fc {α:Type} {p:α→Prop} {a:α} {l:List α} (h:p a∧∀ x∈l,p x):∀ x∈a :: l,p x:=List.forall_mem_cons.2 h
theorem f0 {α:Type} {p:α→Prop}:∀ x∈([]:List α),p x:=fun _ h=>nomatch h
def lty:List (Nat × TI):=[
 (3,⟨1,8,false,[.p (.k (.int .i64 0))],0,[],1⟩),
 (4,⟨1,1,false,[.p (.k (.bool false))],0,[],4⟩),
 (22,⟨1,24,false,[.n],216,[],3⟩),
 (23,⟨1,24,false,[.n],218,[],3⟩),
 (25,⟨3,56,true,[.p (.k (.int .i64 0)),.n,.n],0,[(0,1),(1,1),(2,1)],0⟩),
 (26,⟨1,24,false,[.n],4,[],3⟩),
 (28,⟨1,24,false,[.n],128,[],3⟩),
 (30,⟨1,24,false,[.n],214,[],3⟩),
 (31,⟨1,24,false,[.n],202,[],3⟩),
 (33,⟨3,56,true,[.p (.k (.int .i64 0)),.n,.n],0,[(0,1),(1,1),(2,1)],0⟩),
 (43,⟨1,24,false,[.n],3,[],3⟩),
 (44,⟨1,24,false,[.n],230,[],3⟩),
 (46,⟨7,120,true,[.p (.k (.int .i64 0)),.p (.k (.int .i64 0)),.p (.k (.int .i64 0)),.n,.n,.n,.n],0,[(0,1),(1,1),(2,3),(5,1),(6,1)],0⟩),
 (47,⟨1,24,false,[.n],225,[],3⟩),
 (49,⟨8,144,true,[.p (.k (.int .i64 0)),.p (.k (.int .i64 0)),.p (.k (.int .i64 0)),.n,.n,.n,.n,.n],0,[(0,7),(7,1)],0⟩),
 (52,⟨1,24,false,[.n],144,[],3⟩),
 (54,⟨7,120,true,[.p (.k (.int .i64 0)),.p (.k (.int .i64 0)),.p (.k (.int .i64 0)),.n,.n,.n,.n],0,[(0,1),(1,1),(2,3),(5,1),(6,1)],0⟩),
 (55,⟨1,24,false,[.n],158,[],3⟩),
 (57,⟨8,144,true,[.p (.k (.int .i64 0)),.p (.k (.int .i64 0)),.p (.k (.int .i64 0)),.n,.n,.n,.n,.n],0,[(0,7),(7,1)],0⟩),
 (74,⟨1,24,false,[.n],49,[],3⟩),
 (75,⟨1,24,false,[.n],96,[],3⟩),
 (77,⟨10,208,true,[.p (.k (.int .i64 0)),.n,.n,.n,.n,.n,.n,.n,.n,.p (.k (.int .i64 0))],0,[(0,3),(3,1),(4,1),(5,1),(6,1),(7,1),(8,1),(9,1)],0⟩),
 (80,⟨1,24,false,[.n],57,[],3⟩),
 (81,⟨1,24,false,[.n],100,[],3⟩),
 (83,⟨10,208,true,[.p (.k (.int .i64 0)),.n,.n,.n,.n,.n,.n,.n,.n,.p (.k (.int .i64 0))],0,[(0,3),(3,1),(4,1),(5,1),(6,1),(7,1),(8,1),(9,1)],0⟩),
 (96,⟨6,80,true,[.p (.k (.int .i64 0)),.p (.k (.int .i64 0)),.p (.k (.int .i64 0)),.p (.k (.int .i64 0)),.n,.n],0,[(0,1),(1,1),(2,1),(3,1),(4,1),(5,1)],0⟩),
 (100,⟨6,80,true,[.p (.k (.int .i64 0)),.p (.k (.int .i64 0)),.p (.k (.int .i64 0)),.p (.k (.int .i64 0)),.n,.n],0,[(0,1),(1,1),(2,1),(3,1),(4,1),(5,1)],0⟩),
 (128,⟨6,64,true,[.p (.k (.bool false)),.p (.k (.int .i64 0)),.p (.k (.int .i64 0)),.p (.k (.int .i64 0)),.p (.k (.int .i64 0)),.n],0,[(0,1),(1,1),(2,1),(3,1),(4,1),(5,1)],0⟩),
 (142,⟨1,24,false,[.n],200,[],3⟩),
 (144,⟨8,80,true,[.p (.k (.int .i64 0)),.p (.k (.int .i64 0)),.p (.k (.int .i64 0)),.p (.k (.int .i64 0)),.p (.k (.int .i64 0)),.n,.p (.k (.int .i64 0)),.p (.k (.bool false))],0,[(0,1),(1,1),(2,1),(3,1),(4,1),(5,1),(6,1),(7,1)],0⟩),
 (158,⟨4,32,true,[.p (.k (.int .i64 0)),.p (.k (.int .i64 0)),.p (.k (.int .i64 0)),.p (.k (.bool false))],0,[(0,1),(1,1),(2,1),(3,1)],5⟩),
 (200,⟨2,16,true,[.p (.k (.int .i64 0)),.p (.k (.int .i64 0))],0,[(0,1),(1,1)],5⟩),
 (202,⟨4,32,true,[.p (.k (.int .i64 0)),.p (.k (.int .i64 0)),.p (.k (.int .i64 0)),.p (.k (.bool false))],0,[(0,1),(1,1),(2,1),(3,1)],5⟩),
 (204,⟨1,24,false,[.n],209,[],3⟩),
 (209,⟨3,40,true,[.p (.k (.int .i64 0)),.p (.k (.int .i64 0)),.n],0,[(0,1),(1,1),(2,1)],0⟩),
 (214,⟨4,32,true,[.p (.k (.int .i64 0)),.p (.k (.int .i64 0)),.p (.k (.int .i64 0)),.p (.k (.int .i64 0))],0,[(0,1),(1,1),(2,1),(3,1)],5⟩),
 (216,⟨4,32,true,[.p (.k (.int .i64 0)),.p (.k (.int .i64 0)),.p (.k (.int .i64 0)),.p (.k (.int .i64 0))],0,[(0,1),(1,1),(2,1),(3,1)],5⟩),
 (218,⟨4,32,true,[.p (.k (.int .i64 0)),.p (.k (.int .i64 0)),.p (.k (.int .i64 0)),.p (.k (.bool false))],0,[(0,1),(1,1),(2,1),(3,1)],5⟩),
 (225,⟨4,32,true,[.p (.k (.int .i64 0)),.p (.k (.int .i64 0)),.p (.k (.int .i64 0)),.p (.k (.bool false))],0,[(0,1),(1,1),(2,1),(3,1)],5⟩),
 (228,⟨1,24,false,[.n],287,[],3⟩),
 (230,⟨8,80,true,[.p (.k (.int .i64 0)),.p (.k (.int .i64 0)),.p (.k (.int .i64 0)),.p (.k (.int .i64 0)),.p (.k (.int .i64 0)),.n,.p (.k (.int .i64 0)),.p (.k (.bool false))],0,[(0,1),(1,1),(2,1),(3,1),(4,1),(5,1),(6,1),(7,1)],0⟩),
 (250,⟨1,24,false,[.n],204,[],3⟩),
 (281,⟨1,24,false,[.n],43,[],3⟩),
 (287,⟨2,16,true,[.p (.k (.int .i64 0)),.p (.k (.int .i64 0))],0,[(0,1),(1,1)],5⟩)]
def aSx_:List ((Nat × Nat × Nat) × Js):=[
 ((79,0,0),[(4,false,.phi false [.p]),(7,false,.rows [(0,true)])]),
 ((80,0,0),[(4,false,.phi false [.p]),(7,false,.rows [(0,true)])]),
 ((135,0,0),[(2,false,.phi false [.p]),(3,false,.phi false [.p])]),
 ((135,0,2),[(2,false,.phi false [.p]),(4,false,.phi false [.p])]),
 ((122,0,0),[(8,false,.phi false [.p]),(9,false,.phi false [.p])]),
 ((195,0,0),[(2,false,.phi false [.p]),(3,false,.phi false [.p])]),
 ((286,0,0),[(2,false,.phi false [.p]),(3,false,.phi false [.p])]),
 ((176,0,0),[(2,false,.phi false [.p]),(3,false,.phi false [.p])]),
 ((178,0,0),[(7,false,.phi false [.o true]),(8,false,.phi false [.p])]),
 ((178,2,19),[(7,false,.phi false [.o true])]),
 ((77,0,0),[(5,false,.phi false [.o true]),(6,false,.phi false [.p])]),
 ((77,2,17),[(5,false,.phi false [.o true])]),
 ((106,0,0),[(4,false,.phi false [.p]),(5,false,.phi false [.p])]),
 ((307,0,0),[(8,false,.phi false [.p]),(11,false,.phi false [.p])]),
 ((283,0,0),[(6,false,.phi false [.p]),(10,false,.rows [(0,true)])]),
 ((283,0,2),[(9,false,.phi false [.p]),(10,false,.rows [(0,true)])]),
 ((283,2,48),[(10,false,.rows [(0,true)])]),
 ((153,0,0),[(4,false,.phi false [.p]),(5,false,.phi false [.p])]),
 ((251,0,0),[(5,false,.phi false [.o true]),(6,false,.phi false [.p])]),
 ((251,2,19),[(5,false,.phi false [.o true])]),
 ((245,0,0),[(14,false,.phi false [.p]),(47,false,.rows [(0,true)])]),
 ((245,0,2),[(15,false,.phi false [.p]),(48,false,.rows [(0,false)]),(49,false,.rows [(0,true)]),(47,false,.rows [(0,true)])]),
 ((245,0,4),[(16,false,.phi false [.p]),(17,false,.phi false [.p])]),
 ((245,0,6),[(18,false,.phi false [.p]),(48,false,.rows [(0,false)]),(47,false,.rows [(0,true)])]),
 ((245,0,8),[(7,false,.phi false [.o true]),(22,false,.phi false [.p])]),
 ((245,2,126),[(20,false,.phi false [.p])]),
 ((245,2,147),[(48,false,.rows [(0,false)]),(47,false,.rows [(0,true)])]),
 ((245,2,163),[(48,false,.rows [(0,false)])]),
 ((245,2,180),[(7,false,.phi false [.o true])]),
 ((245,2,94),[(16,false,.phi false [.p])]),
 ((246,0,0),[(5,false,.phi false [.p]),(6,false,.phi false [.p])]),
 ((174,0,0),[(8,false,.phi false [.o false]),(9,false,.phi false [.p])]),
 ((174,0,2),[(7,false,.phi false [.o false]),(10,false,.phi false [.p])]),
 ((174,0,4),[(12,false,.phi false [.p]),(13,false,.phi false [.p]),(11,true,.phi true [.p,.p,.p])]),
 ((174,2,56),[(14,true,.phi true [.p,.p,.p])]),
 ((174,2,61),[(7,false,.phi false [.o false])]),
 ((248,0,0),[(6,false,.phi false [.p]),(16,false,.phi false [.p]),(12,true,.phi true [.p,.p,.p])]),
 ((248,2,81),[(18,true,.phi true [.p,.p,.p])]),
 ((175,0,0),[(11,false,.phi false [.o false]),(12,false,.phi false [.p])]),
 ((175,0,2),[(9,false,.phi false [.o false]),(13,false,.phi false [.p])]),
 ((175,0,4),[(17,false,.phi false [.p]),(18,false,.phi false [.p]),(16,true,.phi true [.p,.p,.p])]),
 ((175,2,88),[(9,false,.phi false [.o false])]),
 ((138,0,0),[(2,false,.phi false [.p]),(26,false,.phi false [.p])]),
 ((138,0,2),[(2,false,.phi false [.p]),(55,false,.phi false [.p])]),
 ((214,0,0),[(8,false,.phi false [.p]),(14,false,.phi false [.p])]),
 ((201,0,0),[(2,false,.phi false [.p]),(3,false,.phi false [.p])]),
 ((291,0,0),[(2,false,.phi false [.p]),(8,false,.phi false [.p])]),
 ((202,0,0),[(2,false,.phi false [.p]),(7,false,.phi false [.p])]),
 ((124,0,0),[(5,false,.phi false [.o true]),(6,false,.phi false [.p])]),
 ((124,0,2),[(5,false,.phi false [.o true]),(7,false,.phi false [.p])]),
 ((124,2,23),[(5,false,.phi false [.o true])]),
 ((148,0,0),[(5,false,.phi false [.p])]),
 ((148,4,6),[(0,false,.rows [(0,true)])]),
 ((84,0,0),[(5,false,.phi false [.o true]),(11,false,.phi false [.p])]),
 ((84,2,24),[(5,false,.phi false [.o true])]),
 ((187,0,0),[(4,false,.phi false [.p]),(9,false,.phi false [.p])]),
 ((204,0,0),[(4,false,.phi false [.p]),(9,false,.phi false [.p])]),
 ((313,0,0),[(8,false,.phi false [.p]),(25,false,.phi false [.p])]),
 ((257,0,1),[(34,false,.phi false [.p]),(5,true,.phi true [.k,.k,.o true])]),
 ((257,0,3),[(47,false,.phi false [.p]),(5,true,.phi true [.k,.k,.o true])]),
 ((288,0,0),[(10,false,.phi false [.p]),(3,false,.rows [(0,false)])]),
 ((288,2,47),[(12,true,.phi true [.k,.k,.o true])]),
 ((288,2,55),[(12,true,.phi true [.k,.k,.d]),(3,false,.rows [(0,false)])]),
 ((288,2,70),[(3,false,.rows [(0,false)])]),
 ((288,4,5),[(3,false,.rows [(0,false)])]),
 ((254,0,0),[(8,false,.phi false [.o true]),(30,false,.rows [(0,false)])]),
 ((254,0,2),[(9,false,.phi false [.p]),(10,false,.phi false [.p])]),
 ((254,0,4),[(11,false,.phi false [.o false]),(84,false,.phi false [.p]),(30,false,.rows [(0,false)])]),
 ((254,2,68),[(9,false,.phi false [.p])]),
 ((254,2,90),[(11,false,.phi false [.o false])]),
 ((255,0,0),[(5,false,.phi false [.p])]),
 ((255,4,7),[(0,false,.rows [(0,true)])]),
 ((183,0,0),[(7,false,.phi false [.o false]),(14,false,.phi false [.p])]),
 ((183,0,2),[(7,false,.phi false [.o false]),(23,false,.phi false [.p])]),
 ((256,0,0),[(5,false,.phi false [.p]),(10,false,.phi false [.p])]),
 ((184,0,0),[(10,false,.phi false [.o false]),(23,false,.phi false [.p])]),
 ((67,0,0),[(4,false,.phi false [.p]),(5,false,.phi false [.p])]),
 ((87,0,0),[(4,false,.phi false [.p]),(5,false,.phi false [.p])]),
 ((88,0,0),[(4,false,.phi false [.p]),(5,false,.phi false [.p])]),
 ((211,0,0),[(4,false,.phi false [.p]),(5,false,.phi false [.p])]),
 ((35,0,0),[(4,false,.phi false [.p]),(5,false,.phi false [.p])]),
 ((95,0,0),[(4,false,.phi false [.p]),(5,false,.phi false [.p])]),
 ((89,0,0),[(1,false,.phi false [.p]),(5,false,.phi false [.p]),(0,false,.rows [(0,true)])]),
 ((90,0,0),[(1,false,.phi false [.p]),(5,false,.phi false [.p]),(0,false,.rows [(0,true)])]),
 ((70,0,0),[(1,false,.phi false [.p]),(5,false,.phi false [.p]),(0,false,.rows [(0,true)])]),
 ((119,0,0),[(1,false,.phi false [.p]),(5,false,.phi false [.p]),(0,false,.rows [(0,true)])]),
 ((37,0,0),[(1,false,.phi false [.p]),(5,false,.phi false [.p]),(0,false,.rows [(0,true)])]),
 ((96,0,0),[(1,false,.phi false [.p]),(5,false,.phi false [.p]),(0,false,.rows [(0,true)])]),
 ((22,0,0),[(1,false,.phi false [.p]),(5,false,.phi false [.p]),(0,false,.rows [(0,true)])]),
 ((71,0,0),[(1,false,.phi false [.p]),(4,false,.phi false [.p]),(5,false,.phi false [.p])]),
 ((105,0,0),[(5,false,.phi false [.o false]),(6,false,.phi false [.p])]),
 ((105,0,2),[(5,false,.phi false [.o false]),(7,false,.phi false [.p])]),
 ((105,2,20),[(5,false,.phi false [.o false])]),
 ((105,2,43),[(5,false,.phi false [.o false])]),
 ((197,0,0),[(10,false,.phi false [.o true]),(11,false,.phi false [.p])]),
 ((197,0,2),[(9,false,.phi false [.o true]),(15,false,.phi false [.p])]),
 ((197,2,37),[(10,false,.phi false [.o true])]),
 ((197,2,84),[(18,true,.phi true [.p,.p,.p]),(19,false,.phi false [.p])]),
 ((197,2,91),[(9,false,.phi false [.o true])]),
 ((110,0,0),[(5,false,.phi false [.p]),(6,false,.phi false [.p])]),
 ((110,2,21),[(7,true,.phi true [.k,.k,.k,.k,.p,.k,.k,.k])]),
 ((109,0,0),[(3,false,.phi false [.o true]),(4,false,.phi false [.p])]),
 ((116,0,0),[(3,false,.phi false [.o true]),(8,false,.phi false [.p])]),
 ((117,0,0),[(5,false,.phi false [.p])]),
 ((117,2,40),[(5,false,.phi false [.p])]),
 ((287,2,36),[(4,true,.phi false [.o true])]),
 ((253,0,0),[(9,false,.phi false [.o true]),(21,false,.phi false [.p])]),
 ((253,0,2),[(43,false,.phi false [.p]),(13,true,.phi false [.o true])]),
 ((253,0,4),[(58,false,.phi false [.p]),(13,true,.phi false [.o true])]),
 ((253,2,27),[(9,false,.phi false [.o true])]),
 ((253,2,52),[(13,true,.phi false [.o true])]),
 ((21,0,0),[(1,false,.phi false [.p]),(5,false,.phi false [.p]),(0,false,.rows [(0,true)])]),
 ((196,0,0),[(6,false,.phi false [.p]),(5,true,.phi true [.k,.k,.k,.k,.k,.o true,.k,.k])]),
 ((196,2,25),[(5,true,.phi true [.k,.k,.k,.k,.k,.o true,.k,.k])]),
 ((101,0,0),[(5,false,.phi false [.o false]),(6,false,.phi false [.p])]),
 ((101,0,2),[(7,false,.phi false [.o false]),(9,false,.phi false [.p])]),
 ((101,0,4),[(7,false,.phi false [.o false]),(10,false,.phi false [.p])]),
 ((101,0,6),[(3,false,.phi false [.p]),(12,false,.phi false [.p])]),
 ((101,2,46),[(7,false,.phi false [.o false]),(5,false,.phi false [.p]),(40,false,.phi false [.p]),(41,false,.phi false [.d])]),
 ((101,2,86),[(7,false,.phi false [.o false])]),
 ((103,0,0),[(4,false,.phi false [.p]),(5,false,.phi false [.p])]),
 ((31,0,0),[(5,false,.phi false [.p]),(6,false,.phi false [.p])]),
 ((31,0,2),[(5,false,.phi false [.p]),(10,false,.phi false [.p])]),
 ((31,0,4),[(3,false,.phi false [.o true]),(13,false,.phi false [.p])]),
 ((261,0,0),[(3,false,.phi false [.o true]),(14,false,.phi false [.p])]),
 ((261,0,2),[(7,false,.phi false [.p]),(6,true,.phi true [.k,.k,.k,.k,.k,.o true,.k,.k])]),
 ((261,2,36),[(6,true,.phi true [.k,.k,.k,.k,.k,.o true,.k,.k])]),
 ((262,0,0),[(7,false,.phi false [.o false]),(14,false,.phi false [.p])]),
 ((262,0,2),[(7,false,.phi false [.o false]),(34,false,.phi false [.p])]),
 ((262,2,26),[(7,false,.phi false [.o false])]),
 ((203,0,0),[(3,false,.phi false [.o true]),(22,false,.phi false [.p]),(19,false,.rows [(0,false)])]),
 ((203,0,2),[(3,false,.phi false [.o true]),(48,false,.phi false [.p])]),
 ((203,0,4),[(3,false,.phi false [.o true]),(59,false,.phi false [.p]),(57,false,.rows [(0,false)])]),
 ((203,0,6),[(3,false,.phi false [.o true]),(72,false,.phi false [.p])]),
 ((203,2,39),[(3,false,.phi false [.o true]),(19,false,.phi false [.p]),(4,false,.phi false [.p]),(20,false,.phi false [.p])]),
 ((203,2,80),[(3,false,.phi false [.o true])]),
 ((205,0,0),[(4,false,.phi false [.p]),(36,false,.phi false [.p])]),
 ((206,2,12),[(5,false,.phi false [.p])]),
 ((207,2,8),[(3,true,.phi true [.k,.k,.k,.k,.k,.k,.p,.k])]),
 ((115,0,0),[(3,false,.phi false [.o true]),(15,false,.phi false [.p]),(12,false,.rows [(0,false)])]),
 ((115,0,2),[(3,false,.phi false [.o true]),(46,false,.phi false [.p])]),
 ((115,2,34),[(3,false,.phi false [.o true]),(6,true,.phi true [.k,.k,.k,.k,.p,.k,.k,.k])]),
 ((115,2,66),[(3,false,.phi false [.o true]),(10,true,.phi true [.k,.k,.k,.k,.p,.k,.k,.k])]),
 ((33,0,0),[(3,false,.phi false [.o true]),(6,false,.phi false [.o true]),(22,false,.phi false [.p])]),
 ((212,0,0),[(1,false,.phi false [.p]),(4,false,.phi false [.p]),(5,false,.phi false [.p])]),
 ((213,0,0),[(1,false,.phi false [.p]),(4,false,.phi false [.p]),(5,false,.phi false [.p])]),
 ((121,0,0),[(1,false,.phi false [.p]),(4,false,.phi false [.p]),(5,false,.phi false [.p])]),
 ((39,0,0),[(1,false,.phi false [.p]),(4,false,.phi false [.p]),(5,false,.phi false [.p])]),
 ((40,0,0),[(9,false,.phi false [.p]),(8,true,.phi true [.k,.k,.k,.k,.k,.k,.k,.o true])]),
 ((40,0,2),[(10,false,.phi false [.p]),(8,true,.phi true [.k,.k,.k,.k,.k,.k,.k,.o true])]),
 ((40,2,38),[(8,true,.phi true [.k,.k,.k,.k,.k,.k,.k,.o true])]),
 ((125,0,0),[(1,false,.phi false [.p]),(4,false,.phi false [.p]),(5,false,.phi false [.p])])]
def lfz:List (Nat × Nat × Nat):=[]
def aS2_:List Nat:=[89,90,20,70,119,37,36,96,29,22,4,21,3,7,33,5,6]
noncomputable def lfn:List (Nat × Func):=[(148,Tryz.f148),(288,Tryz.f288),(255,Tryz.f255),(89,Tryz.f89),(90,Tryz.f90),(20,Tryz.f20),(70,Tryz.f70),(119,Tryz.f119),(37,Tryz.f37),(36,Tryz.f36),(96,Tryz.f96),(29,Tryz.f29),(22,Tryz.f22),(287,Tryz.f287),(21,Tryz.f21)]
noncomputable def cx:Cx:={ ty:=tiOf lty,sg:=fun _=>none,fn:=fnOf lfn,hint:=aIz_ aSx_,fz:=fzOf lfz,nest:=memN aS2_ }
theorem aJt_:FnIn Tryz.prog 148:=.mk Tryz.func148 (by kernel_rfl) (by kernel_rfl)
theorem azk_:FnIn Tryz.prog 288:=.mk Tryz.func288 (by kernel_rfl) (by kernel_rfl)
theorem aIv_:FnIn Tryz.prog 255:=.mk Tryz.func255 (by kernel_rfl) (by kernel_rfl)
theorem ay8_:FnIn Tryz.prog 89:=.mk Tryz.func89 (by kernel_rfl) (by kernel_rfl)
theorem at5_:FnIn Tryz.prog 90:=.mk Tryz.func90 (by kernel_rfl) (by kernel_rfl)
theorem aHr_:FnIn Tryz.prog 20:=.mk Tryz.func20 (by kernel_rfl) (by kernel_rfl)
theorem aBm_:FnIn Tryz.prog 70:=.mk Tryz.func70 (by kernel_rfl) (by kernel_rfl)
theorem axr_:FnIn Tryz.prog 119:=.mk Tryz.func119 (by kernel_rfl) (by kernel_rfl)
theorem aq6_:FnIn Tryz.prog 37:=.mk Tryz.func37 (by kernel_rfl) (by kernel_rfl)
theorem aBi_:FnIn Tryz.prog 36:=.mk Tryz.func36 (by kernel_rfl) (by kernel_rfl)
theorem az0_:FnIn Tryz.prog 96:=.mk Tryz.func96 (by kernel_rfl) (by kernel_rfl)
theorem aAo_:FnIn Tryz.prog 29:=.mk Tryz.func29 (by kernel_rfl) (by kernel_rfl)
theorem at0_:FnIn Tryz.prog 22:=.mk Tryz.func22 (by kernel_rfl) (by kernel_rfl)
theorem atq_:FnIn Tryz.prog 287:=.mk Tryz.func287 (by kernel_rfl) (by kernel_rfl)
theorem av8_:FnIn Tryz.prog 21:=.mk Tryz.func21 (by kernel_rfl) (by kernel_rfl)
theorem seat:Seat Tryz.prog cx:=⟨aRh_ (l:=lty) (by kernel_rfl) rfl,aP4_ (l:=lfn) (fc ⟨⟨Tryz.func148,aJt_⟩,fc ⟨⟨Tryz.func288,azk_⟩,fc ⟨⟨Tryz.func255,aIv_⟩,fc ⟨⟨Tryz.func89,ay8_⟩,fc ⟨⟨Tryz.func90,at5_⟩,fc ⟨⟨Tryz.func20,aHr_⟩,fc ⟨⟨Tryz.func70,aBm_⟩,fc ⟨⟨Tryz.func119,axr_⟩,fc ⟨⟨Tryz.func37,aq6_⟩,fc ⟨⟨Tryz.func36,aBi_⟩,fc ⟨⟨Tryz.func96,az0_⟩,fc ⟨⟨Tryz.func29,aAo_⟩,fc ⟨⟨Tryz.func22,at0_⟩,fc ⟨⟨Tryz.func287,atq_⟩,fc ⟨⟨Tryz.func21,av8_⟩,f0⟩⟩⟩⟩⟩⟩⟩⟩⟩⟩⟩⟩⟩⟩⟩) rfl,by kernel_rfl⟩
noncomputable def aIf_:=Kok.mk2 seat 72 ⟨[.v false 1,.v false 1],[(false,[.s])]⟩ p_szLinkS adn_ [] Tryz.func72 (by kernel_rfl) (by kernel_rfl) (by kernel_rfl)
noncomputable def aF8_:=Kok.mk2 seat 73 ⟨[.v false 1,.v false 1],[(false,[.s])]⟩ p_szThingS abc_ [] Tryz.func73 (by kernel_rfl) (by kernel_rfl) (by kernel_rfl)
noncomputable def aQr_:=Kok.mk2 seat 12 ⟨[.v true 3,.v false 1],[(false,[.s])]⟩ p_szNet kM_ [aIf_,aF8_] Tryz.func12 (by kernel_rfl) (by kernel_rfl) (by kernel_rfl)
noncomputable def aL7_:=Kok.mk2 seat 179 ⟨[.v true 4],[(true,[.s,.s,.s,.s])]⟩ p_toLink ah5_ [] Tryz.func179 (by kernel_rfl) (by kernel_rfl) (by kernel_rfl)
noncomputable def aIq_:=Kok.mk2 seat 79 ⟨[.v false 1],[(false,[.o true])]⟩ p_toLinkS ad9_ [aL7_] Tryz.func79 (by kernel_rfl) (by kernel_rfl) (by kernel_rfl)
noncomputable def aLm_:=Kok.mk2 seat 180 ⟨[.v true 4],[(true,[.s,.s,.s,.s])]⟩ p_toThing adm_ [] Tryz.func180 (by kernel_rfl) (by kernel_rfl) (by kernel_rfl)
noncomputable def aG7_:=Kok.mk2 seat 80 ⟨[.v false 1],[(false,[.o true])]⟩ p_toThingS abd_ [aLm_] Tryz.func80 (by kernel_rfl) (by kernel_rfl) (by kernel_rfl)
noncomputable def aQp_:=Kok.mk2 seat 14 ⟨[.v true 3],[(true,[.s,.o true,.o true])]⟩ p_toNet age_ [aIq_,aG7_] Tryz.func14 (by kernel_rfl) (by kernel_rfl) (by kernel_rfl)
noncomputable def qq_:=Kok.mk2 seat 75 ⟨[.v false 1,.v false 1,.v false 1],[(false,[.s])]⟩ p_s_l01In z6_ [] Tryz.func75 (by kernel_rfl) (by kernel_rfl) (by kernel_rfl)
noncomputable def aHd_:=Kok.mk2 seat 215 ⟨[.v false 1,.v true 4],[(false,[.s])]⟩ p_s_LinkOk qV_ [qq_] Tryz.func215 (by kernel_rfl) (by kernel_rfl) (by kernel_rfl)
noncomputable def avx_:=Kok.mk2 seat 216 ⟨[.v true 4,.v true 4],[(false,[.s])]⟩ p_s_l03Ahead ue_ [] Tryz.func216 (by kernel_rfl) (by kernel_rfl) (by kernel_rfl)
noncomputable def awd_:=Kok.mk2 seat 217 ⟨[.v true 4,.v true 4],[(false,[.s])]⟩ p_s_l03Thing ut_ [] Tryz.func217 (by kernel_rfl) (by kernel_rfl) (by kernel_rfl)
noncomputable def aJ5_:=Kok.mk2 seat 135 ⟨[.v true 3],[(false,[.s])]⟩ p_s_NetOk jT_ [qq_,aHd_,avx_,awd_] Tryz.func135 (by kernel_rfl) (by kernel_rfl) (by kernel_rfl)
noncomputable def aa1_:=Kok.mk2 seat 122 ⟨[.v true 3,.v false 1,.v false 1,.v false 1],[(false,[.s])]⟩ p_s_CostTo yZ_ [] Tryz.func122 (by kernel_rfl) (by kernel_rfl) (by kernel_rfl)
noncomputable def ax5_:=Kok.mk2 seat 195 ⟨[.v true 7],[(false,[.s])]⟩ p_s_l08Heard un_ [aa1_] Tryz.func195 (by kernel_rfl) (by kernel_rfl) (by kernel_rfl)
noncomputable def azl_:=Kok.mk2 seat 286 ⟨[.v true 8],[(false,[.s])]⟩ p_s_l04Near u1_ [qq_] Tryz.func286 (by kernel_rfl) (by kernel_rfl) (by kernel_rfl)
noncomputable def ayw_:=Kok.mk2 seat 249 ⟨[.v true 8],[(false,[.s])]⟩ p_s_RecordOk uq_ [qq_,azl_] Tryz.func249 (by kernel_rfl) (by kernel_rfl) (by kernel_rfl)
noncomputable def apj_:=Kok.mk2 seat 199 ⟨[.v true 8,.v true 8],[(false,[.s])]⟩ p_s_Before ve_ [] Tryz.func199 (by kernel_rfl) (by kernel_rfl) (by kernel_rfl)
noncomputable def k7_:=Kok.mk2 seat 176 ⟨[.v false 1],[(false,[.s])]⟩ p_s_StoreOk yE_ [apj_,ayw_] Tryz.func176 (by kernel_rfl) (by kernel_rfl) (by kernel_rfl)
noncomputable def ahs_:=Kok.mk2 seat 99 ⟨[.v true 7],[(false,[.s])]⟩ p_s_SelfOk xu_ [qq_,aJ5_,k7_,ax5_] Tryz.func99 (by kernel_rfl) (by kernel_rfl) (by kernel_rfl)
noncomputable def aFi_:=Kok.mk2 seat 178 ⟨[.v true 3,.v false 1,.v false 1],[(false,[.p])]⟩ p_s_NextTo qK_ [aa1_] Tryz.func178 (by kernel_rfl) (by kernel_rfl) (by kernel_rfl)
noncomputable def ams_:=Kok.mk2 seat 77 ⟨[.v true 3,.v false 1],[(false,[.p])]⟩ p_s_AreasOf xV_ [aFi_] Tryz.func77 (by kernel_rfl) (by kernel_rfl) (by kernel_rfl)
noncomputable def aFa_:=Kok.mk2 seat 78 ⟨[.v true 3,.v false 1],[(false,[.s])]⟩ p_s_Border vf_ [ams_] Tryz.func78 (by kernel_rfl) (by kernel_rfl) (by kernel_rfl)
noncomputable def ama_:=Kok.mk2 seat 198 ⟨[.v true 8,.v true 8],[(false,[.s])]⟩ p_s_SameKey wL_ [] Tryz.func198 (by kernel_rfl) (by kernel_rfl) (by kernel_rfl)
noncomputable def ak9_:=Kok.mk2 seat 106 ⟨[.v false 1,.v true 8],[(false,[.s])]⟩ p_s_l05At wF_ [ama_] Tryz.func106 (by kernel_rfl) (by kernel_rfl) (by kernel_rfl)
noncomputable def ae0_:=Kok.mk2 seat 282 ⟨[.v false 1,.v false 1,.v false 1],[(true,[.s,.s,.s,.s,.s,.p,.s,.s]),(false,[.s])]⟩ p_s_l06Node xE_ [ak9_] Tryz.func282 (by kernel_rfl) (by kernel_rfl) (by kernel_rfl)
noncomputable def aws_:=Kok.mk2 seat 307 ⟨[.v false 1,.v false 1,.v false 1,.v false 1],[(false,[.s])]⟩ p_s_l06Tells ul_ [ae0_] Tryz.func307 (by kernel_rfl) (by kernel_rfl) (by kernel_rfl)
noncomputable def avv_:=Kok.mk2 seat 283 ⟨[.v false 1,.v false 1],[(false,[.p])]⟩ p_s_l06Links ug_ [qq_,ae0_,aws_] Tryz.func283 (by kernel_rfl) (by kernel_rfl) (by kernel_rfl)
noncomputable def aLq_:=Kok.mk2 seat 153 ⟨[.v false 1,.v false 1],[(false,[.s])]⟩ p_s_l03In jO_ [] Tryz.func153 (by kernel_rfl) (by kernel_rfl) (by kernel_rfl)
noncomputable def ap9_:=Kok.mk2 seat 251 ⟨[.v false 1,.v false 1],[(false,[.p])]⟩ p_s_l06Add yn_ [aLq_] Tryz.func251 (by kernel_rfl) (by kernel_rfl) (by kernel_rfl)
noncomputable def ah0_:=Kok.mk2 seat 245 ⟨[.v false 1,.v false 1,.v false 1],[(false,[.p])]⟩ p_s_WaysIn wf_ [qq_,k7_,ap9_,ae0_,avv_] Tryz.func245 (by kernel_rfl) (by kernel_rfl) (by kernel_rfl)
noncomputable def amd_:=Kok.mk2 seat 284 ⟨[.v true 3],[(true,[.s,.s,.p])]⟩ p_s_l06Copy wQ_ [] Tryz.func284 (by kernel_rfl) (by kernel_rfl) (by kernel_rfl)
noncomputable def ad3_:=Kok.mk2 seat 246 ⟨[.v false 1,.v false 1],[(true,[.s,.s,.p]),(false,[.s])]⟩ p_s_WayTo y7_ [amd_] Tryz.func246 (by kernel_rfl) (by kernel_rfl) (by kernel_rfl)
noncomputable def aEz_:=Kok.mk2 seat 285 ⟨[.v true 3,.v true 3],[(false,[.s])]⟩ p_s_Better q8_ [] Tryz.func285 (by kernel_rfl) (by kernel_rfl) (by kernel_rfl)
noncomputable def aj8_:=Kok.mk2 seat 247 ⟨[.v true 3,.v true 3],[(true,[.s,.s,.p])]⟩ p_s_Together wB_ [ap9_,amd_,aEz_] Tryz.func247 (by kernel_rfl) (by kernel_rfl) (by kernel_rfl)
noncomputable def ab3_:=Kok.mk2 seat 174 ⟨[.v false 1,.v false 1,.v false 1],[(false,[.p])]⟩ p_s_RoutesWithin yK_ [ah0_,ad3_,aj8_] Tryz.func174 (by kernel_rfl) (by kernel_rfl) (by kernel_rfl)
noncomputable def as4_:=Kok.mk2 seat 248 ⟨[.v false 1,.v false 1,.v false 1,.v false 1,.v false 1,.v true 3,.v false 1],[(true,[.s,.s,.p]),(false,[.s])]⟩ p_s_l07Beyond vD_ [ad3_,aj8_] Tryz.func248 (by kernel_rfl) (by kernel_rfl) (by kernel_rfl)
noncomputable def am6_:=Kok.mk2 seat 175 ⟨[.v false 1,.v false 1,.v false 1,.v false 1],[(false,[.p])]⟩ p_s_RoutesBeyond xw_ [ab3_,k7_,ah0_,ad3_,as4_] Tryz.func175 (by kernel_rfl) (by kernel_rfl) (by kernel_rfl)
noncomputable def agg_:=Kok.mk2 seat 82 ⟨[.v false 1,.v false 1,.v false 1],[(false,[.s])]⟩ p_i_in xK_ [] Tryz.func82 (by kernel_rfl) (by kernel_rfl) (by kernel_rfl)
noncomputable def aHq_:=Kok.mk2 seat 218 ⟨[.v false 1,.v true 4],[(false,[.s])]⟩ p_i_LinkOk q4_ [agg_] Tryz.func218 (by kernel_rfl) (by kernel_rfl) (by kernel_rfl)
noncomputable def aK1_:=Kok.mk2 seat 219 ⟨[.v true 4,.v true 4],[(false,[.s])]⟩ p_i_ahead j2_ [] Tryz.func219 (by kernel_rfl) (by kernel_rfl) (by kernel_rfl)
noncomputable def aOq_:=Kok.mk2 seat 220 ⟨[.v true 4,.v true 4],[(false,[.s])]⟩ p_i_less kK_ [] Tryz.func220 (by kernel_rfl) (by kernel_rfl) (by kernel_rfl)
noncomputable def aJw_:=Kok.mk2 seat 138 ⟨[.v true 3],[(false,[.s])]⟩ p_i_NetOk j9_ [agg_,aHq_,aK1_,aOq_] Tryz.func138 (by kernel_rfl) (by kernel_rfl) (by kernel_rfl)
noncomputable def aic_:=Kok.mk2 seat 214 ⟨[.v true 3,.v false 1,.v false 1,.v false 1],[(false,[.s])]⟩ p_i_linkAt wd_ [] Tryz.func214 (by kernel_rfl) (by kernel_rfl) (by kernel_rfl)
noncomputable def azf_:=Kok.mk2 seat 201 ⟨[.v true 7],[(false,[.s])]⟩ p_i_heardOk uX_ [aic_] Tryz.func201 (by kernel_rfl) (by kernel_rfl) (by kernel_rfl)
noncomputable def aHa_:=Kok.mk2 seat 291 ⟨[.v true 8],[(false,[.s])]⟩ p_i_nearOk q5_ [agg_] Tryz.func291 (by kernel_rfl) (by kernel_rfl) (by kernel_rfl)
noncomputable def axp_:=Kok.mk2 seat 260 ⟨[.v true 8],[(false,[.s])]⟩ p_i_RecordOk uc_ [agg_,aHa_] Tryz.func260 (by kernel_rfl) (by kernel_rfl) (by kernel_rfl)
noncomputable def aon_:=Kok.mk2 seat 209 ⟨[.v true 8,.v true 8],[(false,[.s])]⟩ p_i_Before vd_ [] Tryz.func209 (by kernel_rfl) (by kernel_rfl) (by kernel_rfl)
noncomputable def amz_:=Kok.mk2 seat 202 ⟨[.v false 1],[(false,[.s])]⟩ p_i_StoreOk wO_ [aon_,axp_] Tryz.func202 (by kernel_rfl) (by kernel_rfl) (by kernel_rfl)
noncomputable def ag1_:=Kok.mk2 seat 114 ⟨[.v true 7],[(false,[.s])]⟩ p_i_SelfOk xt_ [agg_,aJw_,azf_,amz_] Tryz.func114 (by kernel_rfl) (by kernel_rfl) (by kernel_rfl)
noncomputable def aEe_:=Kok.mk2 seat 124 ⟨[.v true 3,.v false 1],[(false,[.o true])]⟩ p_i_earsOf vc_ [aic_] Tryz.func124 (by kernel_rfl) (by kernel_rfl) (by kernel_rfl)
noncomputable def qi_:=Kok.mk2 seat 185 ⟨[.v false 1],[(false,[.o true])]⟩ p_i_copyInts zM_ [] Tryz.func185 (by kernel_rfl) (by kernel_rfl) (by kernel_rfl)
noncomputable def ae5_:=Kok.mk2 seat 84 ⟨[.v true 3,.v false 1],[(false,[.o true])]⟩ p_i_AreasOf y9_ [qi_] Tryz.func84 (by kernel_rfl) (by kernel_rfl) (by kernel_rfl)
noncomputable def ai8_:=Kok.mk2 seat 187 ⟨[.v false 1,.v false 1],[(false,[.s])]⟩ p_i_hasInt we_ [] Tryz.func187 (by kernel_rfl) (by kernel_rfl) (by kernel_rfl)
noncomputable def aH1_:=Kok.mk2 seat 85 ⟨[.v true 3,.v false 1],[(false,[.s])]⟩ p_i_Border va_ [ae5_,ai8_] Tryz.func85 (by kernel_rfl) (by kernel_rfl) (by kernel_rfl)
noncomputable def ae8_:=Kok.mk2 seat 210 ⟨[.v true 8,.v true 8],[(false,[.s])]⟩ p_i_SameKey xY_ [] Tryz.func210 (by kernel_rfl) (by kernel_rfl) (by kernel_rfl)
noncomputable def aag_:=Kok.mk2 seat 204 ⟨[.v false 1,.v true 8],[(false,[.s])]⟩ p_i_keyAt xe_ [ae8_] Tryz.func204 (by kernel_rfl) (by kernel_rfl) (by kernel_rfl)
noncomputable def aMu_:=Kok.mk2 seat 313 ⟨[.v false 1,.v false 1,.v false 1,.v false 1],[(false,[.s])]⟩ p_i_told kV_ [aag_] Tryz.func313 (by kernel_rfl) (by kernel_rfl) (by kernel_rfl)
noncomputable def aE0_:=Kok.mk2 seat 308 ⟨[.v false 1,.v false 1,.v false 1,.v false 1],[(false,[.s])]⟩ p_i_Linked q9_ [aMu_] Tryz.func308 (by kernel_rfl) (by kernel_rfl) (by kernel_rfl)
noncomputable def kX_:=Kok.mk2 seat 289 ⟨[.v true 3],[(true,[.s,.s,.o true])]⟩ p_i_copyWay yC_ [qi_] Tryz.func289 (by kernel_rfl) (by kernel_rfl) (by kernel_rfl)
noncomputable def acv_:=Kok.mk2 seat 257 ⟨[.v true 3,.v true 3],[(true,[.s,.s,.o true])]⟩ p_i_Together z0_ [qi_,kX_] Tryz.func257 (by kernel_rfl) (by kernel_rfl) (by kernel_rfl)
noncomputable def aha_:=Kok.mk2 seat 254 ⟨[.v false 1,.v false 1,.v false 1],[(false,[.o false])]⟩ p_i_WaysIn wg_ [agg_,qi_,ai8_,amz_,aag_,acv_,aE0_] Tryz.func254 (by kernel_rfl) (by kernel_rfl) (by kernel_rfl)
noncomputable def ac7_:=Kok.mk2 seat 183 ⟨[.v false 1,.v false 1,.v false 1],[(false,[.o false])]⟩ p_i_RoutesWithin yH_ [aha_,acv_,kX_] Tryz.func183 (by kernel_rfl) (by kernel_rfl) (by kernel_rfl)
noncomputable def asz_:=Kok.mk2 seat 256 ⟨[.v false 1,.v false 1],[(true,[.s,.s,.o true]),(false,[.s])]⟩ p_i_WayTo wp_ [kX_] Tryz.func256 (by kernel_rfl) (by kernel_rfl) (by kernel_rfl)
noncomputable def an1_:=Kok.mk2 seat 184 ⟨[.v false 1,.v false 1,.v false 1,.v false 1],[(false,[.o false])]⟩ p_i_RoutesBeyond xx_ [ac7_,ai8_,aha_,asz_,acv_,kX_] Tryz.func184 (by kernel_rfl) (by kernel_rfl) (by kernel_rfl)
noncomputable def aMz_:=Kok.mk2 seat 67 ⟨[.v false 1,.v false 1],[(false,[.s])]⟩ p_eqIntS ai6_ [] Tryz.func67 (by kernel_rfl) (by kernel_rfl) (by kernel_rfl)
noncomputable def aNh_:=Kok.mk2 seat 188 ⟨[.v true 4,.v true 4],[(false,[.s])]⟩ p_eqLink ahe_ [] Tryz.func188 (by kernel_rfl) (by kernel_rfl) (by kernel_rfl)
noncomputable def aJ9_:=Kok.mk2 seat 87 ⟨[.v false 1,.v false 1],[(false,[.s])]⟩ p_eqLinkS adx_ [aNh_] Tryz.func87 (by kernel_rfl) (by kernel_rfl) (by kernel_rfl)
noncomputable def aJ2_:=Kok.mk2 seat 189 ⟨[.v true 4,.v true 4],[(false,[.s])]⟩ p_eqThing ad1_ [] Tryz.func189 (by kernel_rfl) (by kernel_rfl) (by kernel_rfl)
noncomputable def aG6_:=Kok.mk2 seat 88 ⟨[.v false 1,.v false 1],[(false,[.s])]⟩ p_eqThingS aa4_ [aJ2_] Tryz.func88 (by kernel_rfl) (by kernel_rfl) (by kernel_rfl)
noncomputable def aC5_:=Kok.mk2 seat 18 ⟨[.v true 3,.v true 3],[(false,[.s])]⟩ p_eqNet kN_ [aJ9_,aG6_] Tryz.func18 (by kernel_rfl) (by kernel_rfl) (by kernel_rfl)
noncomputable def aM4_:=Kok.mk2 seat 263 ⟨[.v true 2,.v true 2],[(false,[.s])]⟩ p_eqNear agp_ [] Tryz.func263 (by kernel_rfl) (by kernel_rfl) (by kernel_rfl)
noncomputable def aI7_:=Kok.mk2 seat 211 ⟨[.v false 1,.v false 1],[(false,[.s])]⟩ p_eqNearS ad6_ [aM4_] Tryz.func211 (by kernel_rfl) (by kernel_rfl) (by kernel_rfl)
noncomputable def aGp_:=Kok.mk2 seat 118 ⟨[.v true 8,.v true 8],[(false,[.s])]⟩ p_eqRecord aa7_ [aI7_] Tryz.func118 (by kernel_rfl) (by kernel_rfl) (by kernel_rfl)
noncomputable def aBh_:=Kok.mk2 seat 35 ⟨[.v false 1,.v false 1],[(false,[.s])]⟩ p_eqRecordS k3_ [aGp_] Tryz.func35 (by kernel_rfl) (by kernel_rfl) (by kernel_rfl)
noncomputable def aOh_:=Kok.mk2 seat 34 ⟨[.v true 7,.v true 7],[(false,[.s])]⟩ p_eqSelf abx_ [aC5_,aBh_,aMz_] Tryz.func34 (by kernel_rfl) (by kernel_rfl) (by kernel_rfl)
noncomputable def aQw_:=Kok.mk2 seat 193 ⟨[.v true 4,.v true 4],[(false,[.s])]⟩ p_eqEar al0_ [] Tryz.func193 (by kernel_rfl) (by kernel_rfl) (by kernel_rfl)
noncomputable def aNn_:=Kok.mk2 seat 95 ⟨[.v false 1,.v false 1],[(false,[.s])]⟩ p_eqEarS agr_ [aQw_] Tryz.func95 (by kernel_rfl) (by kernel_rfl) (by kernel_rfl)
noncomputable def aMs_:=Kok.mk2 seat 28 ⟨[.v true 8,.v true 8],[(false,[.s])]⟩ p_eqNode acq_ [aOh_,aNn_] Tryz.func28 (by kernel_rfl) (by kernel_rfl) (by kernel_rfl)
noncomputable def aF0_:=Kok.mk2 seat 71 ⟨[.v false 1,.v false 1],[(false,[.s])]⟩ p_heldIntS aa3_ [] Tryz.func71 (by kernel_rfl) (by kernel_rfl) (by kernel_rfl)
noncomputable def ai0_:=Kok.mk2 seat 105 ⟨[.v false 1,.v true 8],[(false,[.p])]⟩ p_s_l05Put x6_ [apj_] Tryz.func105 (by kernel_rfl) (by kernel_rfl) (by kernel_rfl)
noncomputable def aEt_:=Kok.mk2 seat 197 ⟨[.v false 1,.v false 1,.v false 1,.v false 1],[(false,[.p])]⟩ p_s_Beyond qU_ [ab3_,am6_,k7_,ah0_,ad3_] Tryz.func197 (by kernel_rfl) (by kernel_rfl) (by kernel_rfl)
noncomputable def am3_:=Kok.mk2 seat 110 ⟨[.v false 1,.v false 1],[(false,[.p])]⟩ p_s_l08With wK_ [ai0_] Tryz.func110 (by kernel_rfl) (by kernel_rfl) (by kernel_rfl)
noncomputable def ae9_:=Kok.mk2 seat 108 ⟨[.v true 8],[(true,[.s,.s,.s,.s,.s,.o true,.s,.s])]⟩ p_s_l04Copy xX_ [] Tryz.func108 (by kernel_rfl) (by kernel_rfl) (by kernel_rfl)
noncomputable def kw_:=Kok.mk2 seat 109 ⟨[.v false 1],[(false,[.o true])]⟩ p_s_l04CopyList yA_ [ae9_] Tryz.func109 (by kernel_rfl) (by kernel_rfl) (by kernel_rfl)
noncomputable def agc_:=Kok.mk2 seat 208 ⟨[.v true 8],[(true,[.s,.s,.s,.s,.s,.o true,.s,.s])]⟩ p_i_copyRecord xZ_ [] Tryz.func208 (by kernel_rfl) (by kernel_rfl) (by kernel_rfl)
noncomputable def kA_:=Kok.mk2 seat 116 ⟨[.v false 1],[(false,[.o true])]⟩ p_i_copyRecords yU_ [agc_] Tryz.func116 (by kernel_rfl) (by kernel_rfl) (by kernel_rfl)
noncomputable def agd_:=Kok.mk2 seat 117 ⟨[.v false 1,.v true 8],[(false,[.o true])]⟩ p_i_put x3_ [kA_,agc_,aon_,ae8_] Tryz.func117 (by kernel_rfl) (by kernel_rfl) (by kernel_rfl)
noncomputable def aEh_:=Kok.mk2 seat 253 ⟨[.v false 1,.v false 1,.v false 1,.v false 1],[(false,[.o true])]⟩ p_i_Beyond q2_ [agd_,ac7_,an1_,aag_,aha_,asz_] Tryz.func253 (by kernel_rfl) (by kernel_rfl) (by kernel_rfl)
noncomputable def az2_:=Kok.mk2 seat 100 ⟨[.v true 7],[(true,[.s,.s,.s,.o true,.o true,.o true,.o true])]⟩ p_s_l08Copy u0_ [kw_] Tryz.func100 (by kernel_rfl) (by kernel_rfl) (by kernel_rfl)
noncomputable def aBz_:=Kok.mk2 seat 196 ⟨[.v true 7,.v false 1],[(true,[.s,.s,.s,.s,.s,.p,.s,.s])]⟩ p_s_l08Node u3_ [aa1_] Tryz.func196 (by kernel_rfl) (by kernel_rfl) (by kernel_rfl)
noncomputable def aGk_:=Kok.mk2 seat 101 ⟨[.v true 7],[(false,[.p])]⟩ p_s_Wanted qP_ [ams_,aFa_,ahs_,ai0_,kw_,am3_,aBz_,aEt_] Tryz.func101 (by kernel_rfl) (by kernel_rfl) (by kernel_rfl)
noncomputable def aN0_:=Kok.mk2 seat 102 ⟨[.v false 1,.v true 8],[(true,[.s,.s,.s,.s,.s,.o true,.s,.s]),(false,[.s])]⟩ p_s_Find kJ_ [ak9_,ae9_] Tryz.func102 (by kernel_rfl) (by kernel_rfl) (by kernel_rfl)
noncomputable def avm_:=Kok.mk2 seat 103 ⟨[.v true 8,.v true 8],[(false,[.s])]⟩ p_s_SameBody uk_ [ama_] Tryz.func103 (by kernel_rfl) (by kernel_rfl) (by kernel_rfl)
noncomputable def aGr_:=Kok.mk2 seat 104 ⟨[.v true 7,.v false 1],[(false,[.s])]⟩ p_s_l08Seq q1_ [] Tryz.func104 (by kernel_rfl) (by kernel_rfl) (by kernel_rfl)
noncomputable def azg_:=Kok.mk2 seat 107 ⟨[.v true 8],[(true,[.s,.s,.s,.s,.s,.p,.s,.s])]⟩ p_s_l08Bare u7_ [] Tryz.func107 (by kernel_rfl) (by kernel_rfl) (by kernel_rfl)
noncomputable def aLf_:=Kok.mk2 seat 31 ⟨[.v true 7],[(true,[.s,.s,.s,.o true,.o true,.o true,.o true]),(false,[.o true])]⟩ p_s_Renew j3_ [ahs_,az2_,aGk_,aN0_,avm_,aGr_,ai0_,ak9_,azg_,ae9_,kw_,am3_] Tryz.func31 (by kernel_rfl) (by kernel_rfl) (by kernel_rfl)
noncomputable def amt_:=Kok.mk2 seat 123 ⟨[.v true 3],[(true,[.s,.o true,.o true])]⟩ p_i_copyNet wu_ [] Tryz.func123 (by kernel_rfl) (by kernel_rfl) (by kernel_rfl)
noncomputable def axw_:=Kok.mk2 seat 113 ⟨[.v true 7],[(true,[.s,.s,.s,.o true,.o true,.o true,.o true])]⟩ p_i_copySelf ui_ [kA_,amt_,qi_] Tryz.func113 (by kernel_rfl) (by kernel_rfl) (by kernel_rfl)
noncomputable def aHv_:=Kok.mk2 seat 292 ⟨[.v true 3,.v false 1,.v false 1,.v false 1],[(false,[.s])]⟩ p_i_CostTo qH_ [aic_] Tryz.func292 (by kernel_rfl) (by kernel_rfl) (by kernel_rfl)
noncomputable def aPn_:=Kok.mk2 seat 261 ⟨[.v true 7],[(false,[.o true])]⟩ p_i_own abt_ [ae5_,aHv_] Tryz.func261 (by kernel_rfl) (by kernel_rfl) (by kernel_rfl)
noncomputable def aRz_:=Kok.mk2 seat 262 ⟨[.v false 1,.v false 1,.v false 1],[(false,[.o false])]⟩ p_i_by afc_ [agd_] Tryz.func262 (by kernel_rfl) (by kernel_rfl) (by kernel_rfl)
noncomputable def aGz_:=Kok.mk2 seat 203 ⟨[.v true 7],[(false,[.o true])]⟩ p_i_Wanted uz_ [ae5_,aH1_,ag1_,agd_,aEh_,aPn_,aRz_] Tryz.func203 (by kernel_rfl) (by kernel_rfl) (by kernel_rfl)
noncomputable def avi_:=Kok.mk2 seat 205 ⟨[.v true 8,.v true 8],[(false,[.s])]⟩ p_i_SameBody us_ [ae8_] Tryz.func205 (by kernel_rfl) (by kernel_rfl) (by kernel_rfl)
noncomputable def aJj_:=Kok.mk2 seat 206 ⟨[.v true 7,.v true 8],[(false,[.s])]⟩ p_i_seqOf j6_ [aag_] Tryz.func206 (by kernel_rfl) (by kernel_rfl) (by kernel_rfl)
noncomputable def aNk_:=Kok.mk2 seat 207 ⟨[.v true 8],[(true,[.s,.s,.s,.s,.s,.o true,.s,.s])]⟩ p_i_gone kT_ [] Tryz.func207 (by kernel_rfl) (by kernel_rfl) (by kernel_rfl)
noncomputable def aLr_:=Kok.mk2 seat 115 ⟨[.v true 7],[(false,[.o true])]⟩ p_i_fresh jY_ [agd_,aGz_,aag_,avi_,aJj_,aNk_] Tryz.func115 (by kernel_rfl) (by kernel_rfl) (by kernel_rfl)
noncomputable def aI6_:=Kok.mk2 seat 33 ⟨[.v true 7],[(true,[.s,.s,.s,.o true,.o true,.o true,.o true]),(false,[.o true])]⟩ p_i_Renew jV_ [axw_,ag1_,aLr_,kA_,agd_] Tryz.func33 (by kernel_rfl) (by kernel_rfl) (by kernel_rfl)
noncomputable def aCi_:=Kok.mk2 seat 212 ⟨[.v false 1,.v false 1],[(false,[.s])]⟩ p_heldLinkS k5_ [] Tryz.func212 (by kernel_rfl) (by kernel_rfl) (by kernel_rfl)
noncomputable def auz_:=Kok.mk2 seat 213 ⟨[.v false 1,.v false 1],[(false,[.s])]⟩ p_heldThingS kp_ [] Tryz.func213 (by kernel_rfl) (by kernel_rfl) (by kernel_rfl)
noncomputable def aLg_:=Kok.mk2 seat 120 ⟨[.v true 3,.v false 1],[(false,[.s])]⟩ p_heldNet aaj_ [aCi_,auz_] Tryz.func120 (by kernel_rfl) (by kernel_rfl) (by kernel_rfl)
noncomputable def aBc_:=Kok.mk2 seat 121 ⟨[.v false 1,.v false 1],[(false,[.s])]⟩ p_heldNearS aem_ [] Tryz.func121 (by kernel_rfl) (by kernel_rfl) (by kernel_rfl)
noncomputable def atv_:=Kok.mk2 seat 39 ⟨[.v false 1,.v false 1],[(false,[.s])]⟩ p_heldRecordS ju_ [aBc_] Tryz.func39 (by kernel_rfl) (by kernel_rfl) (by kernel_rfl)
noncomputable def aFc_:=Kok.mk2 seat 38 ⟨[.v true 7,.v false 1],[(false,[.s])]⟩ p_heldSelf kq_ [atv_,aF0_,aLg_] Tryz.func38 (by kernel_rfl) (by kernel_rfl) (by kernel_rfl)
noncomputable def aAm_:=Kok.mk2 seat 40 ⟨[.v true 3,.v false 1,.v false 1],[(true,[.s,.s,.s,.o true,.o true,.o true,.o true,.o true]),(false,[.s])]⟩ p_s_NodeNew jr_ [aLf_,ahs_,aa1_] Tryz.func40 (by kernel_rfl) (by kernel_rfl) (by kernel_rfl)
noncomputable def aBs_:=Kok.mk2 seat 41 ⟨[.v true 3,.v false 1,.v false 1],[(true,[.s,.s,.s,.o true,.o true,.o true,.o true,.o true]),(false,[.s])]⟩ p_i_NodeNew jh_ [aI6_,ag1_,amt_,aEe_] Tryz.func41 (by kernel_rfl) (by kernel_rfl) (by kernel_rfl)
noncomputable def aHb_:=Kok.mk2 seat 125 ⟨[.v false 1,.v false 1],[(false,[.s])]⟩ p_heldEarS abh_ [] Tryz.func125 (by kernel_rfl) (by kernel_rfl) (by kernel_rfl)
noncomputable def aHo_:=Kok.mk2 seat 42 ⟨[.v true 8,.v false 1],[(false,[.s])]⟩ p_heldNode qN_ [aFc_,aHb_] Tryz.func42 (by kernel_rfl) (by kernel_rfl) (by kernel_rfl)
noncomputable def k_FnExactNodeNew:=Kok.mk2 seat 6 ⟨[.v true 3,.v false 1,.v false 1],[(false,[.s])]⟩ p_FnExactNodeNew vw_ [aQr_,aQp_,aC5_,aMs_,aAm_,aBs_,aHo_] Tryz.func6 (by kernel_rfl) (by kernel_rfl) (by kernel_rfl)
end Go.Proofs.YtiebbbmibbkpcaaGreatWR

/- The walk: each function does as its plain program says (printed by a program). Conditions: none. -/
import Derived.Test.YtiebbbmibbkpcaaGreatChecked
import Derived.Test.YtiebbbmibbkpcaaGreatKe
import Derived.Test.YtiebbbmibbkpcaaGreatXPR
namespace Go.Proofs.YtiebbbmibbkpcaaGreatWR
open Go.Proofs.YtiebbbmibbkpcaaGreatC
theorem fc {α:Type} {p:α→Prop} {a:α} {l:List α} (h:p a∧∀ x∈l,p x):∀ x∈a :: l,p x:=List.forall_mem_cons.2 h
theorem f0 {α:Type} {p:α→Prop}:∀ x∈([]:List α),p x:=fun _ h=>nomatch h
def lty:List (Nat × TI):=[
 (3,⟨1,8,false,[.p (.k (.int .i64 0))],0,[],1⟩),
 (4,⟨1,1,false,[.p (.k (.bool false))],0,[],4⟩),
 (22,⟨1,24,false,[.n],216,[],3⟩),
 (23,⟨1,24,false,[.n],218,[],3⟩),
 (25,⟨3,56,true,[.p (.k (.int .i64 0)),.n,.n],0,[(0,1),(1,1),(2,1)],0⟩),
 (26,⟨1,24,false,[.n],4,[],3⟩),
 (28,⟨1,24,false,[.n],128,[],3⟩),
 (30,⟨1,24,false,[.n],214,[],3⟩),
 (31,⟨1,24,false,[.n],202,[],3⟩),
 (33,⟨3,56,true,[.p (.k (.int .i64 0)),.n,.n],0,[(0,1),(1,1),(2,1)],0⟩),
 (43,⟨1,24,false,[.n],3,[],3⟩),
 (44,⟨1,24,false,[.n],230,[],3⟩),
 (46,⟨7,120,true,[.p (.k (.int .i64 0)),.p (.k (.int .i64 0)),.p (.k (.int .i64 0)),.n,.n,.n,.n],0,[(0,1),(1,1),(2,3),(5,1),(6,1)],0⟩),
 (47,⟨1,24,false,[.n],225,[],3⟩),
 (49,⟨8,144,true,[.p (.k (.int .i64 0)),.p (.k (.int .i64 0)),.p (.k (.int .i64 0)),.n,.n,.n,.n,.n],0,[(0,7),(7,1)],0⟩),
 (52,⟨1,24,false,[.n],144,[],3⟩),
 (54,⟨7,120,true,[.p (.k (.int .i64 0)),.p (.k (.int .i64 0)),.p (.k (.int .i64 0)),.n,.n,.n,.n],0,[(0,1),(1,1),(2,3),(5,1),(6,1)],0⟩),
 (55,⟨1,24,false,[.n],158,[],3⟩),
 (57,⟨8,144,true,[.p (.k (.int .i64 0)),.p (.k (.int .i64 0)),.p (.k (.int .i64 0)),.n,.n,.n,.n,.n],0,[(0,7),(7,1)],0⟩),
 (74,⟨1,24,false,[.n],49,[],3⟩),
 (75,⟨1,24,false,[.n],96,[],3⟩),
 (77,⟨10,208,true,[.p (.k (.int .i64 0)),.n,.n,.n,.n,.n,.n,.n,.n,.p (.k (.int .i64 0))],0,[(0,3),(3,1),(4,1),(5,1),(6,1),(7,1),(8,1),(9,1)],0⟩),
 (80,⟨1,24,false,[.n],57,[],3⟩),
 (81,⟨1,24,false,[.n],100,[],3⟩),
 (83,⟨10,208,true,[.p (.k (.int .i64 0)),.n,.n,.n,.n,.n,.n,.n,.n,.p (.k (.int .i64 0))],0,[(0,3),(3,1),(4,1),(5,1),(6,1),(7,1),(8,1),(9,1)],0⟩),
 (96,⟨6,80,true,[.p (.k (.int .i64 0)),.p (.k (.int .i64 0)),.p (.k (.int .i64 0)),.p (.k (.int .i64 0)),.n,.n],0,[(0,1),(1,1),(2,1),(3,1),(4,1),(5,1)],0⟩),
 (100,⟨6,80,true,[.p (.k (.int .i64 0)),.p (.k (.int .i64 0)),.p (.k (.int .i64 0)),.p (.k (.int .i64 0)),.n,.n],0,[(0,1),(1,1),(2,1),(3,1),(4,1),(5,1)],0⟩),
 (128,⟨6,64,true,[.p (.k (.bool false)),.p (.k (.int .i64 0)),.p (.k (.int .i64 0)),.p (.k (.int .i64 0)),.p (.k (.int .i64 0)),.n],0,[(0,1),(1,1),(2,1),(3,1),(4,1),(5,1)],0⟩),
 (142,⟨1,24,false,[.n],200,[],3⟩),
 (144,⟨8,80,true,[.p (.k (.int .i64 0)),.p (.k (.int .i64 0)),.p (.k (.int .i64 0)),.p (.k (.int .i64 0)),.p (.k (.int .i64 0)),.n,.p (.k (.int .i64 0)),.p (.k (.bool false))],0,[(0,1),(1,1),(2,1),(3,1),(4,1),(5,1),(6,1),(7,1)],0⟩),
 (158,⟨4,32,true,[.p (.k (.int .i64 0)),.p (.k (.int .i64 0)),.p (.k (.int .i64 0)),.p (.k (.bool false))],0,[(0,1),(1,1),(2,1),(3,1)],5⟩),
 (200,⟨2,16,true,[.p (.k (.int .i64 0)),.p (.k (.int .i64 0))],0,[(0,1),(1,1)],5⟩),
 (202,⟨4,32,true,[.p (.k (.int .i64 0)),.p (.k (.int .i64 0)),.p (.k (.int .i64 0)),.p (.k (.bool false))],0,[(0,1),(1,1),(2,1),(3,1)],5⟩),
 (204,⟨1,24,false,[.n],209,[],3⟩),
 (209,⟨3,40,true,[.p (.k (.int .i64 0)),.p (.k (.int .i64 0)),.n],0,[(0,1),(1,1),(2,1)],0⟩),
 (214,⟨4,32,true,[.p (.k (.int .i64 0)),.p (.k (.int .i64 0)),.p (.k (.int .i64 0)),.p (.k (.int .i64 0))],0,[(0,1),(1,1),(2,1),(3,1)],5⟩),
 (216,⟨4,32,true,[.p (.k (.int .i64 0)),.p (.k (.int .i64 0)),.p (.k (.int .i64 0)),.p (.k (.int .i64 0))],0,[(0,1),(1,1),(2,1),(3,1)],5⟩),
 (218,⟨4,32,true,[.p (.k (.int .i64 0)),.p (.k (.int .i64 0)),.p (.k (.int .i64 0)),.p (.k (.bool false))],0,[(0,1),(1,1),(2,1),(3,1)],5⟩),
 (225,⟨4,32,true,[.p (.k (.int .i64 0)),.p (.k (.int .i64 0)),.p (.k (.int .i64 0)),.p (.k (.bool false))],0,[(0,1),(1,1),(2,1),(3,1)],5⟩),
 (228,⟨1,24,false,[.n],287,[],3⟩),
 (230,⟨8,80,true,[.p (.k (.int .i64 0)),.p (.k (.int .i64 0)),.p (.k (.int .i64 0)),.p (.k (.int .i64 0)),.p (.k (.int .i64 0)),.n,.p (.k (.int .i64 0)),.p (.k (.bool false))],0,[(0,1),(1,1),(2,1),(3,1),(4,1),(5,1),(6,1),(7,1)],0⟩),
 (250,⟨1,24,false,[.n],204,[],3⟩),
 (281,⟨1,24,false,[.n],43,[],3⟩),
 (287,⟨2,16,true,[.p (.k (.int .i64 0)),.p (.k (.int .i64 0))],0,[(0,1),(1,1)],5⟩)]
def aRs_:List ((Nat × Nat × Nat) × Js):=[
 ((98,0,0),[(1,false,.phi false [.p]),(4,false,.phi false [.p]),(5,false,.phi false [.p])]),
 ((79,0,0),[(4,false,.phi false [.p]),(7,false,.rows [(0,true)])]),
 ((80,0,0),[(4,false,.phi false [.p]),(7,false,.rows [(0,true)])]),
 ((111,0,0),[(4,false,.phi false [.p]),(7,false,.rows [(0,true)])]),
 ((259,0,0),[(4,false,.phi false [.p]),(7,false,.rows [(0,true)])]),
 ((112,0,0),[(4,false,.phi false [.p]),(7,false,.rows [(0,true)])]),
 ((135,0,0),[(2,false,.phi false [.p]),(3,false,.phi false [.p])]),
 ((135,0,2),[(2,false,.phi false [.p]),(4,false,.phi false [.p])]),
 ((122,0,0),[(8,false,.phi false [.p]),(9,false,.phi false [.p])]),
 ((195,0,0),[(2,false,.phi false [.p]),(3,false,.phi false [.p])]),
 ((286,0,0),[(2,false,.phi false [.p]),(3,false,.phi false [.p])]),
 ((176,0,0),[(2,false,.phi false [.p]),(3,false,.phi false [.p])]),
 ((178,0,0),[(7,false,.phi false [.o true]),(8,false,.phi false [.p])]),
 ((178,2,19),[(7,false,.phi false [.o true])]),
 ((77,0,0),[(5,false,.phi false [.o true]),(6,false,.phi false [.p])]),
 ((77,2,17),[(5,false,.phi false [.o true])]),
 ((106,0,0),[(4,false,.phi false [.p]),(5,false,.phi false [.p])]),
 ((307,0,0),[(8,false,.phi false [.p]),(11,false,.phi false [.p])]),
 ((283,0,0),[(6,false,.phi false [.p]),(10,false,.rows [(0,true)])]),
 ((283,0,2),[(9,false,.phi false [.p]),(10,false,.rows [(0,true)])]),
 ((283,2,48),[(10,false,.rows [(0,true)])]),
 ((153,0,0),[(4,false,.phi false [.p]),(5,false,.phi false [.p])]),
 ((251,0,0),[(5,false,.phi false [.o true]),(6,false,.phi false [.p])]),
 ((251,2,19),[(5,false,.phi false [.o true])]),
 ((245,0,0),[(14,false,.phi false [.p]),(47,false,.rows [(0,true)])]),
 ((245,0,2),[(15,false,.phi false [.p]),(48,false,.rows [(0,false)]),(49,false,.rows [(0,true)]),(47,false,.rows [(0,true)])]),
 ((245,0,4),[(16,false,.phi false [.p]),(17,false,.phi false [.p])]),
 ((245,0,6),[(18,false,.phi false [.p]),(48,false,.rows [(0,false)]),(47,false,.rows [(0,true)])]),
 ((245,0,8),[(7,false,.phi false [.o true]),(22,false,.phi false [.p])]),
 ((245,2,126),[(20,false,.phi false [.p])]),
 ((245,2,147),[(48,false,.rows [(0,false)]),(47,false,.rows [(0,true)])]),
 ((245,2,163),[(48,false,.rows [(0,false)])]),
 ((245,2,180),[(7,false,.phi false [.o true])]),
 ((245,2,94),[(16,false,.phi false [.p])]),
 ((246,0,0),[(5,false,.phi false [.p]),(6,false,.phi false [.p])]),
 ((174,0,0),[(8,false,.phi false [.o false]),(9,false,.phi false [.p])]),
 ((174,0,2),[(7,false,.phi false [.o false]),(10,false,.phi false [.p])]),
 ((174,0,4),[(12,false,.phi false [.p]),(13,false,.phi false [.p]),(11,true,.phi true [.p,.p,.p])]),
 ((174,2,56),[(14,true,.phi true [.p,.p,.p])]),
 ((174,2,61),[(7,false,.phi false [.o false])]),
 ((248,0,0),[(6,false,.phi false [.p]),(16,false,.phi false [.p]),(12,true,.phi true [.p,.p,.p])]),
 ((248,2,81),[(18,true,.phi true [.p,.p,.p])]),
 ((175,0,0),[(11,false,.phi false [.o false]),(12,false,.phi false [.p])]),
 ((175,0,2),[(9,false,.phi false [.o false]),(13,false,.phi false [.p])]),
 ((175,0,4),[(17,false,.phi false [.p]),(18,false,.phi false [.p]),(16,true,.phi true [.p,.p,.p])]),
 ((175,2,88),[(9,false,.phi false [.o false])]),
 ((138,0,0),[(2,false,.phi false [.p]),(26,false,.phi false [.p])]),
 ((138,0,2),[(2,false,.phi false [.p]),(55,false,.phi false [.p])]),
 ((214,0,0),[(8,false,.phi false [.p]),(14,false,.phi false [.p])]),
 ((201,0,0),[(2,false,.phi false [.p]),(3,false,.phi false [.p])]),
 ((291,0,0),[(2,false,.phi false [.p]),(8,false,.phi false [.p])]),
 ((202,0,0),[(2,false,.phi false [.p]),(7,false,.phi false [.p])]),
 ((148,0,0),[(5,false,.phi false [.p])]),
 ((148,4,6),[(0,false,.rows [(0,true)])]),
 ((84,0,0),[(5,false,.phi false [.o true]),(11,false,.phi false [.p])]),
 ((84,2,24),[(5,false,.phi false [.o true])]),
 ((187,0,0),[(4,false,.phi false [.p]),(9,false,.phi false [.p])]),
 ((204,0,0),[(4,false,.phi false [.p]),(9,false,.phi false [.p])]),
 ((313,0,0),[(8,false,.phi false [.p]),(25,false,.phi false [.p])]),
 ((257,0,1),[(34,false,.phi false [.p]),(5,true,.phi true [.k,.k,.o true])]),
 ((257,0,3),[(47,false,.phi false [.p]),(5,true,.phi true [.k,.k,.o true])]),
 ((288,0,0),[(10,false,.phi false [.p]),(3,false,.rows [(0,false)])]),
 ((288,2,47),[(12,true,.phi true [.k,.k,.o true])]),
 ((288,2,55),[(12,true,.phi true [.k,.k,.d]),(3,false,.rows [(0,false)])]),
 ((288,2,70),[(3,false,.rows [(0,false)])]),
 ((288,4,5),[(3,false,.rows [(0,false)])]),
 ((254,0,0),[(8,false,.phi false [.o true]),(30,false,.rows [(0,false)])]),
 ((254,0,2),[(9,false,.phi false [.p]),(10,false,.phi false [.p])]),
 ((254,0,4),[(11,false,.phi false [.o false]),(84,false,.phi false [.p]),(30,false,.rows [(0,false)])]),
 ((254,2,68),[(9,false,.phi false [.p])]),
 ((254,2,90),[(11,false,.phi false [.o false])]),
 ((255,0,0),[(5,false,.phi false [.p])]),
 ((255,4,7),[(0,false,.rows [(0,true)])]),
 ((183,0,0),[(7,false,.phi false [.o false]),(14,false,.phi false [.p])]),
 ((183,0,2),[(7,false,.phi false [.o false]),(23,false,.phi false [.p])]),
 ((256,0,0),[(5,false,.phi false [.p]),(10,false,.phi false [.p])]),
 ((184,0,0),[(10,false,.phi false [.o false]),(23,false,.phi false [.p])]),
 ((67,0,0),[(4,false,.phi false [.p]),(5,false,.phi false [.p])]),
 ((87,0,0),[(4,false,.phi false [.p]),(5,false,.phi false [.p])]),
 ((88,0,0),[(4,false,.phi false [.p]),(5,false,.phi false [.p])]),
 ((211,0,0),[(4,false,.phi false [.p]),(5,false,.phi false [.p])]),
 ((35,0,0),[(4,false,.phi false [.p]),(5,false,.phi false [.p])]),
 ((89,0,0),[(1,false,.phi false [.p]),(5,false,.phi false [.p]),(0,false,.rows [(0,true)])]),
 ((90,0,0),[(1,false,.phi false [.p]),(5,false,.phi false [.p]),(0,false,.rows [(0,true)])]),
 ((70,0,0),[(1,false,.phi false [.p]),(5,false,.phi false [.p]),(0,false,.rows [(0,true)])]),
 ((119,0,0),[(1,false,.phi false [.p]),(5,false,.phi false [.p]),(0,false,.rows [(0,true)])]),
 ((37,0,0),[(1,false,.phi false [.p]),(5,false,.phi false [.p]),(0,false,.rows [(0,true)])]),
 ((96,0,0),[(1,false,.phi false [.p]),(5,false,.phi false [.p]),(0,false,.rows [(0,true)])]),
 ((22,0,0),[(1,false,.phi false [.p]),(5,false,.phi false [.p]),(0,false,.rows [(0,true)])]),
 ((71,0,0),[(1,false,.phi false [.p]),(4,false,.phi false [.p]),(5,false,.phi false [.p])]),
 ((105,0,0),[(5,false,.phi false [.o false]),(6,false,.phi false [.p])]),
 ((105,0,2),[(5,false,.phi false [.o false]),(7,false,.phi false [.p])]),
 ((105,2,20),[(5,false,.phi false [.o false])]),
 ((105,2,43),[(5,false,.phi false [.o false])]),
 ((197,0,0),[(10,false,.phi false [.o true]),(11,false,.phi false [.p])]),
 ((197,0,2),[(9,false,.phi false [.o true]),(15,false,.phi false [.p])]),
 ((197,2,37),[(10,false,.phi false [.o true])]),
 ((197,2,84),[(18,true,.phi true [.p,.p,.p]),(19,false,.phi false [.p])]),
 ((197,2,91),[(9,false,.phi false [.o true])]),
 ((110,0,0),[(5,false,.phi false [.p]),(6,false,.phi false [.p])]),
 ((110,2,21),[(7,true,.phi true [.k,.k,.k,.k,.p,.k,.k,.k])]),
 ((109,0,0),[(3,false,.phi false [.o true]),(4,false,.phi false [.p])]),
 ((116,0,0),[(3,false,.phi false [.o true]),(8,false,.phi false [.p])]),
 ((117,0,0),[(5,false,.phi false [.p])]),
 ((117,2,40),[(5,false,.phi false [.p])]),
 ((287,2,36),[(4,true,.phi false [.o true])]),
 ((253,0,0),[(9,false,.phi false [.o true]),(21,false,.phi false [.p])]),
 ((253,0,2),[(43,false,.phi false [.p]),(13,true,.phi false [.o true])]),
 ((253,0,4),[(58,false,.phi false [.p]),(13,true,.phi false [.o true])]),
 ((253,2,27),[(9,false,.phi false [.o true])]),
 ((253,2,52),[(13,true,.phi false [.o true])]),
 ((21,0,0),[(1,false,.phi false [.p]),(5,false,.phi false [.p]),(0,false,.rows [(0,true)])]),
 ((196,0,0),[(6,false,.phi false [.p]),(5,true,.phi true [.k,.k,.k,.k,.k,.o true,.k,.k])]),
 ((196,2,25),[(5,true,.phi true [.k,.k,.k,.k,.k,.o true,.k,.k])]),
 ((101,0,0),[(5,false,.phi false [.o false]),(6,false,.phi false [.p])]),
 ((101,0,2),[(7,false,.phi false [.o false]),(9,false,.phi false [.p])]),
 ((101,0,4),[(7,false,.phi false [.o false]),(10,false,.phi false [.p])]),
 ((101,0,6),[(3,false,.phi false [.p]),(12,false,.phi false [.p])]),
 ((101,2,46),[(7,false,.phi false [.o false]),(5,false,.phi false [.p]),(40,false,.phi false [.p]),(41,false,.phi false [.d])]),
 ((101,2,86),[(7,false,.phi false [.o false])]),
 ((103,0,0),[(4,false,.phi false [.p]),(5,false,.phi false [.p])]),
 ((31,0,0),[(5,false,.phi false [.p]),(6,false,.phi false [.p])]),
 ((31,0,2),[(5,false,.phi false [.p]),(10,false,.phi false [.p])]),
 ((31,0,4),[(3,false,.phi false [.o true]),(13,false,.phi false [.p])]),
 ((261,0,0),[(3,false,.phi false [.o true]),(14,false,.phi false [.p])]),
 ((261,0,2),[(7,false,.phi false [.p]),(6,true,.phi true [.k,.k,.k,.k,.k,.o true,.k,.k])]),
 ((261,2,36),[(6,true,.phi true [.k,.k,.k,.k,.k,.o true,.k,.k])]),
 ((262,0,0),[(7,false,.phi false [.o false]),(14,false,.phi false [.p])]),
 ((262,0,2),[(7,false,.phi false [.o false]),(34,false,.phi false [.p])]),
 ((262,2,26),[(7,false,.phi false [.o false])]),
 ((203,0,0),[(3,false,.phi false [.o true]),(22,false,.phi false [.p]),(19,false,.rows [(0,false)])]),
 ((203,0,2),[(3,false,.phi false [.o true]),(48,false,.phi false [.p])]),
 ((203,0,4),[(3,false,.phi false [.o true]),(59,false,.phi false [.p]),(57,false,.rows [(0,false)])]),
 ((203,0,6),[(3,false,.phi false [.o true]),(72,false,.phi false [.p])]),
 ((203,2,39),[(3,false,.phi false [.o true]),(19,false,.phi false [.p]),(4,false,.phi false [.p]),(20,false,.phi false [.p])]),
 ((203,2,80),[(3,false,.phi false [.o true])]),
 ((205,0,0),[(4,false,.phi false [.p]),(36,false,.phi false [.p])]),
 ((206,2,12),[(5,false,.phi false [.p])]),
 ((207,2,8),[(3,true,.phi true [.k,.k,.k,.k,.k,.k,.p,.k])]),
 ((115,0,0),[(3,false,.phi false [.o true]),(15,false,.phi false [.p]),(12,false,.rows [(0,false)])]),
 ((115,0,2),[(3,false,.phi false [.o true]),(46,false,.phi false [.p])]),
 ((115,2,34),[(3,false,.phi false [.o true]),(6,true,.phi true [.k,.k,.k,.k,.p,.k,.k,.k])]),
 ((115,2,66),[(3,false,.phi false [.o true]),(10,true,.phi true [.k,.k,.k,.k,.p,.k,.k,.k])]),
 ((33,0,0),[(3,false,.phi false [.o true]),(6,false,.phi false [.o true]),(22,false,.phi false [.p])]),
 ((212,0,0),[(1,false,.phi false [.p]),(4,false,.phi false [.p]),(5,false,.phi false [.p])]),
 ((213,0,0),[(1,false,.phi false [.p]),(4,false,.phi false [.p]),(5,false,.phi false [.p])]),
 ((121,0,0),[(1,false,.phi false [.p]),(4,false,.phi false [.p]),(5,false,.phi false [.p])]),
 ((39,0,0),[(1,false,.phi false [.p]),(4,false,.phi false [.p]),(5,false,.phi false [.p])])]
def lfz:List (Nat × Nat × Nat):=[]
def aRn_:List Nat:=[89,90,20,70,119,37,36,96,29,22,4,21,3,7,33,5,6]
noncomputable def lfn:List (Nat × Func):=[(148,Tryz.f148),(288,Tryz.f288),(255,Tryz.f255),(89,Tryz.f89),(90,Tryz.f90),(20,Tryz.f20),(70,Tryz.f70),(119,Tryz.f119),(37,Tryz.f37),(36,Tryz.f36),(96,Tryz.f96),(29,Tryz.f29),(22,Tryz.f22),(287,Tryz.f287),(21,Tryz.f21)]
noncomputable def cx:Cx:={ ty:=tiOf lty,sg:=fun _=>none,fn:=fnOf lfn,hint:=aHs_ aRs_,fz:=fzOf lfz,nest:=memN aRn_ }
theorem aKp_:FnIn Tryz.prog 148:=.mk Tryz.func148 (by kernel_rfl) (by kernel_rfl)
theorem azu_:FnIn Tryz.prog 288:=.mk Tryz.func288 (by kernel_rfl) (by kernel_rfl)
theorem aJ4_:FnIn Tryz.prog 255:=.mk Tryz.func255 (by kernel_rfl) (by kernel_rfl)
theorem ayq_:FnIn Tryz.prog 89:=.mk Tryz.func89 (by kernel_rfl) (by kernel_rfl)
theorem asx_:FnIn Tryz.prog 90:=.mk Tryz.func90 (by kernel_rfl) (by kernel_rfl)
theorem aG2_:FnIn Tryz.prog 20:=.mk Tryz.func20 (by kernel_rfl) (by kernel_rfl)
theorem aAi_:FnIn Tryz.prog 70:=.mk Tryz.func70 (by kernel_rfl) (by kernel_rfl)
theorem avr_:FnIn Tryz.prog 119:=.mk Tryz.func119 (by kernel_rfl) (by kernel_rfl)
theorem aqu_:FnIn Tryz.prog 37:=.mk Tryz.func37 (by kernel_rfl) (by kernel_rfl)
theorem aAa_:FnIn Tryz.prog 36:=.mk Tryz.func36 (by kernel_rfl) (by kernel_rfl)
theorem azl_:FnIn Tryz.prog 96:=.mk Tryz.func96 (by kernel_rfl) (by kernel_rfl)
theorem aBk_:FnIn Tryz.prog 29:=.mk Tryz.func29 (by kernel_rfl) (by kernel_rfl)
theorem asw_:FnIn Tryz.prog 22:=.mk Tryz.func22 (by kernel_rfl) (by kernel_rfl)
theorem ato_:FnIn Tryz.prog 287:=.mk Tryz.func287 (by kernel_rfl) (by kernel_rfl)
theorem ax8_:FnIn Tryz.prog 21:=.mk Tryz.func21 (by kernel_rfl) (by kernel_rfl)
theorem seat:Seat Tryz.prog cx:=⟨aRg_ (l:=lty) (by kernel_rfl) rfl,aOp_ (l:=lfn) (fc ⟨⟨Tryz.func148,aKp_⟩,fc ⟨⟨Tryz.func288,azu_⟩,fc ⟨⟨Tryz.func255,aJ4_⟩,fc ⟨⟨Tryz.func89,ayq_⟩,fc ⟨⟨Tryz.func90,asx_⟩,fc ⟨⟨Tryz.func20,aG2_⟩,fc ⟨⟨Tryz.func70,aAi_⟩,fc ⟨⟨Tryz.func119,avr_⟩,fc ⟨⟨Tryz.func37,aqu_⟩,fc ⟨⟨Tryz.func36,aAa_⟩,fc ⟨⟨Tryz.func96,azl_⟩,fc ⟨⟨Tryz.func29,aBk_⟩,fc ⟨⟨Tryz.func22,asw_⟩,fc ⟨⟨Tryz.func287,ato_⟩,fc ⟨⟨Tryz.func21,ax8_⟩,f0⟩⟩⟩⟩⟩⟩⟩⟩⟩⟩⟩⟩⟩⟩⟩) rfl,by kernel_rfl⟩
noncomputable def aKm_:=Kok.mk2 seat 72 ⟨[.v false 1,.v false 1],[(false,[.s])]⟩ p_szLinkS adl_ [] Tryz.func72 (by kernel_rfl) (by kernel_rfl) (by kernel_rfl)
noncomputable def aG1_:=Kok.mk2 seat 73 ⟨[.v false 1,.v false 1],[(false,[.s])]⟩ p_szThingS aa2_ [] Tryz.func73 (by kernel_rfl) (by kernel_rfl) (by kernel_rfl)
noncomputable def aPe_:=Kok.mk2 seat 12 ⟨[.v true 3,.v false 1],[(false,[.s])]⟩ p_szNet kB_ [aKm_,aG1_] Tryz.func12 (by kernel_rfl) (by kernel_rfl) (by kernel_rfl)
noncomputable def aMn_:=Kok.mk2 seat 97 ⟨[.v false 1,.v false 1],[(false,[.s])]⟩ p_szIntS ai0_ [] Tryz.func97 (by kernel_rfl) (by kernel_rfl) (by kernel_rfl)
noncomputable def aI4_:=Kok.mk2 seat 258 ⟨[.v false 1,.v false 1],[(false,[.s])]⟩ p_szNearS adh_ [] Tryz.func258 (by kernel_rfl) (by kernel_rfl) (by kernel_rfl)
noncomputable def aGe_:=Kok.mk2 seat 194 ⟨[.v true 8,.v false 1],[(false,[.s])]⟩ p_szRecord kg_ [aI4_] Tryz.func194 (by kernel_rfl) (by kernel_rfl) (by kernel_rfl)
noncomputable def azj_:=Kok.mk2 seat 98 ⟨[.v false 1,.v false 1],[(false,[.s])]⟩ p_szRecordS k5_ [aGe_] Tryz.func98 (by kernel_rfl) (by kernel_rfl) (by kernel_rfl)
noncomputable def aMq_:=Kok.mk2 seat 30 ⟨[.v true 7,.v false 1],[(false,[.s])]⟩ p_szSelf qy_ [aPe_,aMn_,azj_] Tryz.func30 (by kernel_rfl) (by kernel_rfl) (by kernel_rfl)
noncomputable def aNg_:=Kok.mk2 seat 179 ⟨[.v true 4],[(true,[.s,.s,.s,.s])]⟩ p_toLink ahx_ [] Tryz.func179 (by kernel_rfl) (by kernel_rfl) (by kernel_rfl)
noncomputable def aK2_:=Kok.mk2 seat 79 ⟨[.v false 1],[(false,[.o true])]⟩ p_toLinkS ad3_ [aNg_] Tryz.func79 (by kernel_rfl) (by kernel_rfl) (by kernel_rfl)
noncomputable def aJp_:=Kok.mk2 seat 180 ⟨[.v true 4],[(true,[.s,.s,.s,.s])]⟩ p_toThing ac7_ [] Tryz.func180 (by kernel_rfl) (by kernel_rfl) (by kernel_rfl)
noncomputable def aGj_:=Kok.mk2 seat 80 ⟨[.v false 1],[(false,[.o true])]⟩ p_toThingS aa3_ [aJp_] Tryz.func80 (by kernel_rfl) (by kernel_rfl) (by kernel_rfl)
noncomputable def aP9_:=Kok.mk2 seat 14 ⟨[.v true 3],[(true,[.s,.o true,.o true])]⟩ p_toNet ae6_ [aK2_,aGj_] Tryz.func14 (by kernel_rfl) (by kernel_rfl) (by kernel_rfl)
noncomputable def aNp_:=Kok.mk2 seat 111 ⟨[.v false 1],[(false,[.o true])]⟩ p_toIntS ahm_ [] Tryz.func111 (by kernel_rfl) (by kernel_rfl) (by kernel_rfl)
noncomputable def aNj_:=Kok.mk2 seat 290 ⟨[.v true 2],[(true,[.s,.s])]⟩ p_toNear ag0_ [] Tryz.func290 (by kernel_rfl) (by kernel_rfl) (by kernel_rfl)
noncomputable def aH0_:=Kok.mk2 seat 259 ⟨[.v false 1],[(false,[.o true])]⟩ p_toNearS adq_ [aNj_] Tryz.func259 (by kernel_rfl) (by kernel_rfl) (by kernel_rfl)
noncomputable def aEl_:=Kok.mk2 seat 200 ⟨[.v true 8],[(true,[.s,.s,.s,.s,.s,.o true,.s,.s])]⟩ p_toRecord abc_ [aH0_] Tryz.func200 (by kernel_rfl) (by kernel_rfl) (by kernel_rfl)
noncomputable def azz_:=Kok.mk2 seat 112 ⟨[.v false 1],[(false,[.o true])]⟩ p_toRecordS k4_ [aEl_] Tryz.func112 (by kernel_rfl) (by kernel_rfl) (by kernel_rfl)
noncomputable def aMv_:=Kok.mk2 seat 32 ⟨[.v true 7],[(true,[.s,.s,.s,.o true,.o true,.o true,.o true])]⟩ p_toSelf ab7_ [aP9_,aNp_,azz_] Tryz.func32 (by kernel_rfl) (by kernel_rfl) (by kernel_rfl)
noncomputable def qm_:=Kok.mk2 seat 75 ⟨[.v false 1,.v false 1,.v false 1],[(false,[.s])]⟩ p_s_l01In z8_ [] Tryz.func75 (by kernel_rfl) (by kernel_rfl) (by kernel_rfl)
noncomputable def aEg_:=Kok.mk2 seat 215 ⟨[.v false 1,.v true 4],[(false,[.s])]⟩ p_s_LinkOk qR_ [qm_] Tryz.func215 (by kernel_rfl) (by kernel_rfl) (by kernel_rfl)
noncomputable def avc_:=Kok.mk2 seat 216 ⟨[.v true 4,.v true 4],[(false,[.s])]⟩ p_s_l03Ahead ua_ [] Tryz.func216 (by kernel_rfl) (by kernel_rfl) (by kernel_rfl)
noncomputable def auu_:=Kok.mk2 seat 217 ⟨[.v true 4,.v true 4],[(false,[.s])]⟩ p_s_l03Thing uj_ [] Tryz.func217 (by kernel_rfl) (by kernel_rfl) (by kernel_rfl)
noncomputable def aJb_:=Kok.mk2 seat 135 ⟨[.v true 3],[(false,[.s])]⟩ p_s_NetOk jY_ [qm_,aEg_,avc_,auu_] Tryz.func135 (by kernel_rfl) (by kernel_rfl) (by kernel_rfl)
noncomputable def ahy_:=Kok.mk2 seat 122 ⟨[.v true 3,.v false 1,.v false 1,.v false 1],[(false,[.s])]⟩ p_s_CostTo xq_ [] Tryz.func122 (by kernel_rfl) (by kernel_rfl) (by kernel_rfl)
noncomputable def ayi_:=Kok.mk2 seat 195 ⟨[.v true 7],[(false,[.s])]⟩ p_s_l08Heard v3_ [ahy_] Tryz.func195 (by kernel_rfl) (by kernel_rfl) (by kernel_rfl)
noncomputable def az8_:=Kok.mk2 seat 286 ⟨[.v true 8],[(false,[.s])]⟩ p_s_l04Near uX_ [qm_] Tryz.func286 (by kernel_rfl) (by kernel_rfl) (by kernel_rfl)
noncomputable def auw_:=Kok.mk2 seat 249 ⟨[.v true 8],[(false,[.s])]⟩ p_s_RecordOk uk_ [qm_,az8_] Tryz.func249 (by kernel_rfl) (by kernel_rfl) (by kernel_rfl)
noncomputable def ap8_:=Kok.mk2 seat 199 ⟨[.v true 8,.v true 8],[(false,[.s])]⟩ p_s_Before wZ_ [] Tryz.func199 (by kernel_rfl) (by kernel_rfl) (by kernel_rfl)
noncomputable def k1_:=Kok.mk2 seat 176 ⟨[.v false 1],[(false,[.s])]⟩ p_s_StoreOk yD_ [ap8_,auw_] Tryz.func176 (by kernel_rfl) (by kernel_rfl) (by kernel_rfl)
noncomputable def aon_:=Kok.mk2 seat 99 ⟨[.v true 7],[(false,[.s])]⟩ p_s_SelfOk x9_ [qm_,aJb_,k1_,ayi_] Tryz.func99 (by kernel_rfl) (by kernel_rfl) (by kernel_rfl)
noncomputable def aGr_:=Kok.mk2 seat 178 ⟨[.v true 3,.v false 1,.v false 1],[(false,[.p])]⟩ p_s_NextTo qN_ [ahy_] Tryz.func178 (by kernel_rfl) (by kernel_rfl) (by kernel_rfl)
noncomputable def amq_:=Kok.mk2 seat 77 ⟨[.v true 3,.v false 1],[(false,[.p])]⟩ p_s_AreasOf xS_ [aGr_] Tryz.func77 (by kernel_rfl) (by kernel_rfl) (by kernel_rfl)
noncomputable def aFm_:=Kok.mk2 seat 78 ⟨[.v true 3,.v false 1],[(false,[.s])]⟩ p_s_Border wX_ [amq_] Tryz.func78 (by kernel_rfl) (by kernel_rfl) (by kernel_rfl)
noncomputable def al6_:=Kok.mk2 seat 198 ⟨[.v true 8,.v true 8],[(false,[.s])]⟩ p_s_SameKey wJ_ [] Tryz.func198 (by kernel_rfl) (by kernel_rfl) (by kernel_rfl)
noncomputable def ak7_:=Kok.mk2 seat 106 ⟨[.v false 1,.v true 8],[(false,[.s])]⟩ p_s_l05At wB_ [al6_] Tryz.func106 (by kernel_rfl) (by kernel_rfl) (by kernel_rfl)
noncomputable def ae2_:=Kok.mk2 seat 282 ⟨[.v false 1,.v false 1,.v false 1],[(true,[.s,.s,.s,.s,.s,.p,.s,.s]),(false,[.s])]⟩ p_s_l06Node xB_ [ak7_] Tryz.func282 (by kernel_rfl) (by kernel_rfl) (by kernel_rfl)
noncomputable def ax4_:=Kok.mk2 seat 307 ⟨[.v false 1,.v false 1,.v false 1,.v false 1],[(false,[.s])]⟩ p_s_l06Tells v8_ [ae2_] Tryz.func307 (by kernel_rfl) (by kernel_rfl) (by kernel_rfl)
noncomputable def auq_:=Kok.mk2 seat 283 ⟨[.v false 1,.v false 1],[(false,[.p])]⟩ p_s_l06Links v9_ [qm_,ae2_,ax4_] Tryz.func283 (by kernel_rfl) (by kernel_rfl) (by kernel_rfl)
noncomputable def aIv_:=Kok.mk2 seat 153 ⟨[.v false 1,.v false 1],[(false,[.s])]⟩ p_s_l03In jR_ [] Tryz.func153 (by kernel_rfl) (by kernel_rfl) (by kernel_rfl)
noncomputable def apb_:=Kok.mk2 seat 251 ⟨[.v false 1,.v false 1],[(false,[.p])]⟩ p_s_l06Add yp_ [aIv_] Tryz.func251 (by kernel_rfl) (by kernel_rfl) (by kernel_rfl)
noncomputable def ah7_:=Kok.mk2 seat 245 ⟨[.v false 1,.v false 1,.v false 1],[(false,[.p])]⟩ p_s_WaysIn wa_ [qm_,k1_,apb_,ae2_,auq_] Tryz.func245 (by kernel_rfl) (by kernel_rfl) (by kernel_rfl)
noncomputable def amu_:=Kok.mk2 seat 284 ⟨[.v true 3],[(true,[.s,.s,.p])]⟩ p_s_l06Copy wM_ [] Tryz.func284 (by kernel_rfl) (by kernel_rfl) (by kernel_rfl)
noncomputable def adm_:=Kok.mk2 seat 246 ⟨[.v false 1,.v false 1],[(true,[.s,.s,.p]),(false,[.s])]⟩ p_s_WayTo y2_ [amu_] Tryz.func246 (by kernel_rfl) (by kernel_rfl) (by kernel_rfl)
noncomputable def aD3_:=Kok.mk2 seat 285 ⟨[.v true 3,.v true 3],[(false,[.s])]⟩ p_s_Better qD_ [] Tryz.func285 (by kernel_rfl) (by kernel_rfl) (by kernel_rfl)
noncomputable def ajq_:=Kok.mk2 seat 247 ⟨[.v true 3,.v true 3],[(true,[.s,.s,.p])]⟩ p_s_Together wu_ [apb_,amu_,aD3_] Tryz.func247 (by kernel_rfl) (by kernel_rfl) (by kernel_rfl)
noncomputable def acc_:=Kok.mk2 seat 174 ⟨[.v false 1,.v false 1,.v false 1],[(false,[.p])]⟩ p_s_RoutesWithin yI_ [ah7_,adm_,ajq_] Tryz.func174 (by kernel_rfl) (by kernel_rfl) (by kernel_rfl)
noncomputable def as9_:=Kok.mk2 seat 248 ⟨[.v false 1,.v false 1,.v false 1,.v false 1,.v false 1,.v true 3,.v false 1],[(true,[.s,.s,.p]),(false,[.s])]⟩ p_s_l07Beyond vr_ [adm_,ajq_] Tryz.func248 (by kernel_rfl) (by kernel_rfl) (by kernel_rfl)
noncomputable def anl_:=Kok.mk2 seat 175 ⟨[.v false 1,.v false 1,.v false 1,.v false 1],[(false,[.p])]⟩ p_s_RoutesBeyond xr_ [acc_,k1_,ah7_,adm_,as9_] Tryz.func175 (by kernel_rfl) (by kernel_rfl) (by kernel_rfl)
noncomputable def afq_:=Kok.mk2 seat 82 ⟨[.v false 1,.v false 1,.v false 1],[(false,[.s])]⟩ p_i_in xI_ [] Tryz.func82 (by kernel_rfl) (by kernel_rfl) (by kernel_rfl)
noncomputable def aEt_:=Kok.mk2 seat 218 ⟨[.v false 1,.v true 4],[(false,[.s])]⟩ p_i_LinkOk qQ_ [afq_] Tryz.func218 (by kernel_rfl) (by kernel_rfl) (by kernel_rfl)
noncomputable def aK4_:=Kok.mk2 seat 219 ⟨[.v true 4,.v true 4],[(false,[.s])]⟩ p_i_ahead jK_ [] Tryz.func219 (by kernel_rfl) (by kernel_rfl) (by kernel_rfl)
noncomputable def aLz_:=Kok.mk2 seat 220 ⟨[.v true 4,.v true 4],[(false,[.s])]⟩ p_i_less kL_ [] Tryz.func220 (by kernel_rfl) (by kernel_rfl) (by kernel_rfl)
noncomputable def aIz_:=Kok.mk2 seat 138 ⟨[.v true 3],[(false,[.s])]⟩ p_i_NetOk jX_ [afq_,aEt_,aK4_,aLz_] Tryz.func138 (by kernel_rfl) (by kernel_rfl) (by kernel_rfl)
noncomputable def ao9_:=Kok.mk2 seat 214 ⟨[.v true 3,.v false 1,.v false 1,.v false 1],[(false,[.s])]⟩ p_i_linkAt wh_ [] Tryz.func214 (by kernel_rfl) (by kernel_rfl) (by kernel_rfl)
noncomputable def azm_:=Kok.mk2 seat 201 ⟨[.v true 7],[(false,[.s])]⟩ p_i_heardOk uZ_ [ao9_] Tryz.func201 (by kernel_rfl) (by kernel_rfl) (by kernel_rfl)
noncomputable def aDh_:=Kok.mk2 seat 291 ⟨[.v true 8],[(false,[.s])]⟩ p_i_nearOk qA_ [afq_] Tryz.func291 (by kernel_rfl) (by kernel_rfl) (by kernel_rfl)
noncomputable def ayo_:=Kok.mk2 seat 260 ⟨[.v true 8],[(false,[.s])]⟩ p_i_RecordOk vY_ [afq_,aDh_] Tryz.func260 (by kernel_rfl) (by kernel_rfl) (by kernel_rfl)
noncomputable def aph_:=Kok.mk2 seat 209 ⟨[.v true 8,.v true 8],[(false,[.s])]⟩ p_i_Before wW_ [] Tryz.func209 (by kernel_rfl) (by kernel_rfl) (by kernel_rfl)
noncomputable def aml_:=Kok.mk2 seat 202 ⟨[.v false 1],[(false,[.s])]⟩ p_i_StoreOk wL_ [aph_,ayo_] Tryz.func202 (by kernel_rfl) (by kernel_rfl) (by kernel_rfl)
noncomputable def ap3_:=Kok.mk2 seat 114 ⟨[.v true 7],[(false,[.s])]⟩ p_i_SelfOk wb_ [afq_,aIz_,azm_,aml_] Tryz.func114 (by kernel_rfl) (by kernel_rfl) (by kernel_rfl)
noncomputable def qk_:=Kok.mk2 seat 185 ⟨[.v false 1],[(false,[.o true])]⟩ p_i_copyInts zO_ [] Tryz.func185 (by kernel_rfl) (by kernel_rfl) (by kernel_rfl)
noncomputable def aeo_:=Kok.mk2 seat 84 ⟨[.v true 3,.v false 1],[(false,[.o true])]⟩ p_i_AreasOf y7_ [qk_] Tryz.func84 (by kernel_rfl) (by kernel_rfl) (by kernel_rfl)
noncomputable def agj_:=Kok.mk2 seat 187 ⟨[.v false 1,.v false 1],[(false,[.s])]⟩ p_i_hasInt wf_ [] Tryz.func187 (by kernel_rfl) (by kernel_rfl) (by kernel_rfl)
noncomputable def aEm_:=Kok.mk2 seat 85 ⟨[.v true 3,.v false 1],[(false,[.s])]⟩ p_i_Border w5_ [aeo_,agj_] Tryz.func85 (by kernel_rfl) (by kernel_rfl) (by kernel_rfl)
noncomputable def ad7_:=Kok.mk2 seat 210 ⟨[.v true 8,.v true 8],[(false,[.s])]⟩ p_i_SameKey xT_ [] Tryz.func210 (by kernel_rfl) (by kernel_rfl) (by kernel_rfl)
noncomputable def aai_:=Kok.mk2 seat 204 ⟨[.v false 1,.v true 8],[(false,[.s])]⟩ p_i_keyAt xa_ [ad7_] Tryz.func204 (by kernel_rfl) (by kernel_rfl) (by kernel_rfl)
noncomputable def aNl_:=Kok.mk2 seat 313 ⟨[.v false 1,.v false 1,.v false 1,.v false 1],[(false,[.s])]⟩ p_i_told ky_ [aai_] Tryz.func313 (by kernel_rfl) (by kernel_rfl) (by kernel_rfl)
noncomputable def aDl_:=Kok.mk2 seat 308 ⟨[.v false 1,.v false 1,.v false 1,.v false 1],[(false,[.s])]⟩ p_i_Linked qB_ [aNl_] Tryz.func308 (by kernel_rfl) (by kernel_rfl) (by kernel_rfl)
noncomputable def kW_:=Kok.mk2 seat 289 ⟨[.v true 3],[(true,[.s,.s,.o true])]⟩ p_i_copyWay yB_ [qk_] Tryz.func289 (by kernel_rfl) (by kernel_rfl) (by kernel_rfl)
noncomputable def ace_:=Kok.mk2 seat 257 ⟨[.v true 3,.v true 3],[(true,[.s,.s,.o true])]⟩ p_i_Together z1_ [qk_,kW_] Tryz.func257 (by kernel_rfl) (by kernel_rfl) (by kernel_rfl)
noncomputable def aiz_:=Kok.mk2 seat 254 ⟨[.v false 1,.v false 1,.v false 1],[(false,[.o false])]⟩ p_i_WaysIn wg_ [afq_,qk_,agj_,aml_,aai_,ace_,aDl_] Tryz.func254 (by kernel_rfl) (by kernel_rfl) (by kernel_rfl)
noncomputable def ab3_:=Kok.mk2 seat 183 ⟨[.v false 1,.v false 1,.v false 1],[(false,[.o false])]⟩ p_i_RoutesWithin yG_ [aiz_,ace_,kW_] Tryz.func183 (by kernel_rfl) (by kernel_rfl) (by kernel_rfl)
noncomputable def aso_:=Kok.mk2 seat 256 ⟨[.v false 1,.v false 1],[(true,[.s,.s,.o true]),(false,[.s])]⟩ p_i_WayTo wk_ [kW_] Tryz.func256 (by kernel_rfl) (by kernel_rfl) (by kernel_rfl)
noncomputable def anp_:=Kok.mk2 seat 184 ⟨[.v false 1,.v false 1,.v false 1,.v false 1],[(false,[.o false])]⟩ p_i_RoutesBeyond xt_ [ab3_,agj_,aiz_,aso_,ace_,kW_] Tryz.func184 (by kernel_rfl) (by kernel_rfl) (by kernel_rfl)
noncomputable def aNw_:=Kok.mk2 seat 67 ⟨[.v false 1,.v false 1],[(false,[.s])]⟩ p_eqIntS ai1_ [] Tryz.func67 (by kernel_rfl) (by kernel_rfl) (by kernel_rfl)
noncomputable def aMw_:=Kok.mk2 seat 188 ⟨[.v true 4,.v true 4],[(false,[.s])]⟩ p_eqLink ai3_ [] Tryz.func188 (by kernel_rfl) (by kernel_rfl) (by kernel_rfl)
noncomputable def aIl_:=Kok.mk2 seat 87 ⟨[.v false 1,.v false 1],[(false,[.s])]⟩ p_eqLinkS adj_ [aMw_] Tryz.func87 (by kernel_rfl) (by kernel_rfl) (by kernel_rfl)
noncomputable def aKr_:=Kok.mk2 seat 189 ⟨[.v true 4,.v true 4],[(false,[.s])]⟩ p_eqThing adw_ [] Tryz.func189 (by kernel_rfl) (by kernel_rfl) (by kernel_rfl)
noncomputable def aEi_:=Kok.mk2 seat 88 ⟨[.v false 1,.v false 1],[(false,[.s])]⟩ p_eqThingS abe_ [aKr_] Tryz.func88 (by kernel_rfl) (by kernel_rfl) (by kernel_rfl)
noncomputable def aQb_:=Kok.mk2 seat 18 ⟨[.v true 3,.v true 3],[(false,[.s])]⟩ p_eqNet afz_ [aIl_,aEi_] Tryz.func18 (by kernel_rfl) (by kernel_rfl) (by kernel_rfl)
noncomputable def aNt_:=Kok.mk2 seat 263 ⟨[.v true 2,.v true 2],[(false,[.s])]⟩ p_eqNear agb_ [] Tryz.func263 (by kernel_rfl) (by kernel_rfl) (by kernel_rfl)
noncomputable def aJi_:=Kok.mk2 seat 211 ⟨[.v false 1,.v false 1],[(false,[.s])]⟩ p_eqNearS adi_ [aNt_] Tryz.func211 (by kernel_rfl) (by kernel_rfl) (by kernel_rfl)
noncomputable def aFo_:=Kok.mk2 seat 118 ⟨[.v true 8,.v true 8],[(false,[.s])]⟩ p_eqRecord aa4_ [aJi_] Tryz.func118 (by kernel_rfl) (by kernel_rfl) (by kernel_rfl)
noncomputable def ami_:=Kok.mk2 seat 35 ⟨[.v false 1,.v false 1],[(false,[.s])]⟩ p_eqRecordS u3_ [aFo_] Tryz.func35 (by kernel_rfl) (by kernel_rfl) (by kernel_rfl)
noncomputable def aLv_:=Kok.mk2 seat 34 ⟨[.v true 7,.v true 7],[(false,[.s])]⟩ p_eqSelf abw_ [aQb_,ami_,aNw_] Tryz.func34 (by kernel_rfl) (by kernel_rfl) (by kernel_rfl)
noncomputable def aF3_:=Kok.mk2 seat 71 ⟨[.v false 1,.v false 1],[(false,[.s])]⟩ p_heldIntS aa5_ [] Tryz.func71 (by kernel_rfl) (by kernel_rfl) (by kernel_rfl)
noncomputable def ah3_:=Kok.mk2 seat 105 ⟨[.v false 1,.v true 8],[(false,[.p])]⟩ p_s_l05Put xX_ [ap8_] Tryz.func105 (by kernel_rfl) (by kernel_rfl) (by kernel_rfl)
noncomputable def aGi_:=Kok.mk2 seat 197 ⟨[.v false 1,.v false 1,.v false 1,.v false 1],[(false,[.p])]⟩ p_s_Beyond q4_ [acc_,anl_,k1_,ah7_,adm_] Tryz.func197 (by kernel_rfl) (by kernel_rfl) (by kernel_rfl)
noncomputable def amm_:=Kok.mk2 seat 110 ⟨[.v false 1,.v false 1],[(false,[.p])]⟩ p_s_l08With wI_ [ah3_] Tryz.func110 (by kernel_rfl) (by kernel_rfl) (by kernel_rfl)
noncomputable def aei_:=Kok.mk2 seat 108 ⟨[.v true 8],[(true,[.s,.s,.s,.s,.s,.o true,.s,.s])]⟩ p_s_l04Copy xV_ [] Tryz.func108 (by kernel_rfl) (by kernel_rfl) (by kernel_rfl)
noncomputable def kj_:=Kok.mk2 seat 109 ⟨[.v false 1],[(false,[.o true])]⟩ p_s_l04CopyList yA_ [aei_] Tryz.func109 (by kernel_rfl) (by kernel_rfl) (by kernel_rfl)
noncomputable def afu_:=Kok.mk2 seat 208 ⟨[.v true 8],[(true,[.s,.s,.s,.s,.s,.o true,.s,.s])]⟩ p_i_copyRecord x2_ [] Tryz.func208 (by kernel_rfl) (by kernel_rfl) (by kernel_rfl)
noncomputable def j8_:=Kok.mk2 seat 116 ⟨[.v false 1],[(false,[.o true])]⟩ p_i_copyRecords yS_ [afu_] Tryz.func116 (by kernel_rfl) (by kernel_rfl) (by kernel_rfl)
noncomputable def aft_:=Kok.mk2 seat 117 ⟨[.v false 1,.v true 8],[(false,[.o true])]⟩ p_i_put x0_ [j8_,afu_,aph_,ad7_] Tryz.func117 (by kernel_rfl) (by kernel_rfl) (by kernel_rfl)
noncomputable def aDn_:=Kok.mk2 seat 253 ⟨[.v false 1,.v false 1,.v false 1,.v false 1],[(false,[.o true])]⟩ p_i_Beyond qV_ [aft_,ab3_,anp_,aai_,aiz_,aso_] Tryz.func253 (by kernel_rfl) (by kernel_rfl) (by kernel_rfl)
noncomputable def ay1_:=Kok.mk2 seat 100 ⟨[.v true 7],[(true,[.s,.s,.s,.o true,.o true,.o true,.o true])]⟩ p_s_l08Copy uU_ [kj_] Tryz.func100 (by kernel_rfl) (by kernel_rfl) (by kernel_rfl)
noncomputable def az0_:=Kok.mk2 seat 196 ⟨[.v true 7,.v false 1],[(true,[.s,.s,.s,.s,.s,.p,.s,.s])]⟩ p_s_l08Node uY_ [ahy_] Tryz.func196 (by kernel_rfl) (by kernel_rfl) (by kernel_rfl)
noncomputable def aEz_:=Kok.mk2 seat 101 ⟨[.v true 7],[(false,[.p])]⟩ p_s_Wanted qT_ [amq_,aFm_,aon_,ah3_,kj_,amm_,az0_,aGi_] Tryz.func101 (by kernel_rfl) (by kernel_rfl) (by kernel_rfl)
noncomputable def aNk_:=Kok.mk2 seat 102 ⟨[.v false 1,.v true 8],[(true,[.s,.s,.s,.s,.s,.o true,.s,.s]),(false,[.s])]⟩ p_s_Find kJ_ [ak7_,aei_] Tryz.func102 (by kernel_rfl) (by kernel_rfl) (by kernel_rfl)
noncomputable def avp_:=Kok.mk2 seat 103 ⟨[.v true 8,.v true 8],[(false,[.s])]⟩ p_s_SameBody v2_ [al6_] Tryz.func103 (by kernel_rfl) (by kernel_rfl) (by kernel_rfl)
noncomputable def aE6_:=Kok.mk2 seat 104 ⟨[.v true 7,.v false 1],[(false,[.s])]⟩ p_s_l08Seq q7_ [] Tryz.func104 (by kernel_rfl) (by kernel_rfl) (by kernel_rfl)
noncomputable def aA3_:=Kok.mk2 seat 107 ⟨[.v true 8],[(true,[.s,.s,.s,.s,.s,.p,.s,.s])]⟩ p_s_l08Bare u2_ [] Tryz.func107 (by kernel_rfl) (by kernel_rfl) (by kernel_rfl)
noncomputable def aKb_:=Kok.mk2 seat 31 ⟨[.v true 7],[(true,[.s,.s,.s,.o true,.o true,.o true,.o true]),(false,[.o true])]⟩ p_s_Renew aae_ [aon_,ay1_,aEz_,aNk_,avp_,aE6_,ah3_,ak7_,aA3_,aei_,kj_,amm_] Tryz.func31 (by kernel_rfl) (by kernel_rfl) (by kernel_rfl)
noncomputable def aAr_:=Kok.mk2 seat 123 ⟨[.v true 3],[(true,[.s,.o true,.o true])]⟩ p_i_copyNet u0_ [] Tryz.func123 (by kernel_rfl) (by kernel_rfl) (by kernel_rfl)
noncomputable def avf_:=Kok.mk2 seat 113 ⟨[.v true 7],[(true,[.s,.s,.s,.o true,.o true,.o true,.o true])]⟩ p_i_copySelf v5_ [j8_,aAr_,qk_] Tryz.func113 (by kernel_rfl) (by kernel_rfl) (by kernel_rfl)
noncomputable def aFl_:=Kok.mk2 seat 292 ⟨[.v true 3,.v false 1,.v false 1,.v false 1],[(false,[.s])]⟩ p_i_CostTo qz_ [ao9_] Tryz.func292 (by kernel_rfl) (by kernel_rfl) (by kernel_rfl)
noncomputable def aOm_:=Kok.mk2 seat 261 ⟨[.v true 7],[(false,[.o true])]⟩ p_i_own abl_ [aeo_,aFl_] Tryz.func261 (by kernel_rfl) (by kernel_rfl) (by kernel_rfl)
noncomputable def aQh_:=Kok.mk2 seat 262 ⟨[.v false 1,.v false 1,.v false 1],[(false,[.o false])]⟩ p_i_by afk_ [aft_] Tryz.func262 (by kernel_rfl) (by kernel_rfl) (by kernel_rfl)
noncomputable def aEa_:=Kok.mk2 seat 203 ⟨[.v true 7],[(false,[.o true])]⟩ p_i_Wanted uH_ [aeo_,aEm_,ap3_,aft_,aDn_,aOm_,aQh_] Tryz.func203 (by kernel_rfl) (by kernel_rfl) (by kernel_rfl)
noncomputable def avt_:=Kok.mk2 seat 205 ⟨[.v true 8,.v true 8],[(false,[.s])]⟩ p_i_SameBody un_ [ad7_] Tryz.func205 (by kernel_rfl) (by kernel_rfl) (by kernel_rfl)
noncomputable def aJs_:=Kok.mk2 seat 206 ⟨[.v true 7,.v true 8],[(false,[.s])]⟩ p_i_seqOf jW_ [aai_] Tryz.func206 (by kernel_rfl) (by kernel_rfl) (by kernel_rfl)
noncomputable def aL4_:=Kok.mk2 seat 207 ⟨[.v true 8],[(true,[.s,.s,.s,.s,.s,.o true,.s,.s])]⟩ p_i_gone kG_ [] Tryz.func207 (by kernel_rfl) (by kernel_rfl) (by kernel_rfl)
noncomputable def aIf_:=Kok.mk2 seat 115 ⟨[.v true 7],[(false,[.o true])]⟩ p_i_fresh jT_ [aft_,aEa_,aai_,avt_,aJs_,aL4_] Tryz.func115 (by kernel_rfl) (by kernel_rfl) (by kernel_rfl)
noncomputable def aIh_:=Kok.mk2 seat 33 ⟨[.v true 7],[(true,[.s,.s,.s,.o true,.o true,.o true,.o true]),(false,[.o true])]⟩ p_i_Renew aaa_ [avf_,ap3_,aIf_,j8_,aft_] Tryz.func33 (by kernel_rfl) (by kernel_rfl) (by kernel_rfl)
noncomputable def aA7_:=Kok.mk2 seat 212 ⟨[.v false 1,.v false 1],[(false,[.s])]⟩ p_heldLinkS kZ_ [] Tryz.func212 (by kernel_rfl) (by kernel_rfl) (by kernel_rfl)
noncomputable def aue_:=Kok.mk2 seat 213 ⟨[.v false 1,.v false 1],[(false,[.s])]⟩ p_heldThingS kr_ [] Tryz.func213 (by kernel_rfl) (by kernel_rfl) (by kernel_rfl)
noncomputable def aH5_:=Kok.mk2 seat 120 ⟨[.v true 3,.v false 1],[(false,[.s])]⟩ p_heldNet aak_ [aA7_,aue_] Tryz.func120 (by kernel_rfl) (by kernel_rfl) (by kernel_rfl)
noncomputable def aBm_:=Kok.mk2 seat 121 ⟨[.v false 1,.v false 1],[(false,[.s])]⟩ p_heldNearS aew_ [] Tryz.func121 (by kernel_rfl) (by kernel_rfl) (by kernel_rfl)
noncomputable def ai5_:=Kok.mk2 seat 39 ⟨[.v false 1,.v false 1],[(false,[.s])]⟩ p_heldRecordS vv_ [aBm_] Tryz.func39 (by kernel_rfl) (by kernel_rfl) (by kernel_rfl)
noncomputable def aF0_:=Kok.mk2 seat 38 ⟨[.v true 7,.v false 1],[(false,[.s])]⟩ p_heldSelf qU_ [ai5_,aF3_,aH5_] Tryz.func38 (by kernel_rfl) (by kernel_rfl) (by kernel_rfl)
noncomputable def k_FnExactRenew:=Kok.mk2 seat 5 ⟨[.v true 7],[(false,[.s])]⟩ p_FnExactRenew ui_ [aMq_,aKb_,aMv_,aIh_,aLv_,ami_,aF0_,ai5_] Tryz.func5 (by kernel_rfl) (by kernel_rfl) (by kernel_rfl)
end Go.Proofs.YtiebbbmibbkpcaaGreatWR

/- The walk: each function does as its plain program says (printed by a program). Conditions: none. -/
import Derived.Test.YtiebbbmibbkpcaaGreatChecked
import Derived.Test.YtiebbbmibbkpcaaGreatKe
import Derived.Test.YtiebbbmibbkpcaaGreatXPR
namespace Go.Proofs.YtiebbbmibbkpcaaGreatWR
open Go.Proofs.YtiebbbmibbkpcaaGreatC
theorem fc {α:Type} {p:α→Prop} {a:α} {l:List α} (h:p a∧∀ x∈l,p x):∀ x∈a :: l,p x:=List.forall_mem_cons.2 h
theorem f0 {α:Type} {p:α→Prop}:∀ x∈([]:List α),p x:=fun _ h=>nomatch h
def lty:List (Nat × TI):=[
 (3,⟨1,8,false,[.p (.k (.int .i64 0))],0,[],1⟩),
 (4,⟨1,1,false,[.p (.k (.bool false))],0,[],4⟩),
 (22,⟨1,24,false,[.n],216,[],3⟩),
 (23,⟨1,24,false,[.n],218,[],3⟩),
 (25,⟨3,56,true,[.p (.k (.int .i64 0)),.n,.n],0,[(0,1),(1,1),(2,1)],0⟩),
 (26,⟨1,24,false,[.n],4,[],3⟩),
 (28,⟨1,24,false,[.n],128,[],3⟩),
 (30,⟨1,24,false,[.n],214,[],3⟩),
 (31,⟨1,24,false,[.n],202,[],3⟩),
 (33,⟨3,56,true,[.p (.k (.int .i64 0)),.n,.n],0,[(0,1),(1,1),(2,1)],0⟩),
 (43,⟨1,24,false,[.n],3,[],3⟩),
 (44,⟨1,24,false,[.n],230,[],3⟩),
 (46,⟨7,120,true,[.p (.k (.int .i64 0)),.p (.k (.int .i64 0)),.p (.k (.int .i64 0)),.n,.n,.n,.n],0,[(0,1),(1,1),(2,3),(5,1),(6,1)],0⟩),
 (47,⟨1,24,false,[.n],225,[],3⟩),
 (49,⟨8,144,true,[.p (.k (.int .i64 0)),.p (.k (.int .i64 0)),.p (.k (.int .i64 0)),.n,.n,.n,.n,.n],0,[(0,7),(7,1)],0⟩),
 (52,⟨1,24,false,[.n],144,[],3⟩),
 (54,⟨7,120,true,[.p (.k (.int .i64 0)),.p (.k (.int .i64 0)),.p (.k (.int .i64 0)),.n,.n,.n,.n],0,[(0,1),(1,1),(2,3),(5,1),(6,1)],0⟩),
 (55,⟨1,24,false,[.n],158,[],3⟩),
 (57,⟨8,144,true,[.p (.k (.int .i64 0)),.p (.k (.int .i64 0)),.p (.k (.int .i64 0)),.n,.n,.n,.n,.n],0,[(0,7),(7,1)],0⟩),
 (74,⟨1,24,false,[.n],49,[],3⟩),
 (75,⟨1,24,false,[.n],96,[],3⟩),
 (77,⟨10,208,true,[.p (.k (.int .i64 0)),.n,.n,.n,.n,.n,.n,.n,.n,.p (.k (.int .i64 0))],0,[(0,3),(3,1),(4,1),(5,1),(6,1),(7,1),(8,1),(9,1)],0⟩),
 (80,⟨1,24,false,[.n],57,[],3⟩),
 (81,⟨1,24,false,[.n],100,[],3⟩),
 (83,⟨10,208,true,[.p (.k (.int .i64 0)),.n,.n,.n,.n,.n,.n,.n,.n,.p (.k (.int .i64 0))],0,[(0,3),(3,1),(4,1),(5,1),(6,1),(7,1),(8,1),(9,1)],0⟩),
 (96,⟨6,80,true,[.p (.k (.int .i64 0)),.p (.k (.int .i64 0)),.p (.k (.int .i64 0)),.p (.k (.int .i64 0)),.n,.n],0,[(0,1),(1,1),(2,1),(3,1),(4,1),(5,1)],0⟩),
 (100,⟨6,80,true,[.p (.k (.int .i64 0)),.p (.k (.int .i64 0)),.p (.k (.int .i64 0)),.p (.k (.int .i64 0)),.n,.n],0,[(0,1),(1,1),(2,1),(3,1),(4,1),(5,1)],0⟩),
 (128,⟨6,64,true,[.p (.k (.bool false)),.p (.k (.int .i64 0)),.p (.k (.int .i64 0)),.p (.k (.int .i64 0)),.p (.k (.int .i64 0)),.n],0,[(0,1),(1,1),(2,1),(3,1),(4,1),(5,1)],0⟩),
 (142,⟨1,24,false,[.n],200,[],3⟩),
 (144,⟨8,80,true,[.p (.k (.int .i64 0)),.p (.k (.int .i64 0)),.p (.k (.int .i64 0)),.p (.k (.int .i64 0)),.p (.k (.int .i64 0)),.n,.p (.k (.int .i64 0)),.p (.k (.bool false))],0,[(0,1),(1,1),(2,1),(3,1),(4,1),(5,1),(6,1),(7,1)],0⟩),
 (158,⟨4,32,true,[.p (.k (.int .i64 0)),.p (.k (.int .i64 0)),.p (.k (.int .i64 0)),.p (.k (.bool false))],0,[(0,1),(1,1),(2,1),(3,1)],5⟩),
 (200,⟨2,16,true,[.p (.k (.int .i64 0)),.p (.k (.int .i64 0))],0,[(0,1),(1,1)],5⟩),
 (202,⟨4,32,true,[.p (.k (.int .i64 0)),.p (.k (.int .i64 0)),.p (.k (.int .i64 0)),.p (.k (.bool false))],0,[(0,1),(1,1),(2,1),(3,1)],5⟩),
 (204,⟨1,24,false,[.n],209,[],3⟩),
 (209,⟨3,40,true,[.p (.k (.int .i64 0)),.p (.k (.int .i64 0)),.n],0,[(0,1),(1,1),(2,1)],0⟩),
 (214,⟨4,32,true,[.p (.k (.int .i64 0)),.p (.k (.int .i64 0)),.p (.k (.int .i64 0)),.p (.k (.int .i64 0))],0,[(0,1),(1,1),(2,1),(3,1)],5⟩),
 (216,⟨4,32,true,[.p (.k (.int .i64 0)),.p (.k (.int .i64 0)),.p (.k (.int .i64 0)),.p (.k (.int .i64 0))],0,[(0,1),(1,1),(2,1),(3,1)],5⟩),
 (218,⟨4,32,true,[.p (.k (.int .i64 0)),.p (.k (.int .i64 0)),.p (.k (.int .i64 0)),.p (.k (.bool false))],0,[(0,1),(1,1),(2,1),(3,1)],5⟩),
 (225,⟨4,32,true,[.p (.k (.int .i64 0)),.p (.k (.int .i64 0)),.p (.k (.int .i64 0)),.p (.k (.bool false))],0,[(0,1),(1,1),(2,1),(3,1)],5⟩),
 (228,⟨1,24,false,[.n],287,[],3⟩),
 (230,⟨8,80,true,[.p (.k (.int .i64 0)),.p (.k (.int .i64 0)),.p (.k (.int .i64 0)),.p (.k (.int .i64 0)),.p (.k (.int .i64 0)),.n,.p (.k (.int .i64 0)),.p (.k (.bool false))],0,[(0,1),(1,1),(2,1),(3,1),(4,1),(5,1),(6,1),(7,1)],0⟩),
 (250,⟨1,24,false,[.n],204,[],3⟩),
 (281,⟨1,24,false,[.n],43,[],3⟩),
 (287,⟨2,16,true,[.p (.k (.int .i64 0)),.p (.k (.int .i64 0))],0,[(0,1),(1,1)],5⟩)]
def lhint:List ((Nat × Nat × Nat) × Js):=[
 ((79,0,0),[(4,false,.phi false [.p]),(7,false,.rows [(0,true)])]),
 ((80,0,0),[(4,false,.phi false [.p]),(7,false,.rows [(0,true)])]),
 ((135,0,0),[(2,false,.phi false [.p]),(3,false,.phi false [.p])]),
 ((135,0,2),[(2,false,.phi false [.p]),(4,false,.phi false [.p])]),
 ((122,0,0),[(8,false,.phi false [.p]),(9,false,.phi false [.p])]),
 ((286,0,0),[(2,false,.phi false [.p]),(3,false,.phi false [.p])]),
 ((176,0,0),[(2,false,.phi false [.p]),(3,false,.phi false [.p])]),
 ((178,0,0),[(7,false,.phi false [.o true]),(8,false,.phi false [.p])]),
 ((178,2,19),[(7,false,.phi false [.o true])]),
 ((77,0,0),[(5,false,.phi false [.o true]),(6,false,.phi false [.p])]),
 ((77,2,17),[(5,false,.phi false [.o true])]),
 ((106,0,0),[(4,false,.phi false [.p]),(5,false,.phi false [.p])]),
 ((307,0,0),[(8,false,.phi false [.p]),(11,false,.phi false [.p])]),
 ((283,0,0),[(6,false,.phi false [.p]),(10,false,.rows [(0,true)])]),
 ((283,0,2),[(9,false,.phi false [.p]),(10,false,.rows [(0,true)])]),
 ((283,2,48),[(10,false,.rows [(0,true)])]),
 ((153,0,0),[(4,false,.phi false [.p]),(5,false,.phi false [.p])]),
 ((251,0,0),[(5,false,.phi false [.o true]),(6,false,.phi false [.p])]),
 ((251,2,19),[(5,false,.phi false [.o true])]),
 ((245,0,0),[(14,false,.phi false [.p]),(47,false,.rows [(0,true)])]),
 ((245,0,2),[(15,false,.phi false [.p]),(48,false,.rows [(0,false)]),(49,false,.rows [(0,true)]),(47,false,.rows [(0,true)])]),
 ((245,0,4),[(16,false,.phi false [.p]),(17,false,.phi false [.p])]),
 ((245,0,6),[(18,false,.phi false [.p]),(48,false,.rows [(0,false)]),(47,false,.rows [(0,true)])]),
 ((245,0,8),[(7,false,.phi false [.o true]),(22,false,.phi false [.p])]),
 ((245,2,126),[(20,false,.phi false [.p])]),
 ((245,2,147),[(48,false,.rows [(0,false)]),(47,false,.rows [(0,true)])]),
 ((245,2,163),[(48,false,.rows [(0,false)])]),
 ((245,2,180),[(7,false,.phi false [.o true])]),
 ((245,2,94),[(16,false,.phi false [.p])]),
 ((246,0,0),[(5,false,.phi false [.p]),(6,false,.phi false [.p])]),
 ((174,0,0),[(8,false,.phi false [.o false]),(9,false,.phi false [.p])]),
 ((174,0,2),[(7,false,.phi false [.o false]),(10,false,.phi false [.p])]),
 ((174,0,4),[(12,false,.phi false [.p]),(13,false,.phi false [.p]),(11,true,.phi true [.p,.p,.p])]),
 ((174,2,56),[(14,true,.phi true [.p,.p,.p])]),
 ((174,2,61),[(7,false,.phi false [.o false])]),
 ((248,0,0),[(6,false,.phi false [.p]),(16,false,.phi false [.p]),(12,true,.phi true [.p,.p,.p])]),
 ((248,2,81),[(18,true,.phi true [.p,.p,.p])]),
 ((175,0,0),[(11,false,.phi false [.o false]),(12,false,.phi false [.p])]),
 ((175,0,2),[(9,false,.phi false [.o false]),(13,false,.phi false [.p])]),
 ((175,0,4),[(17,false,.phi false [.p]),(18,false,.phi false [.p]),(16,true,.phi true [.p,.p,.p])]),
 ((175,2,88),[(9,false,.phi false [.o false])]),
 ((177,0,0),[(15,false,.phi false [.p]),(16,false,.phi false [.p]),(14,true,.phi true [.k,.k,.p,.p,.p,.p])]),
 ((177,2,106),[(14,true,.phi true [.k,.k,.k,.k,.k,.p])]),
 ((177,2,70),[(14,true,.phi true [.k,.k,.p,.k,.k,.k]),(20,false,.phi false [.p]),(21,false,.phi false [.p])]),
 ((177,2,76),[(14,true,.phi true [.k,.k,.k,.p,.p,.p])]),
 ((76,0,0),[(9,false,.phi false [.o false]),(12,false,.phi false [.p])]),
 ((76,0,2),[(9,false,.phi false [.o false]),(13,false,.phi false [.p])]),
 ((76,0,4),[(9,false,.phi false [.o false]),(14,false,.phi false [.p])]),
 ((76,2,109),[(15,true,.phi true [.p,.p,.p,.p,.p,.p]),(16,false,.phi false [.p])]),
 ((76,2,119),[(9,false,.phi false [.o false]),(15,true,.phi true [.k,.k,.k,.k,.k,.d])]),
 ((76,2,43),[(9,false,.phi false [.o false])]),
 ((76,2,75),[(9,false,.phi false [.o false])]),
 ((138,0,0),[(2,false,.phi false [.p]),(26,false,.phi false [.p])]),
 ((138,0,2),[(2,false,.phi false [.p]),(55,false,.phi false [.p])]),
 ((214,0,0),[(8,false,.phi false [.p]),(14,false,.phi false [.p])]),
 ((291,0,0),[(2,false,.phi false [.p]),(8,false,.phi false [.p])]),
 ((202,0,0),[(2,false,.phi false [.p]),(7,false,.phi false [.p])]),
 ((148,0,0),[(5,false,.phi false [.p])]),
 ((148,4,6),[(0,false,.rows [(0,true)])]),
 ((84,0,0),[(5,false,.phi false [.o true]),(11,false,.phi false [.p])]),
 ((84,2,24),[(5,false,.phi false [.o true])]),
 ((187,0,0),[(4,false,.phi false [.p]),(9,false,.phi false [.p])]),
 ((204,0,0),[(4,false,.phi false [.p]),(9,false,.phi false [.p])]),
 ((313,0,0),[(8,false,.phi false [.p]),(25,false,.phi false [.p])]),
 ((257,0,1),[(34,false,.phi false [.p]),(5,true,.phi true [.k,.k,.o true])]),
 ((257,0,3),[(47,false,.phi false [.p]),(5,true,.phi true [.k,.k,.o true])]),
 ((288,0,0),[(10,false,.phi false [.p]),(3,false,.rows [(0,false)])]),
 ((288,2,47),[(12,true,.phi true [.k,.k,.o true])]),
 ((288,2,55),[(12,true,.phi true [.k,.k,.d]),(3,false,.rows [(0,false)])]),
 ((288,2,70),[(3,false,.rows [(0,false)])]),
 ((288,4,5),[(3,false,.rows [(0,false)])]),
 ((254,0,0),[(8,false,.phi false [.o true]),(30,false,.rows [(0,false)])]),
 ((254,0,2),[(9,false,.phi false [.p]),(10,false,.phi false [.p])]),
 ((254,0,4),[(11,false,.phi false [.o false]),(84,false,.phi false [.p]),(30,false,.rows [(0,false)])]),
 ((254,2,68),[(9,false,.phi false [.p])]),
 ((254,2,90),[(11,false,.phi false [.o false])]),
 ((255,0,0),[(5,false,.phi false [.p])]),
 ((255,4,7),[(0,false,.rows [(0,true)])]),
 ((183,0,0),[(7,false,.phi false [.o false]),(14,false,.phi false [.p])]),
 ((183,0,2),[(7,false,.phi false [.o false]),(23,false,.phi false [.p])]),
 ((256,0,0),[(5,false,.phi false [.p]),(10,false,.phi false [.p])]),
 ((184,0,0),[(10,false,.phi false [.o false]),(23,false,.phi false [.p])]),
 ((186,0,0),[(12,false,.phi false [.p]),(13,false,.phi false [.p]),(14,false,.phi false [.p]),(21,false,.phi false [.p]),(10,true,.phi true [.p,.p,.o true]),(11,true,.phi true [.p,.p,.o true])]),
 ((186,2,49),[(17,true,.phi true [.p,.p,.o true]),(18,false,.phi false [.p])]),
 ((186,2,64),[(17,true,.phi true [.p,.p,.o true])]),
 ((186,2,75),[(17,true,.phi true [.p,.p,.o true])]),
 ((186,2,86),[(11,true,.phi true [.p,.p,.o true]),(13,false,.phi false [.p]),(14,false,.phi false [.p]),(17,true,.phi true [.k,.k,.d])]),
 ((83,0,0),[(9,false,.phi false [.o true]),(35,false,.phi false [.p]),(27,false,.rows [(0,false)])]),
 ((83,0,2),[(9,false,.phi false [.o true]),(57,false,.phi false [.p]),(32,false,.rows [(0,false)])]),
 ((83,0,4),[(16,false,.phi false [.o true]),(75,false,.phi false [.p])]),
 ((83,0,6),[(9,false,.phi false [.o true]),(98,false,.phi false [.p])]),
 ((83,2,110),[(9,false,.phi false [.o true]),(108,false,.phi true [.k,.k,.k,.k,.k,.d]),(22,true,.phi true [.k,.k,.k,.k,.k,.d])]),
 ((83,2,42),[(9,false,.phi false [.o true])]),
 ((83,2,86),[(16,false,.phi false [.o true])]),
 ((67,0,0),[(4,false,.phi false [.p]),(5,false,.phi false [.p])]),
 ((17,0,0),[(4,false,.phi false [.p]),(5,false,.phi false [.p])]),
 ((87,0,0),[(4,false,.phi false [.p]),(5,false,.phi false [.p])]),
 ((88,0,0),[(4,false,.phi false [.p]),(5,false,.phi false [.p])]),
 ((89,0,0),[(1,false,.phi false [.p]),(5,false,.phi false [.p]),(0,false,.rows [(0,true)])]),
 ((90,0,0),[(1,false,.phi false [.p]),(5,false,.phi false [.p]),(0,false,.rows [(0,true)])]),
 ((70,0,0),[(1,false,.phi false [.p]),(5,false,.phi false [.p]),(0,false,.rows [(0,true)])]),
 ((119,0,0),[(1,false,.phi false [.p]),(5,false,.phi false [.p]),(0,false,.rows [(0,true)])]),
 ((37,0,0),[(1,false,.phi false [.p]),(5,false,.phi false [.p]),(0,false,.rows [(0,true)])]),
 ((96,0,0),[(1,false,.phi false [.p]),(5,false,.phi false [.p]),(0,false,.rows [(0,true)])]),
 ((22,0,0),[(1,false,.phi false [.p]),(5,false,.phi false [.p]),(0,false,.rows [(0,true)])]),
 ((71,0,0),[(1,false,.phi false [.p]),(4,false,.phi false [.p]),(5,false,.phi false [.p])]),
 ((23,0,0),[(1,false,.phi false [.p]),(4,false,.phi false [.p]),(5,false,.phi false [.p])]),
 ((15,0,0),[(4,false,.phi false [.p]),(7,false,.rows [(0,true)])]),
 ((172,0,0),[(10,false,.phi false [.p]),(11,false,.phi false [.p])]),
 ((105,0,0),[(5,false,.phi false [.o false]),(6,false,.phi false [.p])]),
 ((105,0,2),[(5,false,.phi false [.o false]),(7,false,.phi false [.p])]),
 ((105,2,20),[(5,false,.phi false [.o false])]),
 ((105,2,43),[(5,false,.phi false [.o false])]),
 ((197,0,0),[(10,false,.phi false [.o true]),(11,false,.phi false [.p])]),
 ((197,0,2),[(9,false,.phi false [.o true]),(15,false,.phi false [.p])]),
 ((197,2,37),[(10,false,.phi false [.o true])]),
 ((197,2,84),[(18,true,.phi true [.p,.p,.p]),(19,false,.phi false [.p])]),
 ((197,2,91),[(9,false,.phi false [.o true])]),
 ((110,0,0),[(5,false,.phi false [.p]),(6,false,.phi false [.p])]),
 ((110,2,21),[(7,true,.phi true [.k,.k,.k,.k,.p,.k,.k,.k])]),
 ((173,0,0),[(7,false,.phi false [.o false]),(8,false,.phi false [.p])]),
 ((173,0,2),[(9,false,.phi false [.o false]),(10,false,.phi false [.p])]),
 ((173,2,49),[(9,false,.phi false [.o false])]),
 ((109,0,0),[(3,false,.phi false [.o true]),(4,false,.phi false [.p])]),
 ((74,0,0),[(8,false,.phi false [.p]),(9,false,.phi false [.p])]),
 ((74,0,10),[(8,false,.phi false [.p]),(18,false,.phi false [.p])]),
 ((74,0,2),[(8,false,.phi false [.p]),(11,false,.phi false [.p])]),
 ((74,0,4),[(13,false,.phi false [.p]),(12,true,.phi true [.k,.k,.k,.k,.k,.o true,.k,.k])]),
 ((74,0,6),[(8,false,.phi false [.p]),(15,false,.phi false [.p])]),
 ((74,0,8),[(8,false,.phi false [.p]),(17,false,.phi false [.p])]),
 ((74,2,119),[(8,false,.phi false [.p])]),
 ((74,2,150),[(8,false,.phi false [.p])]),
 ((74,2,90),[(12,true,.phi true [.k,.k,.k,.k,.k,.o true,.k,.k])]),
 ((252,0,0),[(7,false,.phi false [.o true]),(13,false,.phi false [.p])]),
 ((252,2,24),[(7,false,.phi false [.o true])]),
 ((252,2,32),[(7,false,.phi false [.o true])]),
 ((181,0,0),[(11,false,.phi false [.o true]),(20,false,.phi false [.p])]),
 ((181,2,39),[(11,false,.phi false [.o true])]),
 ((116,0,0),[(3,false,.phi false [.o true]),(8,false,.phi false [.p])]),
 ((117,0,0),[(5,false,.phi false [.p])]),
 ((117,2,40),[(5,false,.phi false [.p])]),
 ((287,2,36),[(4,true,.phi false [.o true])]),
 ((253,0,0),[(9,false,.phi false [.o true]),(21,false,.phi false [.p])]),
 ((253,0,2),[(43,false,.phi false [.p]),(13,true,.phi false [.o true])]),
 ((253,0,4),[(58,false,.phi false [.p]),(13,true,.phi false [.o true])]),
 ((253,2,27),[(9,false,.phi false [.o true])]),
 ((253,2,52),[(13,true,.phi false [.o true])]),
 ((182,0,0),[(7,false,.phi false [.o false]),(17,false,.phi false [.p])]),
 ((182,0,2),[(7,false,.phi false [.o false]),(40,false,.phi false [.p])]),
 ((182,0,4),[(7,false,.phi false [.o false]),(50,false,.phi false [.p]),(48,false,.rows [(0,false)])]),
 ((182,2,29),[(7,false,.phi false [.o false])]),
 ((81,0,0),[(8,false,.phi false [.o true]),(9,false,.phi false [.p])]),
 ((81,0,2),[(8,false,.phi false [.o true]),(43,false,.phi false [.p])]),
 ((81,0,4),[(8,false,.phi false [.o true]),(67,false,.phi false [.p])]),
 ((81,0,6),[(8,false,.phi false [.o false]),(89,false,.phi false [.p])]),
 ((81,0,8),[(8,false,.phi false [.o false]),(14,false,.phi false [.p])]),
 ((81,2,106),[(8,false,.phi false [.o false])]),
 ((81,2,51),[(8,false,.phi false [.o true])]),
 ((81,2,76),[(8,false,.phi false [.o true])]),
 ((19,0,0),[(4,false,.phi false [.p]),(5,false,.phi false [.p])]),
 ((21,0,0),[(1,false,.phi false [.p]),(5,false,.phi false [.p]),(0,false,.rows [(0,true)])])]
def lfz:List (Nat × Nat × Nat):=[]
def lnest:List Nat:=[89,90,20,70,119,37,36,96,29,22,4,21,3,7,33,5,6]
noncomputable def lfn:List (Nat × Func):=[(148,Tryz.f148),(288,Tryz.f288),(255,Tryz.f255),(89,Tryz.f89),(90,Tryz.f90),(20,Tryz.f20),(70,Tryz.f70),(119,Tryz.f119),(37,Tryz.f37),(36,Tryz.f36),(96,Tryz.f96),(29,Tryz.f29),(22,Tryz.f22),(287,Tryz.f287),(21,Tryz.f21)]
noncomputable def cx:Cx:={ ty:=tiOf lty,sg:=fun _=>none,fn:=fnOf lfn,hint:=hintOf lhint,fz:=fzOf lfz,nest:=memN lnest }
theorem in_i_with:FnIn Tryz.prog 148:=.mk Tryz.func148 (by kernel_rfl) (by kernel_rfl)
theorem in_i_spread:FnIn Tryz.prog 288:=.mk Tryz.func288 (by kernel_rfl) (by kernel_rfl)
theorem in_i_also:FnIn Tryz.prog 255:=.mk Tryz.func255 (by kernel_rfl) (by kernel_rfl)
theorem in_markLinkS:FnIn Tryz.prog 89:=.mk Tryz.func89 (by kernel_rfl) (by kernel_rfl)
theorem in_markThingS:FnIn Tryz.prog 90:=.mk Tryz.func90 (by kernel_rfl) (by kernel_rfl)
theorem in_markNet:FnIn Tryz.prog 20:=.mk Tryz.func20 (by kernel_rfl) (by kernel_rfl)
theorem in_markIntS:FnIn Tryz.prog 70:=.mk Tryz.func70 (by kernel_rfl) (by kernel_rfl)
theorem in_markNearS:FnIn Tryz.prog 119:=.mk Tryz.func119 (by kernel_rfl) (by kernel_rfl)
theorem in_markRecordS:FnIn Tryz.prog 37:=.mk Tryz.func37 (by kernel_rfl) (by kernel_rfl)
theorem in_markSelf:FnIn Tryz.prog 36:=.mk Tryz.func36 (by kernel_rfl) (by kernel_rfl)
theorem in_markEarS:FnIn Tryz.prog 96:=.mk Tryz.func96 (by kernel_rfl) (by kernel_rfl)
theorem in_markNode:FnIn Tryz.prog 29:=.mk Tryz.func29 (by kernel_rfl) (by kernel_rfl)
theorem in_markRouteS:FnIn Tryz.prog 22:=.mk Tryz.func22 (by kernel_rfl) (by kernel_rfl)
theorem in_i_Beyond_1:FnIn Tryz.prog 287:=.mk Tryz.func287 (by kernel_rfl) (by kernel_rfl)
theorem in_markBoolS:FnIn Tryz.prog 21:=.mk Tryz.func21 (by kernel_rfl) (by kernel_rfl)
theorem seat:Seat Tryz.prog cx:=⟨tys_ok (l:=lty) (by kernel_rfl) rfl,into_of (l:=lfn) (fc ⟨⟨Tryz.func148,in_i_with⟩,fc ⟨⟨Tryz.func288,in_i_spread⟩,fc ⟨⟨Tryz.func255,in_i_also⟩,fc ⟨⟨Tryz.func89,in_markLinkS⟩,fc ⟨⟨Tryz.func90,in_markThingS⟩,fc ⟨⟨Tryz.func20,in_markNet⟩,fc ⟨⟨Tryz.func70,in_markIntS⟩,fc ⟨⟨Tryz.func119,in_markNearS⟩,fc ⟨⟨Tryz.func37,in_markRecordS⟩,fc ⟨⟨Tryz.func36,in_markSelf⟩,fc ⟨⟨Tryz.func96,in_markEarS⟩,fc ⟨⟨Tryz.func29,in_markNode⟩,fc ⟨⟨Tryz.func22,in_markRouteS⟩,fc ⟨⟨Tryz.func287,in_i_Beyond_1⟩,fc ⟨⟨Tryz.func21,in_markBoolS⟩,f0⟩⟩⟩⟩⟩⟩⟩⟩⟩⟩⟩⟩⟩⟩⟩) rfl,by kernel_rfl⟩
noncomputable def k_szLinkS:=Kok.mk2 seat 72 ⟨[.v false 1,.v false 1],[(false,[.s])]⟩ p_szLinkS F_szLinkS [] Tryz.func72 (by kernel_rfl) (by kernel_rfl) (by kernel_rfl)
noncomputable def k_szThingS:=Kok.mk2 seat 73 ⟨[.v false 1,.v false 1],[(false,[.s])]⟩ p_szThingS F_szThingS [] Tryz.func73 (by kernel_rfl) (by kernel_rfl) (by kernel_rfl)
noncomputable def k_szNet:=Kok.mk2 seat 12 ⟨[.v true 3,.v false 1],[(false,[.s])]⟩ p_szNet F_szNet [k_szLinkS,k_szThingS] Tryz.func12 (by kernel_rfl) (by kernel_rfl) (by kernel_rfl)
noncomputable def k_toLink:=Kok.mk2 seat 179 ⟨[.v true 4],[(true,[.s,.s,.s,.s])]⟩ p_toLink F_toLink [] Tryz.func179 (by kernel_rfl) (by kernel_rfl) (by kernel_rfl)
noncomputable def k_toLinkS:=Kok.mk2 seat 79 ⟨[.v false 1],[(false,[.o true])]⟩ p_toLinkS F_toLinkS [k_toLink] Tryz.func79 (by kernel_rfl) (by kernel_rfl) (by kernel_rfl)
noncomputable def k_toThing:=Kok.mk2 seat 180 ⟨[.v true 4],[(true,[.s,.s,.s,.s])]⟩ p_toThing F_toThing [] Tryz.func180 (by kernel_rfl) (by kernel_rfl) (by kernel_rfl)
noncomputable def k_toThingS:=Kok.mk2 seat 80 ⟨[.v false 1],[(false,[.o true])]⟩ p_toThingS F_toThingS [k_toThing] Tryz.func80 (by kernel_rfl) (by kernel_rfl) (by kernel_rfl)
noncomputable def k_toNet:=Kok.mk2 seat 14 ⟨[.v true 3],[(true,[.s,.o true,.o true])]⟩ p_toNet F_toNet [k_toLinkS,k_toThingS] Tryz.func14 (by kernel_rfl) (by kernel_rfl) (by kernel_rfl)
noncomputable def k_s_l01In:=Kok.mk2 seat 75 ⟨[.v false 1,.v false 1,.v false 1],[(false,[.s])]⟩ p_s_l01In F_s_l01In [] Tryz.func75 (by kernel_rfl) (by kernel_rfl) (by kernel_rfl)
noncomputable def k_s_LinkOk:=Kok.mk2 seat 215 ⟨[.v false 1,.v true 4],[(false,[.s])]⟩ p_s_LinkOk F_s_LinkOk [k_s_l01In] Tryz.func215 (by kernel_rfl) (by kernel_rfl) (by kernel_rfl)
noncomputable def k_s_l03Ahead:=Kok.mk2 seat 216 ⟨[.v true 4,.v true 4],[(false,[.s])]⟩ p_s_l03Ahead F_s_l03Ahead [] Tryz.func216 (by kernel_rfl) (by kernel_rfl) (by kernel_rfl)
noncomputable def k_s_l03Thing:=Kok.mk2 seat 217 ⟨[.v true 4,.v true 4],[(false,[.s])]⟩ p_s_l03Thing F_s_l03Thing [] Tryz.func217 (by kernel_rfl) (by kernel_rfl) (by kernel_rfl)
noncomputable def k_s_NetOk:=Kok.mk2 seat 135 ⟨[.v true 3],[(false,[.s])]⟩ p_s_NetOk F_s_NetOk [k_s_l01In,k_s_LinkOk,k_s_l03Ahead,k_s_l03Thing] Tryz.func135 (by kernel_rfl) (by kernel_rfl) (by kernel_rfl)
noncomputable def k_s_CostTo:=Kok.mk2 seat 122 ⟨[.v true 3,.v false 1,.v false 1,.v false 1],[(false,[.s])]⟩ p_s_CostTo F_s_CostTo [] Tryz.func122 (by kernel_rfl) (by kernel_rfl) (by kernel_rfl)
noncomputable def k_s_l04Near:=Kok.mk2 seat 286 ⟨[.v true 8],[(false,[.s])]⟩ p_s_l04Near F_s_l04Near [k_s_l01In] Tryz.func286 (by kernel_rfl) (by kernel_rfl) (by kernel_rfl)
noncomputable def k_s_RecordOk:=Kok.mk2 seat 249 ⟨[.v true 8],[(false,[.s])]⟩ p_s_RecordOk F_s_RecordOk [k_s_l01In,k_s_l04Near] Tryz.func249 (by kernel_rfl) (by kernel_rfl) (by kernel_rfl)
noncomputable def k_s_Before:=Kok.mk2 seat 199 ⟨[.v true 8,.v true 8],[(false,[.s])]⟩ p_s_Before F_s_Before [] Tryz.func199 (by kernel_rfl) (by kernel_rfl) (by kernel_rfl)
noncomputable def k_s_StoreOk:=Kok.mk2 seat 176 ⟨[.v false 1],[(false,[.s])]⟩ p_s_StoreOk F_s_StoreOk [k_s_Before,k_s_RecordOk] Tryz.func176 (by kernel_rfl) (by kernel_rfl) (by kernel_rfl)
noncomputable def k_s_NextTo:=Kok.mk2 seat 178 ⟨[.v true 3,.v false 1,.v false 1],[(false,[.p])]⟩ p_s_NextTo F_s_NextTo [k_s_CostTo] Tryz.func178 (by kernel_rfl) (by kernel_rfl) (by kernel_rfl)
noncomputable def k_s_AreasOf:=Kok.mk2 seat 77 ⟨[.v true 3,.v false 1],[(false,[.p])]⟩ p_s_AreasOf F_s_AreasOf [k_s_NextTo] Tryz.func77 (by kernel_rfl) (by kernel_rfl) (by kernel_rfl)
noncomputable def k_s_Border:=Kok.mk2 seat 78 ⟨[.v true 3,.v false 1],[(false,[.s])]⟩ p_s_Border F_s_Border [k_s_AreasOf] Tryz.func78 (by kernel_rfl) (by kernel_rfl) (by kernel_rfl)
noncomputable def k_s_SameKey:=Kok.mk2 seat 198 ⟨[.v true 8,.v true 8],[(false,[.s])]⟩ p_s_SameKey F_s_SameKey [] Tryz.func198 (by kernel_rfl) (by kernel_rfl) (by kernel_rfl)
noncomputable def k_s_l05At:=Kok.mk2 seat 106 ⟨[.v false 1,.v true 8],[(false,[.s])]⟩ p_s_l05At F_s_l05At [k_s_SameKey] Tryz.func106 (by kernel_rfl) (by kernel_rfl) (by kernel_rfl)
noncomputable def k_s_l06Node:=Kok.mk2 seat 282 ⟨[.v false 1,.v false 1,.v false 1],[(true,[.s,.s,.s,.s,.s,.p,.s,.s]),(false,[.s])]⟩ p_s_l06Node F_s_l06Node [k_s_l05At] Tryz.func282 (by kernel_rfl) (by kernel_rfl) (by kernel_rfl)
noncomputable def k_s_l06Tells:=Kok.mk2 seat 307 ⟨[.v false 1,.v false 1,.v false 1,.v false 1],[(false,[.s])]⟩ p_s_l06Tells F_s_l06Tells [k_s_l06Node] Tryz.func307 (by kernel_rfl) (by kernel_rfl) (by kernel_rfl)
noncomputable def k_s_l06Links:=Kok.mk2 seat 283 ⟨[.v false 1,.v false 1],[(false,[.p])]⟩ p_s_l06Links F_s_l06Links [k_s_l01In,k_s_l06Node,k_s_l06Tells] Tryz.func283 (by kernel_rfl) (by kernel_rfl) (by kernel_rfl)
noncomputable def k_s_l03In:=Kok.mk2 seat 153 ⟨[.v false 1,.v false 1],[(false,[.s])]⟩ p_s_l03In F_s_l03In [] Tryz.func153 (by kernel_rfl) (by kernel_rfl) (by kernel_rfl)
noncomputable def k_s_l06Add:=Kok.mk2 seat 251 ⟨[.v false 1,.v false 1],[(false,[.p])]⟩ p_s_l06Add F_s_l06Add [k_s_l03In] Tryz.func251 (by kernel_rfl) (by kernel_rfl) (by kernel_rfl)
noncomputable def k_s_WaysIn:=Kok.mk2 seat 245 ⟨[.v false 1,.v false 1,.v false 1],[(false,[.p])]⟩ p_s_WaysIn F_s_WaysIn [k_s_l01In,k_s_StoreOk,k_s_l06Add,k_s_l06Node,k_s_l06Links] Tryz.func245 (by kernel_rfl) (by kernel_rfl) (by kernel_rfl)
noncomputable def k_s_l06Copy:=Kok.mk2 seat 284 ⟨[.v true 3],[(true,[.s,.s,.p])]⟩ p_s_l06Copy F_s_l06Copy [] Tryz.func284 (by kernel_rfl) (by kernel_rfl) (by kernel_rfl)
noncomputable def k_s_WayTo:=Kok.mk2 seat 246 ⟨[.v false 1,.v false 1],[(true,[.s,.s,.p]),(false,[.s])]⟩ p_s_WayTo F_s_WayTo [k_s_l06Copy] Tryz.func246 (by kernel_rfl) (by kernel_rfl) (by kernel_rfl)
noncomputable def k_s_Better:=Kok.mk2 seat 285 ⟨[.v true 3,.v true 3],[(false,[.s])]⟩ p_s_Better F_s_Better [] Tryz.func285 (by kernel_rfl) (by kernel_rfl) (by kernel_rfl)
noncomputable def k_s_Together:=Kok.mk2 seat 247 ⟨[.v true 3,.v true 3],[(true,[.s,.s,.p])]⟩ p_s_Together F_s_Together [k_s_l06Add,k_s_l06Copy,k_s_Better] Tryz.func247 (by kernel_rfl) (by kernel_rfl) (by kernel_rfl)
noncomputable def k_s_RoutesWithin:=Kok.mk2 seat 174 ⟨[.v false 1,.v false 1,.v false 1],[(false,[.p])]⟩ p_s_RoutesWithin F_s_RoutesWithin [k_s_WaysIn,k_s_WayTo,k_s_Together] Tryz.func174 (by kernel_rfl) (by kernel_rfl) (by kernel_rfl)
noncomputable def k_s_l07Beyond:=Kok.mk2 seat 248 ⟨[.v false 1,.v false 1,.v false 1,.v false 1,.v false 1,.v true 3,.v false 1],[(true,[.s,.s,.p]),(false,[.s])]⟩ p_s_l07Beyond F_s_l07Beyond [k_s_WayTo,k_s_Together] Tryz.func248 (by kernel_rfl) (by kernel_rfl) (by kernel_rfl)
noncomputable def k_s_RoutesBeyond:=Kok.mk2 seat 175 ⟨[.v false 1,.v false 1,.v false 1,.v false 1],[(false,[.p])]⟩ p_s_RoutesBeyond F_s_RoutesBeyond [k_s_RoutesWithin,k_s_StoreOk,k_s_WaysIn,k_s_WayTo,k_s_l07Beyond] Tryz.func175 (by kernel_rfl) (by kernel_rfl) (by kernel_rfl)
noncomputable def k_s_l07Owner:=Kok.mk2 seat 250 ⟨[.v false 1,.v false 1,.v false 1,.v false 1],[(true,[.s,.s,.p]),(false,[.s])]⟩ p_s_l07Owner F_s_l07Owner [k_s_WayTo] Tryz.func250 (by kernel_rfl) (by kernel_rfl) (by kernel_rfl)
noncomputable def k_s_l07Thing:=Kok.mk2 seat 177 ⟨[.v false 1,.v false 1,.v false 1,.v false 1,.v false 1,.v false 1],[(true,[.s,.s,.s,.s,.s,.p]),(false,[.s])]⟩ p_s_l07Thing F_s_l07Thing [k_s_l07Owner,k_s_l06Add] Tryz.func177 (by kernel_rfl) (by kernel_rfl) (by kernel_rfl)
noncomputable def k_s_RoutesOf:=Kok.mk2 seat 76 ⟨[.v false 1,.v false 1,.v false 1,.v false 1],[(false,[.p])]⟩ p_s_RoutesOf F_s_RoutesOf [k_s_RoutesWithin,k_s_RoutesBeyond,k_s_StoreOk,k_s_l07Thing] Tryz.func76 (by kernel_rfl) (by kernel_rfl) (by kernel_rfl)
noncomputable def k_i_in:=Kok.mk2 seat 82 ⟨[.v false 1,.v false 1,.v false 1],[(false,[.s])]⟩ p_i_in F_i_in [] Tryz.func82 (by kernel_rfl) (by kernel_rfl) (by kernel_rfl)
noncomputable def k_i_LinkOk:=Kok.mk2 seat 218 ⟨[.v false 1,.v true 4],[(false,[.s])]⟩ p_i_LinkOk F_i_LinkOk [k_i_in] Tryz.func218 (by kernel_rfl) (by kernel_rfl) (by kernel_rfl)
noncomputable def k_i_ahead:=Kok.mk2 seat 219 ⟨[.v true 4,.v true 4],[(false,[.s])]⟩ p_i_ahead F_i_ahead [] Tryz.func219 (by kernel_rfl) (by kernel_rfl) (by kernel_rfl)
noncomputable def k_i_less:=Kok.mk2 seat 220 ⟨[.v true 4,.v true 4],[(false,[.s])]⟩ p_i_less F_i_less [] Tryz.func220 (by kernel_rfl) (by kernel_rfl) (by kernel_rfl)
noncomputable def k_i_NetOk:=Kok.mk2 seat 138 ⟨[.v true 3],[(false,[.s])]⟩ p_i_NetOk F_i_NetOk [k_i_in,k_i_LinkOk,k_i_ahead,k_i_less] Tryz.func138 (by kernel_rfl) (by kernel_rfl) (by kernel_rfl)
noncomputable def k_i_linkAt:=Kok.mk2 seat 214 ⟨[.v true 3,.v false 1,.v false 1,.v false 1],[(false,[.s])]⟩ p_i_linkAt F_i_linkAt [] Tryz.func214 (by kernel_rfl) (by kernel_rfl) (by kernel_rfl)
noncomputable def k_i_nearOk:=Kok.mk2 seat 291 ⟨[.v true 8],[(false,[.s])]⟩ p_i_nearOk F_i_nearOk [k_i_in] Tryz.func291 (by kernel_rfl) (by kernel_rfl) (by kernel_rfl)
noncomputable def k_i_RecordOk:=Kok.mk2 seat 260 ⟨[.v true 8],[(false,[.s])]⟩ p_i_RecordOk F_i_RecordOk [k_i_in,k_i_nearOk] Tryz.func260 (by kernel_rfl) (by kernel_rfl) (by kernel_rfl)
noncomputable def k_i_Before:=Kok.mk2 seat 209 ⟨[.v true 8,.v true 8],[(false,[.s])]⟩ p_i_Before F_i_Before [] Tryz.func209 (by kernel_rfl) (by kernel_rfl) (by kernel_rfl)
noncomputable def k_i_StoreOk:=Kok.mk2 seat 202 ⟨[.v false 1],[(false,[.s])]⟩ p_i_StoreOk F_i_StoreOk [k_i_Before,k_i_RecordOk] Tryz.func202 (by kernel_rfl) (by kernel_rfl) (by kernel_rfl)
noncomputable def k_i_copyInts:=Kok.mk2 seat 185 ⟨[.v false 1],[(false,[.o true])]⟩ p_i_copyInts F_i_copyInts [] Tryz.func185 (by kernel_rfl) (by kernel_rfl) (by kernel_rfl)
noncomputable def k_i_AreasOf:=Kok.mk2 seat 84 ⟨[.v true 3,.v false 1],[(false,[.o true])]⟩ p_i_AreasOf F_i_AreasOf [k_i_copyInts] Tryz.func84 (by kernel_rfl) (by kernel_rfl) (by kernel_rfl)
noncomputable def k_i_hasInt:=Kok.mk2 seat 187 ⟨[.v false 1,.v false 1],[(false,[.s])]⟩ p_i_hasInt F_i_hasInt [] Tryz.func187 (by kernel_rfl) (by kernel_rfl) (by kernel_rfl)
noncomputable def k_i_Border:=Kok.mk2 seat 85 ⟨[.v true 3,.v false 1],[(false,[.s])]⟩ p_i_Border F_i_Border [k_i_AreasOf,k_i_hasInt] Tryz.func85 (by kernel_rfl) (by kernel_rfl) (by kernel_rfl)
noncomputable def k_i_SameKey:=Kok.mk2 seat 210 ⟨[.v true 8,.v true 8],[(false,[.s])]⟩ p_i_SameKey F_i_SameKey [] Tryz.func210 (by kernel_rfl) (by kernel_rfl) (by kernel_rfl)
noncomputable def k_i_keyAt:=Kok.mk2 seat 204 ⟨[.v false 1,.v true 8],[(false,[.s])]⟩ p_i_keyAt F_i_keyAt [k_i_SameKey] Tryz.func204 (by kernel_rfl) (by kernel_rfl) (by kernel_rfl)
noncomputable def k_i_told:=Kok.mk2 seat 313 ⟨[.v false 1,.v false 1,.v false 1,.v false 1],[(false,[.s])]⟩ p_i_told F_i_told [k_i_keyAt] Tryz.func313 (by kernel_rfl) (by kernel_rfl) (by kernel_rfl)
noncomputable def k_i_Linked:=Kok.mk2 seat 308 ⟨[.v false 1,.v false 1,.v false 1,.v false 1],[(false,[.s])]⟩ p_i_Linked F_i_Linked [k_i_told] Tryz.func308 (by kernel_rfl) (by kernel_rfl) (by kernel_rfl)
noncomputable def k_i_copyWay:=Kok.mk2 seat 289 ⟨[.v true 3],[(true,[.s,.s,.o true])]⟩ p_i_copyWay F_i_copyWay [k_i_copyInts] Tryz.func289 (by kernel_rfl) (by kernel_rfl) (by kernel_rfl)
noncomputable def k_i_Together:=Kok.mk2 seat 257 ⟨[.v true 3,.v true 3],[(true,[.s,.s,.o true])]⟩ p_i_Together F_i_Together [k_i_copyInts,k_i_copyWay] Tryz.func257 (by kernel_rfl) (by kernel_rfl) (by kernel_rfl)
noncomputable def k_i_WaysIn:=Kok.mk2 seat 254 ⟨[.v false 1,.v false 1,.v false 1],[(false,[.o false])]⟩ p_i_WaysIn F_i_WaysIn [k_i_in,k_i_copyInts,k_i_hasInt,k_i_StoreOk,k_i_keyAt,k_i_Together,k_i_Linked] Tryz.func254 (by kernel_rfl) (by kernel_rfl) (by kernel_rfl)
noncomputable def k_i_RoutesWithin:=Kok.mk2 seat 183 ⟨[.v false 1,.v false 1,.v false 1],[(false,[.o false])]⟩ p_i_RoutesWithin F_i_RoutesWithin [k_i_WaysIn,k_i_Together,k_i_copyWay] Tryz.func183 (by kernel_rfl) (by kernel_rfl) (by kernel_rfl)
noncomputable def k_i_WayTo:=Kok.mk2 seat 256 ⟨[.v false 1,.v false 1],[(true,[.s,.s,.o true]),(false,[.s])]⟩ p_i_WayTo F_i_WayTo [k_i_copyWay] Tryz.func256 (by kernel_rfl) (by kernel_rfl) (by kernel_rfl)
noncomputable def k_i_RoutesBeyond:=Kok.mk2 seat 184 ⟨[.v false 1,.v false 1,.v false 1,.v false 1],[(false,[.o false])]⟩ p_i_RoutesBeyond F_i_RoutesBeyond [k_i_RoutesWithin,k_i_hasInt,k_i_WaysIn,k_i_WayTo,k_i_Together,k_i_copyWay] Tryz.func184 (by kernel_rfl) (by kernel_rfl) (by kernel_rfl)
noncomputable def k_i_thing:=Kok.mk2 seat 186 ⟨[.v false 1,.v false 1,.v false 1,.v false 1],[(true,[.s,.s,.s,.s,.s,.o true]),(false,[.s])]⟩ p_i_thing F_i_thing [k_i_WayTo,k_i_Together] Tryz.func186 (by kernel_rfl) (by kernel_rfl) (by kernel_rfl)
noncomputable def k_i_RoutesOf:=Kok.mk2 seat 83 ⟨[.v false 1,.v false 1,.v false 1,.v false 1],[(false,[.o true])]⟩ p_i_RoutesOf F_i_RoutesOf [k_i_RoutesWithin,k_i_RoutesBeyond,k_i_copyInts,k_i_thing] Tryz.func83 (by kernel_rfl) (by kernel_rfl) (by kernel_rfl)
noncomputable def k_eqIntS:=Kok.mk2 seat 67 ⟨[.v false 1,.v false 1],[(false,[.s])]⟩ p_eqIntS F_eqIntS [] Tryz.func67 (by kernel_rfl) (by kernel_rfl) (by kernel_rfl)
noncomputable def k_eqRoute:=Kok.mk2 seat 86 ⟨[.v true 6,.v true 6],[(false,[.s])]⟩ p_eqRoute F_eqRoute [k_eqIntS] Tryz.func86 (by kernel_rfl) (by kernel_rfl) (by kernel_rfl)
noncomputable def k_eqRouteS:=Kok.mk2 seat 17 ⟨[.v false 1,.v false 1],[(false,[.s])]⟩ p_eqRouteS F_eqRouteS [k_eqRoute] Tryz.func17 (by kernel_rfl) (by kernel_rfl) (by kernel_rfl)
noncomputable def k_eqLink:=Kok.mk2 seat 188 ⟨[.v true 4,.v true 4],[(false,[.s])]⟩ p_eqLink F_eqLink [] Tryz.func188 (by kernel_rfl) (by kernel_rfl) (by kernel_rfl)
noncomputable def k_eqLinkS:=Kok.mk2 seat 87 ⟨[.v false 1,.v false 1],[(false,[.s])]⟩ p_eqLinkS F_eqLinkS [k_eqLink] Tryz.func87 (by kernel_rfl) (by kernel_rfl) (by kernel_rfl)
noncomputable def k_eqThing:=Kok.mk2 seat 189 ⟨[.v true 4,.v true 4],[(false,[.s])]⟩ p_eqThing F_eqThing [] Tryz.func189 (by kernel_rfl) (by kernel_rfl) (by kernel_rfl)
noncomputable def k_eqThingS:=Kok.mk2 seat 88 ⟨[.v false 1,.v false 1],[(false,[.s])]⟩ p_eqThingS F_eqThingS [k_eqThing] Tryz.func88 (by kernel_rfl) (by kernel_rfl) (by kernel_rfl)
noncomputable def k_eqNet:=Kok.mk2 seat 18 ⟨[.v true 3,.v true 3],[(false,[.s])]⟩ p_eqNet F_eqNet [k_eqLinkS,k_eqThingS] Tryz.func18 (by kernel_rfl) (by kernel_rfl) (by kernel_rfl)
noncomputable def k_heldIntS:=Kok.mk2 seat 71 ⟨[.v false 1,.v false 1],[(false,[.s])]⟩ p_heldIntS F_heldIntS [] Tryz.func71 (by kernel_rfl) (by kernel_rfl) (by kernel_rfl)
noncomputable def k_heldRouteS:=Kok.mk2 seat 23 ⟨[.v false 1,.v false 1],[(false,[.s])]⟩ p_heldRouteS F_heldRouteS [k_heldIntS] Tryz.func23 (by kernel_rfl) (by kernel_rfl) (by kernel_rfl)
noncomputable def k_toBoolS:=Kok.mk2 seat 15 ⟨[.v false 1],[(false,[.o true])]⟩ p_toBoolS F_toBoolS [] Tryz.func15 (by kernel_rfl) (by kernel_rfl) (by kernel_rfl)
noncomputable def k_s_l13Open:=Kok.mk2 seat 172 ⟨[.v true 3,.v false 1,.v false 1,.v false 1,.v false 1],[(false,[.s])]⟩ p_s_l13Open F_s_l13Open [] Tryz.func172 (by kernel_rfl) (by kernel_rfl) (by kernel_rfl)
noncomputable def k_s_l05Put:=Kok.mk2 seat 105 ⟨[.v false 1,.v true 8],[(false,[.p])]⟩ p_s_l05Put F_s_l05Put [k_s_Before] Tryz.func105 (by kernel_rfl) (by kernel_rfl) (by kernel_rfl)
noncomputable def k_s_Beyond:=Kok.mk2 seat 197 ⟨[.v false 1,.v false 1,.v false 1,.v false 1],[(false,[.p])]⟩ p_s_Beyond F_s_Beyond [k_s_RoutesWithin,k_s_RoutesBeyond,k_s_StoreOk,k_s_WaysIn,k_s_WayTo] Tryz.func197 (by kernel_rfl) (by kernel_rfl) (by kernel_rfl)
noncomputable def k_s_l08With:=Kok.mk2 seat 110 ⟨[.v false 1,.v false 1],[(false,[.p])]⟩ p_s_l08With F_s_l08With [k_s_l05Put] Tryz.func110 (by kernel_rfl) (by kernel_rfl) (by kernel_rfl)
noncomputable def k_s_l13Beyond:=Kok.mk2 seat 173 ⟨[.v false 1,.v false 1,.v false 1],[(false,[.p])]⟩ p_s_l13Beyond F_s_l13Beyond [k_s_l08With,k_s_Beyond] Tryz.func173 (by kernel_rfl) (by kernel_rfl) (by kernel_rfl)
noncomputable def k_s_l04Copy:=Kok.mk2 seat 108 ⟨[.v true 8],[(true,[.s,.s,.s,.s,.s,.o true,.s,.s])]⟩ p_s_l04Copy F_s_l04Copy [] Tryz.func108 (by kernel_rfl) (by kernel_rfl) (by kernel_rfl)
noncomputable def k_s_l04CopyList:=Kok.mk2 seat 109 ⟨[.v false 1],[(false,[.o true])]⟩ p_s_l04CopyList F_s_l04CopyList [k_s_l04Copy] Tryz.func109 (by kernel_rfl) (by kernel_rfl) (by kernel_rfl)
noncomputable def k_s_Ideal:=Kok.mk2 seat 74 ⟨[.v true 3,.v false 1,.v false 1],[(false,[.p]),(false,[.s])]⟩ p_s_Ideal F_s_Ideal [k_s_AreasOf,k_s_Border,k_s_l05Put,k_s_l04CopyList,k_s_NetOk,k_s_l13Open,k_s_l13Beyond] Tryz.func74 (by kernel_rfl) (by kernel_rfl) (by kernel_rfl)
noncomputable def k_s_TrueRoutes:=Kok.mk2 seat 13 ⟨[.v true 3,.v false 1,.v false 1,.v false 1],[(false,[.p])]⟩ p_s_TrueRoutes F_s_TrueRoutes [k_s_Ideal,k_s_l01In,k_s_RoutesOf,k_s_AreasOf,k_s_Border] Tryz.func13 (by kernel_rfl) (by kernel_rfl) (by kernel_rfl)
noncomputable def k_i_NextTo:=Kok.mk2 seat 252 ⟨[.v true 3,.v false 1,.v false 1],[(false,[.o true])]⟩ p_i_NextTo F_i_NextTo [k_i_copyInts] Tryz.func252 (by kernel_rfl) (by kernel_rfl) (by kernel_rfl)
noncomputable def k_i_nearUp:=Kok.mk2 seat 181 ⟨[.v true 3,.v false 1,.v false 1,.v false 1,.v false 1],[(false,[.o true])]⟩ p_i_nearUp F_i_nearUp [k_i_linkAt,k_i_NextTo] Tryz.func181 (by kernel_rfl) (by kernel_rfl) (by kernel_rfl)
noncomputable def k_i_copyRecord:=Kok.mk2 seat 208 ⟨[.v true 8],[(true,[.s,.s,.s,.s,.s,.o true,.s,.s])]⟩ p_i_copyRecord F_i_copyRecord [] Tryz.func208 (by kernel_rfl) (by kernel_rfl) (by kernel_rfl)
noncomputable def k_i_copyRecords:=Kok.mk2 seat 116 ⟨[.v false 1],[(false,[.o true])]⟩ p_i_copyRecords F_i_copyRecords [k_i_copyRecord] Tryz.func116 (by kernel_rfl) (by kernel_rfl) (by kernel_rfl)
noncomputable def k_i_put:=Kok.mk2 seat 117 ⟨[.v false 1,.v true 8],[(false,[.o true])]⟩ p_i_put F_i_put [k_i_copyRecords,k_i_copyRecord,k_i_Before,k_i_SameKey] Tryz.func117 (by kernel_rfl) (by kernel_rfl) (by kernel_rfl)
noncomputable def k_i_Beyond:=Kok.mk2 seat 253 ⟨[.v false 1,.v false 1,.v false 1,.v false 1],[(false,[.o true])]⟩ p_i_Beyond F_i_Beyond [k_i_put,k_i_RoutesWithin,k_i_RoutesBeyond,k_i_keyAt,k_i_WaysIn,k_i_WayTo] Tryz.func253 (by kernel_rfl) (by kernel_rfl) (by kernel_rfl)
noncomputable def k_i_instead:=Kok.mk2 seat 182 ⟨[.v false 1,.v true 3,.v false 1],[(false,[.o false])]⟩ p_i_instead F_i_instead [k_i_AreasOf,k_i_put,k_i_Beyond] Tryz.func182 (by kernel_rfl) (by kernel_rfl) (by kernel_rfl)
noncomputable def k_i_Ideal:=Kok.mk2 seat 81 ⟨[.v true 3,.v false 1,.v false 1],[(false,[.o false]),(false,[.s])]⟩ p_i_Ideal F_i_Ideal [k_i_AreasOf,k_i_Border,k_i_put,k_i_NetOk,k_i_nearUp,k_i_instead] Tryz.func81 (by kernel_rfl) (by kernel_rfl) (by kernel_rfl)
noncomputable def k_i_TrueRoutes:=Kok.mk2 seat 16 ⟨[.v true 3,.v false 1,.v false 1,.v false 1],[(false,[.o true])]⟩ p_i_TrueRoutes F_i_TrueRoutes [k_i_Ideal,k_i_in,k_i_RoutesOf,k_i_AreasOf,k_i_Border] Tryz.func16 (by kernel_rfl) (by kernel_rfl) (by kernel_rfl)
noncomputable def k_eqBoolS:=Kok.mk2 seat 19 ⟨[.v false 1,.v false 1],[(false,[.s])]⟩ p_eqBoolS F_eqBoolS [] Tryz.func19 (by kernel_rfl) (by kernel_rfl) (by kernel_rfl)
noncomputable def k_FnExactTrueRoutes:=Kok.mk2 seat 3 ⟨[.v true 3,.v false 1,.v false 1,.v false 1],[(false,[.s])]⟩ p_FnExactTrueRoutes F_FnExactTrueRoutes [k_szNet,k_s_TrueRoutes,k_toNet,k_toBoolS,k_i_TrueRoutes,k_eqRouteS,k_eqNet,k_eqBoolS,k_heldRouteS] Tryz.func3 (by kernel_rfl) (by kernel_rfl) (by kernel_rfl)
end Go.Proofs.YtiebbbmibbkpcaaGreatWR

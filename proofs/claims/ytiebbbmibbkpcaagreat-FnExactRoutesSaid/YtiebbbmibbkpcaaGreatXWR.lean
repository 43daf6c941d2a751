/- The walk: each function does as its plain program says (printed by a program). Conditions: none. -/
import Derived.Test.YtiebbbmibbkpcaaGreatChecked
import Derived.Test.YtiebbbmibbkpcaaGreatKd
import Derived.Test.YtiebbbmibbkpcaaGreatXPR
namespace Go.Proofs.YtiebbbmibbkpcaaGreatWR
open Go.Proofs.YtiebbbmibbkpcaaGreatC
theorem fc {α:Type} {p:α→Prop} {a:α} {l:List α} (h:p a∧∀ x∈l,p x):∀ x∈a :: l,p x:=List.forall_mem_cons.2 h
theorem f0 {α:Type} {p:α→Prop}:∀ x∈([]:List α),p x:=fun _ h=>nomatch h
def lty:List (Nat × TI):=[
 (3,⟨1,8,false,[.p (.k (.int .i64 0))],0,[],1⟩),
 (4,⟨1,1,false,[.p (.k (.bool false))],0,[],4⟩),
 (22,⟨1,24,false,[.n],216,[],3⟩),
 (23,⟨1,24,false,[.n],218,[],3⟩),
 (25,⟨3,56,true,[.p (.k (.int .i64 0)),.n,.n],0,[(0,1),(1,1),(2,1)],0⟩),
 (26,⟨1,24,false,[.n],4,[],3⟩),
 (28,⟨1,24,false,[.n],128,[],3⟩),
 (30,⟨1,24,false,[.n],214,[],3⟩),
 (31,⟨1,24,false,[.n],202,[],3⟩),
 (33,⟨3,56,true,[.p (.k (.int .i64 0)),.n,.n],0,[(0,1),(1,1),(2,1)],0⟩),
 (43,⟨1,24,false,[.n],3,[],3⟩),
 (44,⟨1,24,false,[.n],230,[],3⟩),
 (46,⟨7,120,true,[.p (.k (.int .i64 0)),.p (.k (.int .i64 0)),.p (.k (.int .i64 0)),.n,.n,.n,.n],0,[(0,1),(1,1),(2,3),(5,1),(6,1)],0⟩),
 (47,⟨1,24,false,[.n],225,[],3⟩),
 (49,⟨8,144,true,[.p (.k (.int .i64 0)),.p (.k (.int .i64 0)),.p (.k (.int .i64 0)),.n,.n,.n,.n,.n],0,[(0,7),(7,1)],0⟩),
 (52,⟨1,24,false,[.n],144,[],3⟩),
 (54,⟨7,120,true,[.p (.k (.int .i64 0)),.p (.k (.int .i64 0)),.p (.k (.int .i64 0)),.n,.n,.n,.n],0,[(0,1),(1,1),(2,3),(5,1),(6,1)],0⟩),
 (55,⟨1,24,false,[.n],158,[],3⟩),
 (57,⟨8,144,true,[.p (.k (.int .i64 0)),.p (.k (.int .i64 0)),.p (.k (.int .i64 0)),.n,.n,.n,.n,.n],0,[(0,7),(7,1)],0⟩),
 (74,⟨1,24,false,[.n],49,[],3⟩),
 (75,⟨1,24,false,[.n],96,[],3⟩),
 (77,⟨10,208,true,[.p (.k (.int .i64 0)),.n,.n,.n,.n,.n,.n,.n,.n,.p (.k (.int .i64 0))],0,[(0,3),(3,1),(4,1),(5,1),(6,1),(7,1),(8,1),(9,1)],0⟩),
 (80,⟨1,24,false,[.n],57,[],3⟩),
 (81,⟨1,24,false,[.n],100,[],3⟩),
 (83,⟨10,208,true,[.p (.k (.int .i64 0)),.n,.n,.n,.n,.n,.n,.n,.n,.p (.k (.int .i64 0))],0,[(0,3),(3,1),(4,1),(5,1),(6,1),(7,1),(8,1),(9,1)],0⟩),
 (96,⟨6,80,true,[.p (.k (.int .i64 0)),.p (.k (.int .i64 0)),.p (.k (.int .i64 0)),.p (.k (.int .i64 0)),.n,.n],0,[(0,1),(1,1),(2,1),(3,1),(4,1),(5,1)],0⟩),
 (100,⟨6,80,true,[.p (.k (.int .i64 0)),.p (.k (.int .i64 0)),.p (.k (.int .i64 0)),.p (.k (.int .i64 0)),.n,.n],0,[(0,1),(1,1),(2,1),(3,1),(4,1),(5,1)],0⟩),
 (128,⟨6,64,true,[.p (.k (.bool false)),.p (.k (.int .i64 0)),.p (.k (.int .i64 0)),.p (.k (.int .i64 0)),.p (.k (.int .i64 0)),.n],0,[(0,1),(1,1),(2,1),(3,1),(4,1),(5,1)],0⟩),
 (142,⟨1,24,false,[.n],200,[],3⟩),
 (144,⟨8,80,true,[.p (.k (.int .i64 0)),.p (.k (.int .i64 0)),.p (.k (.int .i64 0)),.p (.k (.int .i64 0)),.p (.k (.int .i64 0)),.n,.p (.k (.int .i64 0)),.p (.k (.bool false))],0,[(0,1),(1,1),(2,1),(3,1),(4,1),(5,1),(6,1),(7,1)],0⟩),
 (158,⟨4,32,true,[.p (.k (.int .i64 0)),.p (.k (.int .i64 0)),.p (.k (.int .i64 0)),.p (.k (.bool false))],0,[(0,1),(1,1),(2,1),(3,1)],5⟩),
 (200,⟨2,16,true,[.p (.k (.int .i64 0)),.p (.k (.int .i64 0))],0,[(0,1),(1,1)],5⟩),
 (202,⟨4,32,true,[.p (.k (.int .i64 0)),.p (.k (.int .i64 0)),.p (.k (.int .i64 0)),.p (.k (.bool false))],0,[(0,1),(1,1),(2,1),(3,1)],5⟩),
 (204,⟨1,24,false,[.n],209,[],3⟩),
 (209,⟨3,40,true,[.p (.k (.int .i64 0)),.p (.k (.int .i64 0)),.n],0,[(0,1),(1,1),(2,1)],0⟩),
 (214,⟨4,32,true,[.p (.k (.int .i64 0)),.p (.k (.int .i64 0)),.p (.k (.int .i64 0)),.p (.k (.int .i64 0))],0,[(0,1),(1,1),(2,1),(3,1)],5⟩),
 (216,⟨4,32,true,[.p (.k (.int .i64 0)),.p (.k (.int .i64 0)),.p (.k (.int .i64 0)),.p (.k (.int .i64 0))],0,[(0,1),(1,1),(2,1),(3,1)],5⟩),
 (218,⟨4,32,true,[.p (.k (.int .i64 0)),.p (.k (.int .i64 0)),.p (.k (.int .i64 0)),.p (.k (.bool false))],0,[(0,1),(1,1),(2,1),(3,1)],5⟩),
 (225,⟨4,32,true,[.p (.k (.int .i64 0)),.p (.k (.int .i64 0)),.p (.k (.int .i64 0)),.p (.k (.bool false))],0,[(0,1),(1,1),(2,1),(3,1)],5⟩),
 (228,⟨1,24,false,[.n],287,[],3⟩),
 (230,⟨8,80,true,[.p (.k (.int .i64 0)),.p (.k (.int .i64 0)),.p (.k (.int .i64 0)),.p (.k (.int .i64 0)),.p (.k (.int .i64 0)),.n,.p (.k (.int .i64 0)),.p (.k (.bool false))],0,[(0,1),(1,1),(2,1),(3,1),(4,1),(5,1),(6,1),(7,1)],0⟩),
 (250,⟨1,24,false,[.n],204,[],3⟩),
 (281,⟨1,24,false,[.n],43,[],3⟩),
 (287,⟨2,16,true,[.p (.k (.int .i64 0)),.p (.k (.int .i64 0))],0,[(0,1),(1,1)],5⟩)]
def lhint:List ((Nat × Nat × Nat) × Js):=[
 ((98,0,0),[(1,false,.phi false [.p]),(4,false,.phi false [.p]),(5,false,.phi false [.p])]),
 ((79,0,0),[(4,false,.phi false [.p]),(7,false,.rows [(0,true)])]),
 ((80,0,0),[(4,false,.phi false [.p]),(7,false,.rows [(0,true)])]),
 ((111,0,0),[(4,false,.phi false [.p]),(7,false,.rows [(0,true)])]),
 ((259,0,0),[(4,false,.phi false [.p]),(7,false,.rows [(0,true)])]),
 ((112,0,0),[(4,false,.phi false [.p]),(7,false,.rows [(0,true)])]),
 ((93,0,0),[(4,false,.phi false [.p]),(7,false,.rows [(0,true)])]),
 ((135,0,0),[(2,false,.phi false [.p]),(3,false,.phi false [.p])]),
 ((135,0,2),[(2,false,.phi false [.p]),(4,false,.phi false [.p])]),
 ((122,0,0),[(8,false,.phi false [.p]),(9,false,.phi false [.p])]),
 ((195,0,0),[(2,false,.phi false [.p]),(3,false,.phi false [.p])]),
 ((286,0,0),[(2,false,.phi false [.p]),(3,false,.phi false [.p])]),
 ((176,0,0),[(2,false,.phi false [.p]),(3,false,.phi false [.p])]),
 ((142,0,0),[(3,false,.phi false [.o true]),(4,false,.phi false [.p])]),
 ((142,2,16),[(3,false,.phi false [.o true])]),
 ((190,0,0),[(4,false,.phi false [.p]),(5,false,.phi false [.p])]),
 ((92,0,0),[(2,false,.phi false [.p]),(3,false,.phi false [.p]),(5,false,.phi false [.p])]),
 ((92,0,2),[(2,false,.phi false [.p]),(3,false,.phi false [.p]),(6,false,.phi false [.p])]),
 ((178,0,0),[(7,false,.phi false [.o true]),(8,false,.phi false [.p])]),
 ((178,2,19),[(7,false,.phi false [.o true])]),
 ((77,0,0),[(5,false,.phi false [.o true]),(6,false,.phi false [.p])]),
 ((77,2,17),[(5,false,.phi false [.o true])]),
 ((106,0,0),[(4,false,.phi false [.p]),(5,false,.phi false [.p])]),
 ((307,0,0),[(8,false,.phi false [.p]),(11,false,.phi false [.p])]),
 ((283,0,0),[(6,false,.phi false [.p]),(10,false,.rows [(0,true)])]),
 ((283,0,2),[(9,false,.phi false [.p]),(10,false,.rows [(0,true)])]),
 ((283,2,48),[(10,false,.rows [(0,true)])]),
 ((153,0,0),[(4,false,.phi false [.p]),(5,false,.phi false [.p])]),
 ((251,0,0),[(5,false,.phi false [.o true]),(6,false,.phi false [.p])]),
 ((251,2,19),[(5,false,.phi false [.o true])]),
 ((245,0,0),[(14,false,.phi false [.p]),(47,false,.rows [(0,true)])]),
 ((245,0,2),[(15,false,.phi false [.p]),(48,false,.rows [(0,false)]),(49,false,.rows [(0,true)]),(47,false,.rows [(0,true)])]),
 ((245,0,4),[(16,false,.phi false [.p]),(17,false,.phi false [.p])]),
 ((245,0,6),[(18,false,.phi false [.p]),(48,false,.rows [(0,false)]),(47,false,.rows [(0,true)])]),
 ((245,0,8),[(7,false,.phi false [.o true]),(22,false,.phi false [.p])]),
 ((245,2,126),[(20,false,.phi false [.p])]),
 ((245,2,147),[(48,false,.rows [(0,false)]),(47,false,.rows [(0,true)])]),
 ((245,2,163),[(48,false,.rows [(0,false)])]),
 ((245,2,180),[(7,false,.phi false [.o true])]),
 ((245,2,94),[(16,false,.phi false [.p])]),
 ((246,0,0),[(5,false,.phi false [.p]),(6,false,.phi false [.p])]),
 ((174,0,0),[(8,false,.phi false [.o false]),(9,false,.phi false [.p])]),
 ((174,0,2),[(7,false,.phi false [.o false]),(10,false,.phi false [.p])]),
 ((174,0,4),[(12,false,.phi false [.p]),(13,false,.phi false [.p]),(11,true,.phi true [.p,.p,.p])]),
 ((174,2,56),[(14,true,.phi true [.p,.p,.p])]),
 ((174,2,61),[(7,false,.phi false [.o false])]),
 ((248,0,0),[(6,false,.phi false [.p]),(16,false,.phi false [.p]),(12,true,.phi true [.p,.p,.p])]),
 ((248,2,81),[(18,true,.phi true [.p,.p,.p])]),
 ((175,0,0),[(11,false,.phi false [.o false]),(12,false,.phi false [.p])]),
 ((175,0,2),[(9,false,.phi false [.o false]),(13,false,.phi false [.p])]),
 ((175,0,4),[(17,false,.phi false [.p]),(18,false,.phi false [.p]),(16,true,.phi true [.p,.p,.p])]),
 ((175,2,88),[(9,false,.phi false [.o false])]),
 ((177,0,0),[(15,false,.phi false [.p]),(16,false,.phi false [.p]),(14,true,.phi true [.k,.k,.p,.p,.p,.p])]),
 ((177,2,106),[(14,true,.phi true [.k,.k,.k,.k,.k,.p])]),
 ((177,2,70),[(14,true,.phi true [.k,.k,.p,.k,.k,.k]),(20,false,.phi false [.p]),(21,false,.phi false [.p])]),
 ((177,2,76),[(14,true,.phi true [.k,.k,.k,.p,.p,.p])]),
 ((76,0,0),[(9,false,.phi false [.o false]),(12,false,.phi false [.p])]),
 ((76,0,2),[(9,false,.phi false [.o false]),(13,false,.phi false [.p])]),
 ((76,0,4),[(9,false,.phi false [.o false]),(14,false,.phi false [.p])]),
 ((76,2,109),[(15,true,.phi true [.p,.p,.p,.p,.p,.p]),(16,false,.phi false [.p])]),
 ((76,2,119),[(9,false,.phi false [.o false]),(15,true,.phi true [.k,.k,.k,.k,.k,.d])]),
 ((76,2,43),[(9,false,.phi false [.o false])]),
 ((76,2,75),[(9,false,.phi false [.o false])]),
 ((138,0,0),[(2,false,.phi false [.p]),(26,false,.phi false [.p])]),
 ((138,0,2),[(2,false,.phi false [.p]),(55,false,.phi false [.p])]),
 ((214,0,0),[(8,false,.phi false [.p]),(14,false,.phi false [.p])]),
 ((201,0,0),[(2,false,.phi false [.p]),(3,false,.phi false [.p])]),
 ((291,0,0),[(2,false,.phi false [.p]),(8,false,.phi false [.p])]),
 ((202,0,0),[(2,false,.phi false [.p]),(7,false,.phi false [.p])]),
 ((124,0,0),[(5,false,.phi false [.o true]),(6,false,.phi false [.p])]),
 ((124,0,2),[(5,false,.phi false [.o true]),(7,false,.phi false [.p])]),
 ((124,2,23),[(5,false,.phi false [.o true])]),
 ((146,0,0),[(3,false,.phi false [.o true]),(8,false,.phi false [.p])]),
 ((146,2,13),[(3,false,.phi false [.o true])]),
 ((192,0,0),[(4,false,.phi false [.p]),(13,false,.phi false [.p])]),
 ((94,0,0),[(2,false,.phi false [.p]),(26,false,.phi false [.p])]),
 ((148,0,0),[(5,false,.phi false [.p])]),
 ((148,4,6),[(0,false,.rows [(0,true)])]),
 ((84,0,0),[(5,false,.phi false [.o true]),(11,false,.phi false [.p])]),
 ((84,2,24),[(5,false,.phi false [.o true])]),
 ((187,0,0),[(4,false,.phi false [.p]),(9,false,.phi false [.p])]),
 ((204,0,0),[(4,false,.phi false [.p]),(9,false,.phi false [.p])]),
 ((313,0,0),[(8,false,.phi false [.p]),(25,false,.phi false [.p])]),
 ((257,0,1),[(34,false,.phi false [.p]),(5,true,.phi true [.k,.k,.o true])]),
 ((257,0,3),[(47,false,.phi false [.p]),(5,true,.phi true [.k,.k,.o true])]),
 ((288,0,0),[(10,false,.phi false [.p]),(3,false,.rows [(0,false)])]),
 ((288,2,47),[(12,true,.phi true [.k,.k,.o true])]),
 ((288,2,55),[(12,true,.phi true [.k,.k,.d]),(3,false,.rows [(0,false)])]),
 ((288,2,70),[(3,false,.rows [(0,false)])]),
 ((288,4,5),[(3,false,.rows [(0,false)])]),
 ((254,0,0),[(8,false,.phi false [.o true]),(30,false,.rows [(0,false)])]),
 ((254,0,2),[(9,false,.phi false [.p]),(10,false,.phi false [.p])]),
 ((254,0,4),[(11,false,.phi false [.o false]),(84,false,.phi false [.p]),(30,false,.rows [(0,false)])]),
 ((254,2,68),[(9,false,.phi false [.p])]),
 ((254,2,90),[(11,false,.phi false [.o false])]),
 ((255,0,0),[(5,false,.phi false [.p])]),
 ((255,4,7),[(0,false,.rows [(0,true)])]),
 ((183,0,0),[(7,false,.phi false [.o false]),(14,false,.phi false [.p])]),
 ((183,0,2),[(7,false,.phi false [.o false]),(23,false,.phi false [.p])]),
 ((256,0,0),[(5,false,.phi false [.p]),(10,false,.phi false [.p])]),
 ((184,0,0),[(10,false,.phi false [.o false]),(23,false,.phi false [.p])]),
 ((186,0,0),[(12,false,.phi false [.p]),(13,false,.phi false [.p]),(14,false,.phi false [.p]),(21,false,.phi false [.p]),(10,true,.phi true [.p,.p,.o true]),(11,true,.phi true [.p,.p,.o true])]),
 ((186,2,49),[(17,true,.phi true [.p,.p,.o true]),(18,false,.phi false [.p])]),
 ((186,2,64),[(17,true,.phi true [.p,.p,.o true])]),
 ((186,2,75),[(17,true,.phi true [.p,.p,.o true])]),
 ((186,2,86),[(11,true,.phi true [.p,.p,.o true]),(13,false,.phi false [.p]),(14,false,.phi false [.p]),(17,true,.phi true [.k,.k,.d])]),
 ((83,0,0),[(9,false,.phi false [.o true]),(35,false,.phi false [.p]),(27,false,.rows [(0,false)])]),
 ((83,0,2),[(9,false,.phi false [.o true]),(57,false,.phi false [.p]),(32,false,.rows [(0,false)])]),
 ((83,0,4),[(16,false,.phi false [.o true]),(75,false,.phi false [.p])]),
 ((83,0,6),[(9,false,.phi false [.o true]),(98,false,.phi false [.p])]),
 ((83,2,110),[(9,false,.phi false [.o true]),(108,false,.phi true [.k,.k,.k,.k,.k,.d]),(22,true,.phi true [.k,.k,.k,.k,.k,.d])]),
 ((83,2,42),[(9,false,.phi false [.o true])]),
 ((83,2,86),[(16,false,.phi false [.o true])]),
 ((67,0,0),[(4,false,.phi false [.p]),(5,false,.phi false [.p])]),
 ((17,0,0),[(4,false,.phi false [.p]),(5,false,.phi false [.p])]),
 ((87,0,0),[(4,false,.phi false [.p]),(5,false,.phi false [.p])]),
 ((88,0,0),[(4,false,.phi false [.p]),(5,false,.phi false [.p])]),
 ((211,0,0),[(4,false,.phi false [.p]),(5,false,.phi false [.p])]),
 ((35,0,0),[(4,false,.phi false [.p]),(5,false,.phi false [.p])]),
 ((95,0,0),[(4,false,.phi false [.p]),(5,false,.phi false [.p])]),
 ((89,0,0),[(1,false,.phi false [.p]),(5,false,.phi false [.p]),(0,false,.rows [(0,true)])]),
 ((90,0,0),[(1,false,.phi false [.p]),(5,false,.phi false [.p]),(0,false,.rows [(0,true)])]),
 ((70,0,0),[(1,false,.phi false [.p]),(5,false,.phi false [.p]),(0,false,.rows [(0,true)])]),
 ((119,0,0),[(1,false,.phi false [.p]),(5,false,.phi false [.p]),(0,false,.rows [(0,true)])]),
 ((37,0,0),[(1,false,.phi false [.p]),(5,false,.phi false [.p]),(0,false,.rows [(0,true)])]),
 ((96,0,0),[(1,false,.phi false [.p]),(5,false,.phi false [.p]),(0,false,.rows [(0,true)])]),
 ((22,0,0),[(1,false,.phi false [.p]),(5,false,.phi false [.p]),(0,false,.rows [(0,true)])]),
 ((71,0,0),[(1,false,.phi false [.p]),(4,false,.phi false [.p]),(5,false,.phi false [.p])]),
 ((23,0,0),[(1,false,.phi false [.p]),(4,false,.phi false [.p]),(5,false,.phi false [.p])]),
 ((15,0,0),[(4,false,.phi false [.p]),(7,false,.rows [(0,true)])]),
 ((172,0,0),[(10,false,.phi false [.p]),(11,false,.phi false [.p])]),
 ((105,0,0),[(5,false,.phi false [.o false]),(6,false,.phi false [.p])]),
 ((105,0,2),[(5,false,.phi false [.o false]),(7,false,.phi false [.p])]),
 ((105,2,20),[(5,false,.phi false [.o false])]),
 ((105,2,43),[(5,false,.phi false [.o false])]),
 ((197,0,0),[(10,false,.phi false [.o true]),(11,false,.phi false [.p])]),
 ((197,0,2),[(9,false,.phi false [.o true]),(15,false,.phi false [.p])]),
 ((197,2,37),[(10,false,.phi false [.o true])]),
 ((197,2,84),[(18,true,.phi true [.p,.p,.p]),(19,false,.phi false [.p])]),
 ((197,2,91),[(9,false,.phi false [.o true])]),
 ((110,0,0),[(5,false,.phi false [.p]),(6,false,.phi false [.p])]),
 ((110,2,21),[(7,true,.phi true [.k,.k,.k,.k,.p,.k,.k,.k])]),
 ((173,0,0),[(7,false,.phi false [.o false]),(8,false,.phi false [.p])]),
 ((173,0,2),[(9,false,.phi false [.o false]),(10,false,.phi false [.p])]),
 ((173,2,49),[(9,false,.phi false [.o false])]),
 ((109,0,0),[(3,false,.phi false [.o true]),(4,false,.phi false [.p])]),
 ((74,0,0),[(8,false,.phi false [.p]),(9,false,.phi false [.p])]),
 ((74,0,10),[(8,false,.phi false [.p]),(18,false,.phi false [.p])]),
 ((74,0,2),[(8,false,.phi false [.p]),(11,false,.phi false [.p])]),
 ((74,0,4),[(13,false,.phi false [.p]),(12,true,.phi true [.k,.k,.k,.k,.k,.o true,.k,.k])]),
 ((74,0,6),[(8,false,.phi false [.p]),(15,false,.phi false [.p])]),
 ((74,0,8),[(8,false,.phi false [.p]),(17,false,.phi false [.p])]),
 ((74,2,119),[(8,false,.phi false [.p])]),
 ((74,2,150),[(8,false,.phi false [.p])]),
 ((74,2,90),[(12,true,.phi true [.k,.k,.k,.k,.k,.o true,.k,.k])]),
 ((252,0,0),[(7,false,.phi false [.o true]),(13,false,.phi false [.p])]),
 ((252,2,24),[(7,false,.phi false [.o true])]),
 ((252,2,32),[(7,false,.phi false [.o true])]),
 ((181,0,0),[(11,false,.phi false [.o true]),(20,false,.phi false [.p])]),
 ((181,2,39),[(11,false,.phi false [.o true])]),
 ((116,0,0),[(3,false,.phi false [.o true]),(8,false,.phi false [.p])]),
 ((117,0,0),[(5,false,.phi false [.p])]),
 ((117,2,40),[(5,false,.phi false [.p])]),
 ((287,2,36),[(4,true,.phi false [.o true])]),
 ((253,0,0),[(9,false,.phi false [.o true]),(21,false,.phi false [.p])]),
 ((253,0,2),[(43,false,.phi false [.p]),(13,true,.phi false [.o true])]),
 ((253,0,4),[(58,false,.phi false [.p]),(13,true,.phi false [.o true])]),
 ((253,2,27),[(9,false,.phi false [.o true])]),
 ((253,2,52),[(13,true,.phi false [.o true])]),
 ((182,0,0),[(7,false,.phi false [.o false]),(17,false,.phi false [.p])]),
 ((182,0,2),[(7,false,.phi false [.o false]),(40,false,.phi false [.p])]),
 ((182,0,4),[(7,false,.phi false [.o false]),(50,false,.phi false [.p]),(48,false,.rows [(0,false)])]),
 ((182,2,29),[(7,false,.phi false [.o false])]),
 ((81,0,0),[(8,false,.phi false [.o true]),(9,false,.phi false [.p])]),
 ((81,0,2),[(8,false,.phi false [.o true]),(43,false,.phi false [.p])]),
 ((81,0,4),[(8,false,.phi false [.o true]),(67,false,.phi false [.p])]),
 ((81,0,6),[(8,false,.phi false [.o false]),(89,false,.phi false [.p])]),
 ((81,0,8),[(8,false,.phi false [.o false]),(14,false,.phi false [.p])]),
 ((81,2,106),[(8,false,.phi false [.o false])]),
 ((81,2,51),[(8,false,.phi false [.o true])]),
 ((81,2,76),[(8,false,.phi false [.o true])]),
 ((19,0,0),[(4,false,.phi false [.p]),(5,false,.phi false [.p])]),
 ((21,0,0),[(1,false,.phi false [.p]),(5,false,.phi false [.p]),(0,false,.rows [(0,true)])]),
 ((127,0,0),[(1,false,.phi false [.p]),(4,false,.phi false [.p]),(5,false,.phi false [.p])]),
 ((128,0,0),[(1,false,.phi false [.p]),(4,false,.phi false [.p]),(5,false,.phi false [.p])]),
 ((130,0,0),[(4,false,.phi false [.p]),(7,false,.rows [(0,true)])]),
 ((131,0,0),[(4,false,.phi false [.p]),(7,false,.rows [(0,true)])]),
 ((129,0,0),[(4,false,.phi false [.p]),(5,false,.phi false [.p])]),
 ((44,0,0),[(2,false,.phi false [.p]),(3,false,.phi false [.p])]),
 ((133,0,0),[(4,false,.phi false [.p]),(15,false,.phi false [.p])]),
 ((46,0,0),[(2,false,.phi false [.p]),(8,false,.phi false [.p]),(1,true,.phi true [.p,.p,.p,.p,.p,.p,.p,.p,.p,.p])]),
 ((134,0,0),[(4,false,.phi false [.p]),(5,false,.phi false [.p])]),
 ((54,0,0),[(4,false,.phi false [.p]),(5,false,.phi false [.p])]),
 ((196,0,0),[(6,false,.phi false [.p]),(5,true,.phi true [.k,.k,.k,.k,.k,.o true,.k,.k])]),
 ((196,2,25),[(5,true,.phi true [.k,.k,.k,.k,.k,.o true,.k,.k])]),
 ((101,0,0),[(5,false,.phi false [.o false]),(6,false,.phi false [.p])]),
 ((101,0,2),[(7,false,.phi false [.o false]),(9,false,.phi false [.p])]),
 ((101,0,4),[(7,false,.phi false [.o false]),(10,false,.phi false [.p])]),
 ((101,0,6),[(3,false,.phi false [.p]),(12,false,.phi false [.p])]),
 ((101,2,46),[(7,false,.phi false [.o false]),(5,false,.phi false [.p]),(40,false,.phi false [.p]),(41,false,.phi false [.d])]),
 ((101,2,86),[(7,false,.phi false [.o false])]),
 ((103,0,0),[(4,false,.phi false [.p]),(5,false,.phi false [.p])]),
 ((31,0,0),[(5,false,.phi false [.p]),(6,false,.phi false [.p])]),
 ((31,0,2),[(5,false,.phi false [.p]),(10,false,.phi false [.p])]),
 ((31,0,4),[(3,false,.phi false [.o true]),(13,false,.phi false [.p])]),
 ((261,0,0),[(3,false,.phi false [.o true]),(14,false,.phi false [.p])]),
 ((261,0,2),[(7,false,.phi false [.p]),(6,true,.phi true [.k,.k,.k,.k,.k,.o true,.k,.k])]),
 ((261,2,36),[(6,true,.phi true [.k,.k,.k,.k,.k,.o true,.k,.k])]),
 ((262,0,0),[(7,false,.phi false [.o false]),(14,false,.phi false [.p])]),
 ((262,0,2),[(7,false,.phi false [.o false]),(34,false,.phi false [.p])]),
 ((262,2,26),[(7,false,.phi false [.o false])]),
 ((203,0,0),[(3,false,.phi false [.o true]),(22,false,.phi false [.p]),(19,false,.rows [(0,false)])]),
 ((203,0,2),[(3,false,.phi false [.o true]),(48,false,.phi false [.p])]),
 ((203,0,4),[(3,false,.phi false [.o true]),(59,false,.phi false [.p]),(57,false,.rows [(0,false)])]),
 ((203,0,6),[(3,false,.phi false [.o true]),(72,false,.phi false [.p])]),
 ((203,2,39),[(3,false,.phi false [.o true]),(19,false,.phi false [.p]),(4,false,.phi false [.p]),(20,false,.phi false [.p])]),
 ((203,2,80),[(3,false,.phi false [.o true])]),
 ((205,0,0),[(4,false,.phi false [.p]),(36,false,.phi false [.p])]),
 ((206,2,12),[(5,false,.phi false [.p])]),
 ((207,2,8),[(3,true,.phi true [.k,.k,.k,.k,.k,.k,.p,.k])]),
 ((115,0,0),[(3,false,.phi false [.o true]),(15,false,.phi false [.p]),(12,false,.rows [(0,false)])]),
 ((115,0,2),[(3,false,.phi false [.o true]),(46,false,.phi false [.p])]),
 ((115,2,34),[(3,false,.phi false [.o true]),(6,true,.phi true [.k,.k,.k,.k,.p,.k,.k,.k])]),
 ((115,2,66),[(3,false,.phi false [.o true]),(10,true,.phi true [.k,.k,.k,.k,.p,.k,.k,.k])]),
 ((33,0,0),[(3,false,.phi false [.o true]),(6,false,.phi false [.o true]),(22,false,.phi false [.p])]),
 ((212,0,0),[(1,false,.phi false [.p]),(4,false,.phi false [.p]),(5,false,.phi false [.p])]),
 ((213,0,0),[(1,false,.phi false [.p]),(4,false,.phi false [.p]),(5,false,.phi false [.p])]),
 ((121,0,0),[(1,false,.phi false [.p]),(4,false,.phi false [.p]),(5,false,.phi false [.p])]),
 ((39,0,0),[(1,false,.phi false [.p]),(4,false,.phi false [.p]),(5,false,.phi false [.p])]),
 ((40,0,0),[(9,false,.phi false [.p]),(8,true,.phi true [.k,.k,.k,.k,.k,.k,.k,.o true])]),
 ((40,0,2),[(10,false,.phi false [.p]),(8,true,.phi true [.k,.k,.k,.k,.k,.k,.k,.o true])]),
 ((40,2,38),[(8,true,.phi true [.k,.k,.k,.k,.k,.k,.k,.o true])]),
 ((125,0,0),[(1,false,.phi false [.p]),(4,false,.phi false [.p]),(5,false,.phi false [.p])])]
def lfz:List (Nat × Nat × Nat):=[]
def lnest:List Nat:=[89,90,20,70,119,37,36,96,29,22,4,21,3,7,33,5,6]
noncomputable def lfn:List (Nat × Func):=[(148,Tryz.f148),(288,Tryz.f288),(255,Tryz.f255),(89,Tryz.f89),(90,Tryz.f90),(20,Tryz.f20),(70,Tryz.f70),(119,Tryz.f119),(37,Tryz.f37),(36,Tryz.f36),(96,Tryz.f96),(29,Tryz.f29),(22,Tryz.f22),(287,Tryz.f287),(21,Tryz.f21)]
noncomputable def cx:Cx:={ ty:=tiOf lty,sg:=fun _=>none,fn:=fnOf lfn,hint:=hintOf lhint,fz:=fzOf lfz,nest:=memN lnest }
theorem in_szLinkS:FnIn Tryz.prog 72:=.mk Tryz.func72 (by kernel_rfl) (by kernel_rfl)
theorem in_szThingS:FnIn Tryz.prog 73:=.mk Tryz.func73 (by kernel_rfl) (by kernel_rfl)
theorem in_szNet:FnIn Tryz.prog 12:=.mk Tryz.func12 (by kernel_rfl) (by kernel_rfl)
theorem in_szIntS:FnIn Tryz.prog 97:=.mk Tryz.func97 (by kernel_rfl) (by kernel_rfl)
theorem in_szNearS:FnIn Tryz.prog 258:=.mk Tryz.func258 (by kernel_rfl) (by kernel_rfl)
theorem in_szRecord:FnIn Tryz.prog 194:=.mk Tryz.func194 (by kernel_rfl) (by kernel_rfl)
theorem in_szRecordS:FnIn Tryz.prog 98:=.mk Tryz.func98 (by kernel_rfl) (by kernel_rfl)
theorem in_szSelf:FnIn Tryz.prog 30:=.mk Tryz.func30 (by kernel_rfl) (by kernel_rfl)
theorem in_szEarS:FnIn Tryz.prog 91:=.mk Tryz.func91 (by kernel_rfl) (by kernel_rfl)
theorem in_szNode:FnIn Tryz.prog 24:=.mk Tryz.func24 (by kernel_rfl) (by kernel_rfl)
theorem in_toLink:FnIn Tryz.prog 179:=.mk Tryz.func179 (by kernel_rfl) (by kernel_rfl)
theorem in_toLinkS:FnIn Tryz.prog 79:=.mk Tryz.func79 (by kernel_rfl) (by kernel_rfl)
theorem in_toThing:FnIn Tryz.prog 180:=.mk Tryz.func180 (by kernel_rfl) (by kernel_rfl)
theorem in_toThingS:FnIn Tryz.prog 80:=.mk Tryz.func80 (by kernel_rfl) (by kernel_rfl)
theorem in_toNet:FnIn Tryz.prog 14:=.mk Tryz.func14 (by kernel_rfl) (by kernel_rfl)
theorem in_toIntS:FnIn Tryz.prog 111:=.mk Tryz.func111 (by kernel_rfl) (by kernel_rfl)
theorem in_toNear:FnIn Tryz.prog 290:=.mk Tryz.func290 (by kernel_rfl) (by kernel_rfl)
theorem in_toNearS:FnIn Tryz.prog 259:=.mk Tryz.func259 (by kernel_rfl) (by kernel_rfl)
theorem in_toRecord:FnIn Tryz.prog 200:=.mk Tryz.func200 (by kernel_rfl) (by kernel_rfl)
theorem in_toRecordS:FnIn Tryz.prog 112:=.mk Tryz.func112 (by kernel_rfl) (by kernel_rfl)
theorem in_toSelf:FnIn Tryz.prog 32:=.mk Tryz.func32 (by kernel_rfl) (by kernel_rfl)
theorem in_toEar:FnIn Tryz.prog 191:=.mk Tryz.func191 (by kernel_rfl) (by kernel_rfl)
theorem in_toEarS:FnIn Tryz.prog 93:=.mk Tryz.func93 (by kernel_rfl) (by kernel_rfl)
theorem in_toNode:FnIn Tryz.prog 26:=.mk Tryz.func26 (by kernel_rfl) (by kernel_rfl)
theorem in_s_l01In:FnIn Tryz.prog 75:=.mk Tryz.func75 (by kernel_rfl) (by kernel_rfl)
theorem in_s_LinkOk:FnIn Tryz.prog 215:=.mk Tryz.func215 (by kernel_rfl) (by kernel_rfl)
theorem in_s_l03Ahead:FnIn Tryz.prog 216:=.mk Tryz.func216 (by kernel_rfl) (by kernel_rfl)
theorem in_s_l03Thing:FnIn Tryz.prog 217:=.mk Tryz.func217 (by kernel_rfl) (by kernel_rfl)
theorem in_s_NetOk:FnIn Tryz.prog 135:=.mk Tryz.func135 (by kernel_rfl) (by kernel_rfl)
theorem in_s_CostTo:FnIn Tryz.prog 122:=.mk Tryz.func122 (by kernel_rfl) (by kernel_rfl)
theorem in_s_l08Heard:FnIn Tryz.prog 195:=.mk Tryz.func195 (by kernel_rfl) (by kernel_rfl)
theorem in_s_l04Near:FnIn Tryz.prog 286:=.mk Tryz.func286 (by kernel_rfl) (by kernel_rfl)
theorem in_s_RecordOk:FnIn Tryz.prog 249:=.mk Tryz.func249 (by kernel_rfl) (by kernel_rfl)
theorem in_s_Before:FnIn Tryz.prog 199:=.mk Tryz.func199 (by kernel_rfl) (by kernel_rfl)
theorem in_s_StoreOk:FnIn Tryz.prog 176:=.mk Tryz.func176 (by kernel_rfl) (by kernel_rfl)
theorem in_s_SelfOk:FnIn Tryz.prog 99:=.mk Tryz.func99 (by kernel_rfl) (by kernel_rfl)
theorem in_s_l10Heard:FnIn Tryz.prog 142:=.mk Tryz.func142 (by kernel_rfl) (by kernel_rfl)
theorem in_s_l10SameInts:FnIn Tryz.prog 190:=.mk Tryz.func190 (by kernel_rfl) (by kernel_rfl)
theorem in_s_NodeOk:FnIn Tryz.prog 92:=.mk Tryz.func92 (by kernel_rfl) (by kernel_rfl)
theorem in_s_NextTo:FnIn Tryz.prog 178:=.mk Tryz.func178 (by kernel_rfl) (by kernel_rfl)
theorem in_s_AreasOf:FnIn Tryz.prog 77:=.mk Tryz.func77 (by kernel_rfl) (by kernel_rfl)
theorem in_s_Border:FnIn Tryz.prog 78:=.mk Tryz.func78 (by kernel_rfl) (by kernel_rfl)
theorem in_s_SameKey:FnIn Tryz.prog 198:=.mk Tryz.func198 (by kernel_rfl) (by kernel_rfl)
theorem in_s_l05At:FnIn Tryz.prog 106:=.mk Tryz.func106 (by kernel_rfl) (by kernel_rfl)
theorem in_s_l06Node:FnIn Tryz.prog 282:=.mk Tryz.func282 (by kernel_rfl) (by kernel_rfl)
theorem in_s_l06Tells:FnIn Tryz.prog 307:=.mk Tryz.func307 (by kernel_rfl) (by kernel_rfl)
theorem in_s_l06Links:FnIn Tryz.prog 283:=.mk Tryz.func283 (by kernel_rfl) (by kernel_rfl)
theorem in_s_l03In:FnIn Tryz.prog 153:=.mk Tryz.func153 (by kernel_rfl) (by kernel_rfl)
theorem in_s_l06Add:FnIn Tryz.prog 251:=.mk Tryz.func251 (by kernel_rfl) (by kernel_rfl)
theorem in_s_WaysIn:FnIn Tryz.prog 245:=.mk Tryz.func245 (by kernel_rfl) (by kernel_rfl)
theorem in_s_l06Copy:FnIn Tryz.prog 284:=.mk Tryz.func284 (by kernel_rfl) (by kernel_rfl)
theorem in_s_WayTo:FnIn Tryz.prog 246:=.mk Tryz.func246 (by kernel_rfl) (by kernel_rfl)
theorem in_s_Better:FnIn Tryz.prog 285:=.mk Tryz.func285 (by kernel_rfl) (by kernel_rfl)
theorem in_s_Together:FnIn Tryz.prog 247:=.mk Tryz.func247 (by kernel_rfl) (by kernel_rfl)
theorem in_s_RoutesWithin:FnIn Tryz.prog 174:=.mk Tryz.func174 (by kernel_rfl) (by kernel_rfl)
theorem in_s_l07Beyond:FnIn Tryz.prog 248:=.mk Tryz.func248 (by kernel_rfl) (by kernel_rfl)
theorem in_s_RoutesBeyond:FnIn Tryz.prog 175:=.mk Tryz.func175 (by kernel_rfl) (by kernel_rfl)
theorem in_s_l07Owner:FnIn Tryz.prog 250:=.mk Tryz.func250 (by kernel_rfl) (by kernel_rfl)
theorem in_s_l07Thing:FnIn Tryz.prog 177:=.mk Tryz.func177 (by kernel_rfl) (by kernel_rfl)
theorem in_s_RoutesOf:FnIn Tryz.prog 76:=.mk Tryz.func76 (by kernel_rfl) (by kernel_rfl)
theorem in_s_Routes:FnIn Tryz.prog 25:=.mk Tryz.func25 (by kernel_rfl) (by kernel_rfl)
theorem in_i_in:FnIn Tryz.prog 82:=.mk Tryz.func82 (by kernel_rfl) (by kernel_rfl)
theorem in_i_LinkOk:FnIn Tryz.prog 218:=.mk Tryz.func218 (by kernel_rfl) (by kernel_rfl)
theorem in_i_ahead:FnIn Tryz.prog 219:=.mk Tryz.func219 (by kernel_rfl) (by kernel_rfl)
theorem in_i_less:FnIn Tryz.prog 220:=.mk Tryz.func220 (by kernel_rfl) (by kernel_rfl)
theorem in_i_NetOk:FnIn Tryz.prog 138:=.mk Tryz.func138 (by kernel_rfl) (by kernel_rfl)
theorem in_i_linkAt:FnIn Tryz.prog 214:=.mk Tryz.func214 (by kernel_rfl) (by kernel_rfl)
theorem in_i_heardOk:FnIn Tryz.prog 201:=.mk Tryz.func201 (by kernel_rfl) (by kernel_rfl)
theorem in_i_nearOk:FnIn Tryz.prog 291:=.mk Tryz.func291 (by kernel_rfl) (by kernel_rfl)
theorem in_i_RecordOk:FnIn Tryz.prog 260:=.mk Tryz.func260 (by kernel_rfl) (by kernel_rfl)
theorem in_i_Before:FnIn Tryz.prog 209:=.mk Tryz.func209 (by kernel_rfl) (by kernel_rfl)
theorem in_i_StoreOk:FnIn Tryz.prog 202:=.mk Tryz.func202 (by kernel_rfl) (by kernel_rfl)
theorem in_i_SelfOk:FnIn Tryz.prog 114:=.mk Tryz.func114 (by kernel_rfl) (by kernel_rfl)
theorem in_i_earsOf:FnIn Tryz.prog 124:=.mk Tryz.func124 (by kernel_rfl) (by kernel_rfl)
theorem in_i_heardBy:FnIn Tryz.prog 146:=.mk Tryz.func146 (by kernel_rfl) (by kernel_rfl)
theorem in_i_sameInts:FnIn Tryz.prog 192:=.mk Tryz.func192 (by kernel_rfl) (by kernel_rfl)
theorem in_i_NodeOk:FnIn Tryz.prog 94:=.mk Tryz.func94 (by kernel_rfl) (by kernel_rfl)
theorem in_i_copyInts:FnIn Tryz.prog 185:=.mk Tryz.func185 (by kernel_rfl) (by kernel_rfl)
theorem in_i_with:FnIn Tryz.prog 148:=.mk Tryz.func148 (by kernel_rfl) (by kernel_rfl)
theorem in_i_AreasOf:FnIn Tryz.prog 84:=.mk Tryz.func84 (by kernel_rfl) (by kernel_rfl)
theorem in_i_hasInt:FnIn Tryz.prog 187:=.mk Tryz.func187 (by kernel_rfl) (by kernel_rfl)
theorem in_i_Border:FnIn Tryz.prog 85:=.mk Tryz.func85 (by kernel_rfl) (by kernel_rfl)
theorem in_i_SameKey:FnIn Tryz.prog 210:=.mk Tryz.func210 (by kernel_rfl) (by kernel_rfl)
theorem in_i_keyAt:FnIn Tryz.prog 204:=.mk Tryz.func204 (by kernel_rfl) (by kernel_rfl)
theorem in_i_told:FnIn Tryz.prog 313:=.mk Tryz.func313 (by kernel_rfl) (by kernel_rfl)
theorem in_i_Linked:FnIn Tryz.prog 308:=.mk Tryz.func308 (by kernel_rfl) (by kernel_rfl)
theorem in_i_copyWay:FnIn Tryz.prog 289:=.mk Tryz.func289 (by kernel_rfl) (by kernel_rfl)
theorem in_i_Together:FnIn Tryz.prog 257:=.mk Tryz.func257 (by kernel_rfl) (by kernel_rfl)
theorem in_i_spread:FnIn Tryz.prog 288:=.mk Tryz.func288 (by kernel_rfl) (by kernel_rfl)
theorem in_i_WaysIn:FnIn Tryz.prog 254:=.mk Tryz.func254 (by kernel_rfl) (by kernel_rfl)
theorem in_i_also:FnIn Tryz.prog 255:=.mk Tryz.func255 (by kernel_rfl) (by kernel_rfl)
theorem in_i_RoutesWithin:FnIn Tryz.prog 183:=.mk Tryz.func183 (by kernel_rfl) (by kernel_rfl)
theorem in_i_WayTo:FnIn Tryz.prog 256:=.mk Tryz.func256 (by kernel_rfl) (by kernel_rfl)
theorem in_i_RoutesBeyond:FnIn Tryz.prog 184:=.mk Tryz.func184 (by kernel_rfl) (by kernel_rfl)
theorem in_i_thing:FnIn Tryz.prog 186:=.mk Tryz.func186 (by kernel_rfl) (by kernel_rfl)
theorem in_i_RoutesOf:FnIn Tryz.prog 83:=.mk Tryz.func83 (by kernel_rfl) (by kernel_rfl)
theorem in_i_Routes:FnIn Tryz.prog 27:=.mk Tryz.func27 (by kernel_rfl) (by kernel_rfl)
theorem in_eqIntS:FnIn Tryz.prog 67:=.mk Tryz.func67 (by kernel_rfl) (by kernel_rfl)
theorem in_eqRoute:FnIn Tryz.prog 86:=.mk Tryz.func86 (by kernel_rfl) (by kernel_rfl)
theorem in_eqRouteS:FnIn Tryz.prog 17:=.mk Tryz.func17 (by kernel_rfl) (by kernel_rfl)
theorem in_eqLink:FnIn Tryz.prog 188:=.mk Tryz.func188 (by kernel_rfl) (by kernel_rfl)
theorem in_eqLinkS:FnIn Tryz.prog 87:=.mk Tryz.func87 (by kernel_rfl) (by kernel_rfl)
theorem in_eqThing:FnIn Tryz.prog 189:=.mk Tryz.func189 (by kernel_rfl) (by kernel_rfl)
theorem in_eqThingS:FnIn Tryz.prog 88:=.mk Tryz.func88 (by kernel_rfl) (by kernel_rfl)
theorem in_eqNet:FnIn Tryz.prog 18:=.mk Tryz.func18 (by kernel_rfl) (by kernel_rfl)
theorem in_eqNear:FnIn Tryz.prog 263:=.mk Tryz.func263 (by kernel_rfl) (by kernel_rfl)
theorem in_eqNearS:FnIn Tryz.prog 211:=.mk Tryz.func211 (by kernel_rfl) (by kernel_rfl)
theorem in_eqRecord:FnIn Tryz.prog 118:=.mk Tryz.func118 (by kernel_rfl) (by kernel_rfl)
theorem in_eqRecordS:FnIn Tryz.prog 35:=.mk Tryz.func35 (by kernel_rfl) (by kernel_rfl)
theorem in_eqSelf:FnIn Tryz.prog 34:=.mk Tryz.func34 (by kernel_rfl) (by kernel_rfl)
theorem in_eqEar:FnIn Tryz.prog 193:=.mk Tryz.func193 (by kernel_rfl) (by kernel_rfl)
theorem in_eqEarS:FnIn Tryz.prog 95:=.mk Tryz.func95 (by kernel_rfl) (by kernel_rfl)
theorem in_eqNode:FnIn Tryz.prog 28:=.mk Tryz.func28 (by kernel_rfl) (by kernel_rfl)
theorem in_markLinkS:FnIn Tryz.prog 89:=.mk Tryz.func89 (by kernel_rfl) (by kernel_rfl)
theorem in_markThingS:FnIn Tryz.prog 90:=.mk Tryz.func90 (by kernel_rfl) (by kernel_rfl)
theorem in_markNet:FnIn Tryz.prog 20:=.mk Tryz.func20 (by kernel_rfl) (by kernel_rfl)
theorem in_markIntS:FnIn Tryz.prog 70:=.mk Tryz.func70 (by kernel_rfl) (by kernel_rfl)
theorem in_markNearS:FnIn Tryz.prog 119:=.mk Tryz.func119 (by kernel_rfl) (by kernel_rfl)
theorem in_markRecordS:FnIn Tryz.prog 37:=.mk Tryz.func37 (by kernel_rfl) (by kernel_rfl)
theorem in_markSelf:FnIn Tryz.prog 36:=.mk Tryz.func36 (by kernel_rfl) (by kernel_rfl)
theorem in_markEarS:FnIn Tryz.prog 96:=.mk Tryz.func96 (by kernel_rfl) (by kernel_rfl)
theorem in_markNode:FnIn Tryz.prog 29:=.mk Tryz.func29 (by kernel_rfl) (by kernel_rfl)
theorem in_markRouteS:FnIn Tryz.prog 22:=.mk Tryz.func22 (by kernel_rfl) (by kernel_rfl)
theorem in_heldIntS:FnIn Tryz.prog 71:=.mk Tryz.func71 (by kernel_rfl) (by kernel_rfl)
theorem in_heldRouteS:FnIn Tryz.prog 23:=.mk Tryz.func23 (by kernel_rfl) (by kernel_rfl)
theorem in_FnExactRoutes:FnIn Tryz.prog 4:=.mk Tryz.func4 (by kernel_rfl) (by kernel_rfl)
theorem in_i_Beyond_1:FnIn Tryz.prog 287:=.mk Tryz.func287 (by kernel_rfl) (by kernel_rfl)
theorem in_markBoolS:FnIn Tryz.prog 21:=.mk Tryz.func21 (by kernel_rfl) (by kernel_rfl)
theorem seat:Seat Tryz.prog cx:=⟨tys_ok (l:=lty) (by kernel_rfl) rfl,into_of (l:=lfn) (fc ⟨⟨Tryz.func148,in_i_with⟩,fc ⟨⟨Tryz.func288,in_i_spread⟩,fc ⟨⟨Tryz.func255,in_i_also⟩,fc ⟨⟨Tryz.func89,in_markLinkS⟩,fc ⟨⟨Tryz.func90,in_markThingS⟩,fc ⟨⟨Tryz.func20,in_markNet⟩,fc ⟨⟨Tryz.func70,in_markIntS⟩,fc ⟨⟨Tryz.func119,in_markNearS⟩,fc ⟨⟨Tryz.func37,in_markRecordS⟩,fc ⟨⟨Tryz.func36,in_markSelf⟩,fc ⟨⟨Tryz.func96,in_markEarS⟩,fc ⟨⟨Tryz.func29,in_markNode⟩,fc ⟨⟨Tryz.func22,in_markRouteS⟩,fc ⟨⟨Tryz.func287,in_i_Beyond_1⟩,fc ⟨⟨Tryz.func21,in_markBoolS⟩,f0⟩⟩⟩⟩⟩⟩⟩⟩⟩⟩⟩⟩⟩⟩⟩) rfl,by kernel_rfl⟩
def s_szLinkS:Sig:=⟨[.v false 1,.v false 1],[(false,[.s])]⟩
theorem ok_szLinkS:Fok Tryz.prog s_szLinkS 72 F_szLinkS:=Fok.mk seat (n:=8) (l:=[]) (S:=S_szLinkS) (pl:=p_szLinkS) in_szLinkS Tryz.func72 (f0) (by kernel_rfl)
def s_szThingS:Sig:=⟨[.v false 1,.v false 1],[(false,[.s])]⟩
theorem ok_szThingS:Fok Tryz.prog s_szThingS 73 F_szThingS:=Fok.mk seat (n:=8) (l:=[]) (S:=S_szThingS) (pl:=p_szThingS) in_szThingS Tryz.func73 (f0) (by kernel_rfl)
def s_szNet:Sig:=⟨[.v true 3,.v false 1],[(false,[.s])]⟩
theorem ok_szNet:Fok Tryz.prog s_szNet 12 F_szNet:=Fok.mk seat (n:=8) (l:=[(72,s_szLinkS),(73,s_szThingS)]) (S:=S_szNet) (pl:=p_szNet) in_szNet Tryz.func12 (fc ⟨ok_szLinkS,fc ⟨ok_szThingS,f0⟩⟩) (by kernel_rfl)
def s_szIntS:Sig:=⟨[.v false 1,.v false 1],[(false,[.s])]⟩
theorem ok_szIntS:Fok Tryz.prog s_szIntS 97 F_szIntS:=Fok.mk seat (n:=8) (l:=[]) (S:=S_szIntS) (pl:=p_szIntS) in_szIntS Tryz.func97 (f0) (by kernel_rfl)
def s_szNearS:Sig:=⟨[.v false 1,.v false 1],[(false,[.s])]⟩
theorem ok_szNearS:Fok Tryz.prog s_szNearS 258 F_szNearS:=Fok.mk seat (n:=8) (l:=[]) (S:=S_szNearS) (pl:=p_szNearS) in_szNearS Tryz.func258 (f0) (by kernel_rfl)
def s_szRecord:Sig:=⟨[.v true 8,.v false 1],[(false,[.s])]⟩
theorem ok_szRecord:Fok Tryz.prog s_szRecord 194 F_szRecord:=Fok.mk seat (n:=8) (l:=[(258,s_szNearS)]) (S:=S_szRecord) (pl:=p_szRecord) in_szRecord Tryz.func194 (fc ⟨ok_szNearS,f0⟩) (by kernel_rfl)
def s_szRecordS:Sig:=⟨[.v false 1,.v false 1],[(false,[.s])]⟩
theorem ok_szRecordS:Fok Tryz.prog s_szRecordS 98 F_szRecordS:=Fok.mk seat (n:=8) (l:=[(194,s_szRecord)]) (S:=S_szRecordS) (pl:=p_szRecordS) in_szRecordS Tryz.func98 (fc ⟨ok_szRecord,f0⟩) (by kernel_rfl)
def s_szSelf:Sig:=⟨[.v true 7,.v false 1],[(false,[.s])]⟩
theorem ok_szSelf:Fok Tryz.prog s_szSelf 30 F_szSelf:=Fok.mk seat (n:=8) (l:=[(12,s_szNet),(97,s_szIntS),(98,s_szRecordS)]) (S:=S_szSelf) (pl:=p_szSelf) in_szSelf Tryz.func30 (fc ⟨ok_szNet,fc ⟨ok_szIntS,fc ⟨ok_szRecordS,f0⟩⟩⟩) (by kernel_rfl)
def s_szEarS:Sig:=⟨[.v false 1,.v false 1],[(false,[.s])]⟩
theorem ok_szEarS:Fok Tryz.prog s_szEarS 91 F_szEarS:=Fok.mk seat (n:=8) (l:=[]) (S:=S_szEarS) (pl:=p_szEarS) in_szEarS Tryz.func91 (f0) (by kernel_rfl)
def s_szNode:Sig:=⟨[.v true 8,.v false 1],[(false,[.s])]⟩
theorem ok_szNode:Fok Tryz.prog s_szNode 24 F_szNode:=Fok.mk seat (n:=8) (l:=[(30,s_szSelf),(91,s_szEarS)]) (S:=S_szNode) (pl:=p_szNode) in_szNode Tryz.func24 (fc ⟨ok_szSelf,fc ⟨ok_szEarS,f0⟩⟩) (by kernel_rfl)
def s_toLink:Sig:=⟨[.v true 4],[(true,[.s,.s,.s,.s])]⟩
theorem ok_toLink:Fok Tryz.prog s_toLink 179 F_toLink:=Fok.mk seat (n:=8) (l:=[]) (S:=S_toLink) (pl:=p_toLink) in_toLink Tryz.func179 (f0) (by kernel_rfl)
def s_toLinkS:Sig:=⟨[.v false 1],[(false,[.o true])]⟩
theorem ok_toLinkS:Fok Tryz.prog s_toLinkS 79 F_toLinkS:=Fok.mk seat (n:=8) (l:=[(179,s_toLink)]) (S:=S_toLinkS) (pl:=p_toLinkS) in_toLinkS Tryz.func79 (fc ⟨ok_toLink,f0⟩) (by kernel_rfl)
def s_toThing:Sig:=⟨[.v true 4],[(true,[.s,.s,.s,.s])]⟩
theorem ok_toThing:Fok Tryz.prog s_toThing 180 F_toThing:=Fok.mk seat (n:=8) (l:=[]) (S:=S_toThing) (pl:=p_toThing) in_toThing Tryz.func180 (f0) (by kernel_rfl)
def s_toThingS:Sig:=⟨[.v false 1],[(false,[.o true])]⟩
theorem ok_toThingS:Fok Tryz.prog s_toThingS 80 F_toThingS:=Fok.mk seat (n:=8) (l:=[(180,s_toThing)]) (S:=S_toThingS) (pl:=p_toThingS) in_toThingS Tryz.func80 (fc ⟨ok_toThing,f0⟩) (by kernel_rfl)
def s_toNet:Sig:=⟨[.v true 3],[(true,[.s,.o true,.o true])]⟩
theorem ok_toNet:Fok Tryz.prog s_toNet 14 F_toNet:=Fok.mk seat (n:=8) (l:=[(79,s_toLinkS),(80,s_toThingS)]) (S:=S_toNet) (pl:=p_toNet) in_toNet Tryz.func14 (fc ⟨ok_toLinkS,fc ⟨ok_toThingS,f0⟩⟩) (by kernel_rfl)
def s_toIntS:Sig:=⟨[.v false 1],[(false,[.o true])]⟩
theorem ok_toIntS:Fok Tryz.prog s_toIntS 111 F_toIntS:=Fok.mk seat (n:=8) (l:=[]) (S:=S_toIntS) (pl:=p_toIntS) in_toIntS Tryz.func111 (f0) (by kernel_rfl)
def s_toNear:Sig:=⟨[.v true 2],[(true,[.s,.s])]⟩
theorem ok_toNear:Fok Tryz.prog s_toNear 290 F_toNear:=Fok.mk seat (n:=8) (l:=[]) (S:=S_toNear) (pl:=p_toNear) in_toNear Tryz.func290 (f0) (by kernel_rfl)
def s_toNearS:Sig:=⟨[.v false 1],[(false,[.o true])]⟩
theorem ok_toNearS:Fok Tryz.prog s_toNearS 259 F_toNearS:=Fok.mk seat (n:=8) (l:=[(290,s_toNear)]) (S:=S_toNearS) (pl:=p_toNearS) in_toNearS Tryz.func259 (fc ⟨ok_toNear,f0⟩) (by kernel_rfl)
def s_toRecord:Sig:=⟨[.v true 8],[(true,[.s,.s,.s,.s,.s,.o true,.s,.s])]⟩
theorem ok_toRecord:Fok Tryz.prog s_toRecord 200 F_toRecord:=Fok.mk seat (n:=8) (l:=[(259,s_toNearS)]) (S:=S_toRecord) (pl:=p_toRecord) in_toRecord Tryz.func200 (fc ⟨ok_toNearS,f0⟩) (by kernel_rfl)
def s_toRecordS:Sig:=⟨[.v false 1],[(false,[.o true])]⟩
theorem ok_toRecordS:Fok Tryz.prog s_toRecordS 112 F_toRecordS:=Fok.mk seat (n:=8) (l:=[(200,s_toRecord)]) (S:=S_toRecordS) (pl:=p_toRecordS) in_toRecordS Tryz.func112 (fc ⟨ok_toRecord,f0⟩) (by kernel_rfl)
def s_toSelf:Sig:=⟨[.v true 7],[(true,[.s,.s,.s,.o true,.o true,.o true,.o true])]⟩
theorem ok_toSelf:Fok Tryz.prog s_toSelf 32 F_toSelf:=Fok.mk seat (n:=8) (l:=[(14,s_toNet),(111,s_toIntS),(112,s_toRecordS)]) (S:=S_toSelf) (pl:=p_toSelf) in_toSelf Tryz.func32 (fc ⟨ok_toNet,fc ⟨ok_toIntS,fc ⟨ok_toRecordS,f0⟩⟩⟩) (by kernel_rfl)
def s_toEar:Sig:=⟨[.v true 4],[(true,[.s,.s,.s,.s])]⟩
theorem ok_toEar:Fok Tryz.prog s_toEar 191 F_toEar:=Fok.mk seat (n:=8) (l:=[]) (S:=S_toEar) (pl:=p_toEar) in_toEar Tryz.func191 (f0) (by kernel_rfl)
def s_toEarS:Sig:=⟨[.v false 1],[(false,[.o true])]⟩
theorem ok_toEarS:Fok Tryz.prog s_toEarS 93 F_toEarS:=Fok.mk seat (n:=8) (l:=[(191,s_toEar)]) (S:=S_toEarS) (pl:=p_toEarS) in_toEarS Tryz.func93 (fc ⟨ok_toEar,f0⟩) (by kernel_rfl)
def s_toNode:Sig:=⟨[.v true 8],[(true,[.s,.s,.s,.o true,.o true,.o true,.o true,.o true])]⟩
theorem ok_toNode:Fok Tryz.prog s_toNode 26 F_toNode:=Fok.mk seat (n:=8) (l:=[(32,s_toSelf),(93,s_toEarS)]) (S:=S_toNode) (pl:=p_toNode) in_toNode Tryz.func26 (fc ⟨ok_toSelf,fc ⟨ok_toEarS,f0⟩⟩) (by kernel_rfl)
def s_s_l01In:Sig:=⟨[.v false 1,.v false 1,.v false 1],[(false,[.s])]⟩
theorem ok_s_l01In:Fok Tryz.prog s_s_l01In 75 F_s_l01In:=Fok.mk seat (n:=8) (l:=[]) (S:=S_s_l01In) (pl:=p_s_l01In) in_s_l01In Tryz.func75 (f0) (by kernel_rfl)
def s_s_LinkOk:Sig:=⟨[.v false 1,.v true 4],[(false,[.s])]⟩
theorem ok_s_LinkOk:Fok Tryz.prog s_s_LinkOk 215 F_s_LinkOk:=Fok.mk seat (n:=8) (l:=[(75,s_s_l01In)]) (S:=S_s_LinkOk) (pl:=p_s_LinkOk) in_s_LinkOk Tryz.func215 (fc ⟨ok_s_l01In,f0⟩) (by kernel_rfl)
def s_s_l03Ahead:Sig:=⟨[.v true 4,.v true 4],[(false,[.s])]⟩
theorem ok_s_l03Ahead:Fok Tryz.prog s_s_l03Ahead 216 F_s_l03Ahead:=Fok.mk seat (n:=8) (l:=[]) (S:=S_s_l03Ahead) (pl:=p_s_l03Ahead) in_s_l03Ahead Tryz.func216 (f0) (by kernel_rfl)
def s_s_l03Thing:Sig:=⟨[.v true 4,.v true 4],[(false,[.s])]⟩
theorem ok_s_l03Thing:Fok Tryz.prog s_s_l03Thing 217 F_s_l03Thing:=Fok.mk seat (n:=8) (l:=[]) (S:=S_s_l03Thing) (pl:=p_s_l03Thing) in_s_l03Thing Tryz.func217 (f0) (by kernel_rfl)
def s_s_NetOk:Sig:=⟨[.v true 3],[(false,[.s])]⟩
theorem ok_s_NetOk:Fok Tryz.prog s_s_NetOk 135 F_s_NetOk:=Fok.mk seat (n:=8) (l:=[(75,s_s_l01In),(215,s_s_LinkOk),(216,s_s_l03Ahead),(217,s_s_l03Thing)]) (S:=S_s_NetOk) (pl:=p_s_NetOk) in_s_NetOk Tryz.func135 (fc ⟨ok_s_l01In,fc ⟨ok_s_LinkOk,fc ⟨ok_s_l03Ahead,fc ⟨ok_s_l03Thing,f0⟩⟩⟩⟩) (by kernel_rfl)
def s_s_CostTo:Sig:=⟨[.v true 3,.v false 1,.v false 1,.v false 1],[(false,[.s])]⟩
theorem ok_s_CostTo:Fok Tryz.prog s_s_CostTo 122 F_s_CostTo:=Fok.mk seat (n:=8) (l:=[]) (S:=S_s_CostTo) (pl:=p_s_CostTo) in_s_CostTo Tryz.func122 (f0) (by kernel_rfl)
def s_s_l08Heard:Sig:=⟨[.v true 7],[(false,[.s])]⟩
theorem ok_s_l08Heard:Fok Tryz.prog s_s_l08Heard 195 F_s_l08Heard:=Fok.mk seat (n:=8) (l:=[(122,s_s_CostTo)]) (S:=S_s_l08Heard) (pl:=p_s_l08Heard) in_s_l08Heard Tryz.func195 (fc ⟨ok_s_CostTo,f0⟩) (by kernel_rfl)
def s_s_l04Near:Sig:=⟨[.v true 8],[(false,[.s])]⟩
theorem ok_s_l04Near:Fok Tryz.prog s_s_l04Near 286 F_s_l04Near:=Fok.mk seat (n:=8) (l:=[(75,s_s_l01In)]) (S:=S_s_l04Near) (pl:=p_s_l04Near) in_s_l04Near Tryz.func286 (fc ⟨ok_s_l01In,f0⟩) (by kernel_rfl)
def s_s_RecordOk:Sig:=⟨[.v true 8],[(false,[.s])]⟩
theorem ok_s_RecordOk:Fok Tryz.prog s_s_RecordOk 249 F_s_RecordOk:=Fok.mk seat (n:=8) (l:=[(75,s_s_l01In),(286,s_s_l04Near)]) (S:=S_s_RecordOk) (pl:=p_s_RecordOk) in_s_RecordOk Tryz.func249 (fc ⟨ok_s_l01In,fc ⟨ok_s_l04Near,f0⟩⟩) (by kernel_rfl)
def s_s_Before:Sig:=⟨[.v true 8,.v true 8],[(false,[.s])]⟩
theorem ok_s_Before:Fok Tryz.prog s_s_Before 199 F_s_Before:=Fok.mk seat (n:=8) (l:=[]) (S:=S_s_Before) (pl:=p_s_Before) in_s_Before Tryz.func199 (f0) (by kernel_rfl)
def s_s_StoreOk:Sig:=⟨[.v false 1],[(false,[.s])]⟩
theorem ok_s_StoreOk:Fok Tryz.prog s_s_StoreOk 176 F_s_StoreOk:=Fok.mk seat (n:=8) (l:=[(199,s_s_Before),(249,s_s_RecordOk)]) (S:=S_s_StoreOk) (pl:=p_s_StoreOk) in_s_StoreOk Tryz.func176 (fc ⟨ok_s_Before,fc ⟨ok_s_RecordOk,f0⟩⟩) (by kernel_rfl)
def s_s_SelfOk:Sig:=⟨[.v true 7],[(false,[.s])]⟩
theorem ok_s_SelfOk:Fok Tryz.prog s_s_SelfOk 99 F_s_SelfOk:=Fok.mk seat (n:=8) (l:=[(75,s_s_l01In),(135,s_s_NetOk),(176,s_s_StoreOk),(195,s_s_l08Heard)]) (S:=S_s_SelfOk) (pl:=p_s_SelfOk) in_s_SelfOk Tryz.func99 (fc ⟨ok_s_l01In,fc ⟨ok_s_NetOk,fc ⟨ok_s_StoreOk,fc ⟨ok_s_l08Heard,f0⟩⟩⟩⟩) (by kernel_rfl)
def s_s_l10Heard:Sig:=⟨[.v false 1],[(false,[.p])]⟩
theorem ok_s_l10Heard:Fok Tryz.prog s_s_l10Heard 142 F_s_l10Heard:=Fok.mk seat (n:=8) (l:=[]) (S:=S_s_l10Heard) (pl:=p_s_l10Heard) in_s_l10Heard Tryz.func142 (f0) (by kernel_rfl)
def s_s_l10SameInts:Sig:=⟨[.v false 1,.v false 1],[(false,[.s])]⟩
theorem ok_s_l10SameInts:Fok Tryz.prog s_s_l10SameInts 190 F_s_l10SameInts:=Fok.mk seat (n:=8) (l:=[]) (S:=S_s_l10SameInts) (pl:=p_s_l10SameInts) in_s_l10SameInts Tryz.func190 (f0) (by kernel_rfl)
def s_s_NodeOk:Sig:=⟨[.v true 8],[(false,[.s])]⟩
theorem ok_s_NodeOk:Fok Tryz.prog s_s_NodeOk 92 F_s_NodeOk:=Fok.mk seat (n:=8) (l:=[(75,s_s_l01In),(99,s_s_SelfOk),(122,s_s_CostTo),(142,s_s_l10Heard),(190,s_s_l10SameInts)]) (S:=S_s_NodeOk) (pl:=p_s_NodeOk) in_s_NodeOk Tryz.func92 (fc ⟨ok_s_l01In,fc ⟨ok_s_SelfOk,fc ⟨ok_s_CostTo,fc ⟨ok_s_l10Heard,fc ⟨ok_s_l10SameInts,f0⟩⟩⟩⟩⟩) (by kernel_rfl)
def s_s_NextTo:Sig:=⟨[.v true 3,.v false 1,.v false 1],[(false,[.p])]⟩
theorem ok_s_NextTo:Fok Tryz.prog s_s_NextTo 178 F_s_NextTo:=Fok.mk seat (n:=8) (l:=[(122,s_s_CostTo)]) (S:=S_s_NextTo) (pl:=p_s_NextTo) in_s_NextTo Tryz.func178 (fc ⟨ok_s_CostTo,f0⟩) (by kernel_rfl)
def s_s_AreasOf:Sig:=⟨[.v true 3,.v false 1],[(false,[.p])]⟩
theorem ok_s_AreasOf:Fok Tryz.prog s_s_AreasOf 77 F_s_AreasOf:=Fok.mk seat (n:=8) (l:=[(178,s_s_NextTo)]) (S:=S_s_AreasOf) (pl:=p_s_AreasOf) in_s_AreasOf Tryz.func77 (fc ⟨ok_s_NextTo,f0⟩) (by kernel_rfl)
def s_s_Border:Sig:=⟨[.v true 3,.v false 1],[(false,[.s])]⟩
theorem ok_s_Border:Fok Tryz.prog s_s_Border 78 F_s_Border:=Fok.mk seat (n:=8) (l:=[(77,s_s_AreasOf)]) (S:=S_s_Border) (pl:=p_s_Border) in_s_Border Tryz.func78 (fc ⟨ok_s_AreasOf,f0⟩) (by kernel_rfl)
def s_s_SameKey:Sig:=⟨[.v true 8,.v true 8],[(false,[.s])]⟩
theorem ok_s_SameKey:Fok Tryz.prog s_s_SameKey 198 F_s_SameKey:=Fok.mk seat (n:=8) (l:=[]) (S:=S_s_SameKey) (pl:=p_s_SameKey) in_s_SameKey Tryz.func198 (f0) (by kernel_rfl)
def s_s_l05At:Sig:=⟨[.v false 1,.v true 8],[(false,[.s])]⟩
theorem ok_s_l05At:Fok Tryz.prog s_s_l05At 106 F_s_l05At:=Fok.mk seat (n:=8) (l:=[(198,s_s_SameKey)]) (S:=S_s_l05At) (pl:=p_s_l05At) in_s_l05At Tryz.func106 (fc ⟨ok_s_SameKey,f0⟩) (by kernel_rfl)
def s_s_l06Node:Sig:=⟨[.v false 1,.v false 1,.v false 1],[(true,[.s,.s,.s,.s,.s,.p,.s,.s]),(false,[.s])]⟩
theorem ok_s_l06Node:Fok Tryz.prog s_s_l06Node 282 F_s_l06Node:=Fok.mk seat (n:=8) (l:=[(106,s_s_l05At)]) (S:=S_s_l06Node) (pl:=p_s_l06Node) in_s_l06Node Tryz.func282 (fc ⟨ok_s_l05At,f0⟩) (by kernel_rfl)
def s_s_l06Tells:Sig:=⟨[.v false 1,.v false 1,.v false 1,.v false 1],[(false,[.s])]⟩
theorem ok_s_l06Tells:Fok Tryz.prog s_s_l06Tells 307 F_s_l06Tells:=Fok.mk seat (n:=8) (l:=[(282,s_s_l06Node)]) (S:=S_s_l06Tells) (pl:=p_s_l06Tells) in_s_l06Tells Tryz.func307 (fc ⟨ok_s_l06Node,f0⟩) (by kernel_rfl)
def s_s_l06Links:Sig:=⟨[.v false 1,.v false 1],[(false,[.p])]⟩
theorem ok_s_l06Links:Fok Tryz.prog s_s_l06Links 283 F_s_l06Links:=Fok.mk seat (n:=8) (l:=[(75,s_s_l01In),(282,s_s_l06Node),(307,s_s_l06Tells)]) (S:=S_s_l06Links) (pl:=p_s_l06Links) in_s_l06Links Tryz.func283 (fc ⟨ok_s_l01In,fc ⟨ok_s_l06Node,fc ⟨ok_s_l06Tells,f0⟩⟩⟩) (by kernel_rfl)
def s_s_l03In:Sig:=⟨[.v false 1,.v false 1],[(false,[.s])]⟩
theorem ok_s_l03In:Fok Tryz.prog s_s_l03In 153 F_s_l03In:=Fok.mk seat (n:=8) (l:=[]) (S:=S_s_l03In) (pl:=p_s_l03In) in_s_l03In Tryz.func153 (f0) (by kernel_rfl)
def s_s_l06Add:Sig:=⟨[.v false 1,.v false 1],[(false,[.p])]⟩
theorem ok_s_l06Add:Fok Tryz.prog s_s_l06Add 251 F_s_l06Add:=Fok.mk seat (n:=8) (l:=[(153,s_s_l03In)]) (S:=S_s_l06Add) (pl:=p_s_l06Add) in_s_l06Add Tryz.func251 (fc ⟨ok_s_l03In,f0⟩) (by kernel_rfl)
def s_s_WaysIn:Sig:=⟨[.v false 1,.v false 1,.v false 1],[(false,[.p])]⟩
theorem ok_s_WaysIn:Fok Tryz.prog s_s_WaysIn 245 F_s_WaysIn:=Fok.mk seat (n:=8) (l:=[(75,s_s_l01In),(176,s_s_StoreOk),(251,s_s_l06Add),(282,s_s_l06Node),(283,s_s_l06Links)]) (S:=S_s_WaysIn) (pl:=p_s_WaysIn) in_s_WaysIn Tryz.func245 (fc ⟨ok_s_l01In,fc ⟨ok_s_StoreOk,fc ⟨ok_s_l06Add,fc ⟨ok_s_l06Node,fc ⟨ok_s_l06Links,f0⟩⟩⟩⟩⟩) (by kernel_rfl)
def s_s_l06Copy:Sig:=⟨[.v true 3],[(true,[.s,.s,.p])]⟩
theorem ok_s_l06Copy:Fok Tryz.prog s_s_l06Copy 284 F_s_l06Copy:=Fok.mk seat (n:=8) (l:=[]) (S:=S_s_l06Copy) (pl:=p_s_l06Copy) in_s_l06Copy Tryz.func284 (f0) (by kernel_rfl)
def s_s_WayTo:Sig:=⟨[.v false 1,.v false 1],[(true,[.s,.s,.p]),(false,[.s])]⟩
theorem ok_s_WayTo:Fok Tryz.prog s_s_WayTo 246 F_s_WayTo:=Fok.mk seat (n:=8) (l:=[(284,s_s_l06Copy)]) (S:=S_s_WayTo) (pl:=p_s_WayTo) in_s_WayTo Tryz.func246 (fc ⟨ok_s_l06Copy,f0⟩) (by kernel_rfl)
def s_s_Better:Sig:=⟨[.v true 3,.v true 3],[(false,[.s])]⟩
theorem ok_s_Better:Fok Tryz.prog s_s_Better 285 F_s_Better:=Fok.mk seat (n:=8) (l:=[]) (S:=S_s_Better) (pl:=p_s_Better) in_s_Better Tryz.func285 (f0) (by kernel_rfl)
def s_s_Together:Sig:=⟨[.v true 3,.v true 3],[(true,[.s,.s,.p])]⟩
theorem ok_s_Together:Fok Tryz.prog s_s_Together 247 F_s_Together:=Fok.mk seat (n:=8) (l:=[(251,s_s_l06Add),(284,s_s_l06Copy),(285,s_s_Better)]) (S:=S_s_Together) (pl:=p_s_Together) in_s_Together Tryz.func247 (fc ⟨ok_s_l06Add,fc ⟨ok_s_l06Copy,fc ⟨ok_s_Better,f0⟩⟩⟩) (by kernel_rfl)
def s_s_RoutesWithin:Sig:=⟨[.v false 1,.v false 1,.v false 1],[(false,[.p])]⟩
theorem ok_s_RoutesWithin:Fok Tryz.prog s_s_RoutesWithin 174 F_s_RoutesWithin:=Fok.mk seat (n:=8) (l:=[(245,s_s_WaysIn),(246,s_s_WayTo),(247,s_s_Together)]) (S:=S_s_RoutesWithin) (pl:=p_s_RoutesWithin) in_s_RoutesWithin Tryz.func174 (fc ⟨ok_s_WaysIn,fc ⟨ok_s_WayTo,fc ⟨ok_s_Together,f0⟩⟩⟩) (by kernel_rfl)
def s_s_l07Beyond:Sig:=⟨[.v false 1,.v false 1,.v false 1,.v false 1,.v false 1,.v true 3,.v false 1],[(true,[.s,.s,.p]),(false,[.s])]⟩
theorem ok_s_l07Beyond:Fok Tryz.prog s_s_l07Beyond 248 F_s_l07Beyond:=Fok.mk seat (n:=8) (l:=[(246,s_s_WayTo),(247,s_s_Together)]) (S:=S_s_l07Beyond) (pl:=p_s_l07Beyond) in_s_l07Beyond Tryz.func248 (fc ⟨ok_s_WayTo,fc ⟨ok_s_Together,f0⟩⟩) (by kernel_rfl)
def s_s_RoutesBeyond:Sig:=⟨[.v false 1,.v false 1,.v false 1,.v false 1],[(false,[.p])]⟩
theorem ok_s_RoutesBeyond:Fok Tryz.prog s_s_RoutesBeyond 175 F_s_RoutesBeyond:=Fok.mk seat (n:=8) (l:=[(174,s_s_RoutesWithin),(176,s_s_StoreOk),(245,s_s_WaysIn),(246,s_s_WayTo),(248,s_s_l07Beyond)]) (S:=S_s_RoutesBeyond) (pl:=p_s_RoutesBeyond) in_s_RoutesBeyond Tryz.func175 (fc ⟨ok_s_RoutesWithin,fc ⟨ok_s_StoreOk,fc ⟨ok_s_WaysIn,fc ⟨ok_s_WayTo,fc ⟨ok_s_l07Beyond,f0⟩⟩⟩⟩⟩) (by kernel_rfl)
def s_s_l07Owner:Sig:=⟨[.v false 1,.v false 1,.v false 1,.v false 1],[(true,[.s,.s,.p]),(false,[.s])]⟩
theorem ok_s_l07Owner:Fok Tryz.prog s_s_l07Owner 250 F_s_l07Owner:=Fok.mk seat (n:=8) (l:=[(246,s_s_WayTo)]) (S:=S_s_l07Owner) (pl:=p_s_l07Owner) in_s_l07Owner Tryz.func250 (fc ⟨ok_s_WayTo,f0⟩) (by kernel_rfl)
def s_s_l07Thing:Sig:=⟨[.v false 1,.v false 1,.v false 1,.v false 1,.v false 1,.v false 1],[(true,[.s,.s,.s,.s,.s,.p]),(false,[.s])]⟩
theorem ok_s_l07Thing:Fok Tryz.prog s_s_l07Thing 177 F_s_l07Thing:=Fok.mk seat (n:=8) (l:=[(250,s_s_l07Owner),(251,s_s_l06Add)]) (S:=S_s_l07Thing) (pl:=p_s_l07Thing) in_s_l07Thing Tryz.func177 (fc ⟨ok_s_l07Owner,fc ⟨ok_s_l06Add,f0⟩⟩) (by kernel_rfl)
def s_s_RoutesOf:Sig:=⟨[.v false 1,.v false 1,.v false 1,.v false 1],[(false,[.p])]⟩
theorem ok_s_RoutesOf:Fok Tryz.prog s_s_RoutesOf 76 F_s_RoutesOf:=Fok.mk seat (n:=8) (l:=[(174,s_s_RoutesWithin),(175,s_s_RoutesBeyond),(176,s_s_StoreOk),(177,s_s_l07Thing)]) (S:=S_s_RoutesOf) (pl:=p_s_RoutesOf) in_s_RoutesOf Tryz.func76 (fc ⟨ok_s_RoutesWithin,fc ⟨ok_s_RoutesBeyond,fc ⟨ok_s_StoreOk,fc ⟨ok_s_l07Thing,f0⟩⟩⟩⟩) (by kernel_rfl)
def s_s_Routes:Sig:=⟨[.v true 8],[(false,[.p])]⟩
theorem ok_s_Routes:Fok Tryz.prog s_s_Routes 25 F_s_Routes:=Fok.mk seat (n:=8) (l:=[(76,s_s_RoutesOf),(77,s_s_AreasOf),(78,s_s_Border),(92,s_s_NodeOk)]) (S:=S_s_Routes) (pl:=p_s_Routes) in_s_Routes Tryz.func25 (fc ⟨ok_s_RoutesOf,fc ⟨ok_s_AreasOf,fc ⟨ok_s_Border,fc ⟨ok_s_NodeOk,f0⟩⟩⟩⟩) (by kernel_rfl)
def s_i_in:Sig:=⟨[.v false 1,.v false 1,.v false 1],[(false,[.s])]⟩
theorem ok_i_in:Fok Tryz.prog s_i_in 82 F_i_in:=Fok.mk seat (n:=8) (l:=[]) (S:=S_i_in) (pl:=p_i_in) in_i_in Tryz.func82 (f0) (by kernel_rfl)
def s_i_LinkOk:Sig:=⟨[.v false 1,.v true 4],[(false,[.s])]⟩
theorem ok_i_LinkOk:Fok Tryz.prog s_i_LinkOk 218 F_i_LinkOk:=Fok.mk seat (n:=8) (l:=[(82,s_i_in)]) (S:=S_i_LinkOk) (pl:=p_i_LinkOk) in_i_LinkOk Tryz.func218 (fc ⟨ok_i_in,f0⟩) (by kernel_rfl)
def s_i_ahead:Sig:=⟨[.v true 4,.v true 4],[(false,[.s])]⟩
theorem ok_i_ahead:Fok Tryz.prog s_i_ahead 219 F_i_ahead:=Fok.mk seat (n:=8) (l:=[]) (S:=S_i_ahead) (pl:=p_i_ahead) in_i_ahead Tryz.func219 (f0) (by kernel_rfl)
def s_i_less:Sig:=⟨[.v true 4,.v true 4],[(false,[.s])]⟩
theorem ok_i_less:Fok Tryz.prog s_i_less 220 F_i_less:=Fok.mk seat (n:=8) (l:=[]) (S:=S_i_less) (pl:=p_i_less) in_i_less Tryz.func220 (f0) (by kernel_rfl)
def s_i_NetOk:Sig:=⟨[.v true 3],[(false,[.s])]⟩
theorem ok_i_NetOk:Fok Tryz.prog s_i_NetOk 138 F_i_NetOk:=Fok.mk seat (n:=8) (l:=[(82,s_i_in),(218,s_i_LinkOk),(219,s_i_ahead),(220,s_i_less)]) (S:=S_i_NetOk) (pl:=p_i_NetOk) in_i_NetOk Tryz.func138 (fc ⟨ok_i_in,fc ⟨ok_i_LinkOk,fc ⟨ok_i_ahead,fc ⟨ok_i_less,f0⟩⟩⟩⟩) (by kernel_rfl)
def s_i_linkAt:Sig:=⟨[.v true 3,.v false 1,.v false 1,.v false 1],[(false,[.s])]⟩
theorem ok_i_linkAt:Fok Tryz.prog s_i_linkAt 214 F_i_linkAt:=Fok.mk seat (n:=8) (l:=[]) (S:=S_i_linkAt) (pl:=p_i_linkAt) in_i_linkAt Tryz.func214 (f0) (by kernel_rfl)
def s_i_heardOk:Sig:=⟨[.v true 7],[(false,[.s])]⟩
theorem ok_i_heardOk:Fok Tryz.prog s_i_heardOk 201 F_i_heardOk:=Fok.mk seat (n:=8) (l:=[(214,s_i_linkAt)]) (S:=S_i_heardOk) (pl:=p_i_heardOk) in_i_heardOk Tryz.func201 (fc ⟨ok_i_linkAt,f0⟩) (by kernel_rfl)
def s_i_nearOk:Sig:=⟨[.v true 8],[(false,[.s])]⟩
theorem ok_i_nearOk:Fok Tryz.prog s_i_nearOk 291 F_i_nearOk:=Fok.mk seat (n:=8) (l:=[(82,s_i_in)]) (S:=S_i_nearOk) (pl:=p_i_nearOk) in_i_nearOk Tryz.func291 (fc ⟨ok_i_in,f0⟩) (by kernel_rfl)
def s_i_RecordOk:Sig:=⟨[.v true 8],[(false,[.s])]⟩
theorem ok_i_RecordOk:Fok Tryz.prog s_i_RecordOk 260 F_i_RecordOk:=Fok.mk seat (n:=8) (l:=[(82,s_i_in),(291,s_i_nearOk)]) (S:=S_i_RecordOk) (pl:=p_i_RecordOk) in_i_RecordOk Tryz.func260 (fc ⟨ok_i_in,fc ⟨ok_i_nearOk,f0⟩⟩) (by kernel_rfl)
def s_i_Before:Sig:=⟨[.v true 8,.v true 8],[(false,[.s])]⟩
theorem ok_i_Before:Fok Tryz.prog s_i_Before 209 F_i_Before:=Fok.mk seat (n:=8) (l:=[]) (S:=S_i_Before) (pl:=p_i_Before) in_i_Before Tryz.func209 (f0) (by kernel_rfl)
def s_i_StoreOk:Sig:=⟨[.v false 1],[(false,[.s])]⟩
theorem ok_i_StoreOk:Fok Tryz.prog s_i_StoreOk 202 F_i_StoreOk:=Fok.mk seat (n:=8) (l:=[(209,s_i_Before),(260,s_i_RecordOk)]) (S:=S_i_StoreOk) (pl:=p_i_StoreOk) in_i_StoreOk Tryz.func202 (fc ⟨ok_i_Before,fc ⟨ok_i_RecordOk,f0⟩⟩) (by kernel_rfl)
def s_i_SelfOk:Sig:=⟨[.v true 7],[(false,[.s])]⟩
theorem ok_i_SelfOk:Fok Tryz.prog s_i_SelfOk 114 F_i_SelfOk:=Fok.mk seat (n:=8) (l:=[(82,s_i_in),(138,s_i_NetOk),(201,s_i_heardOk),(202,s_i_StoreOk)]) (S:=S_i_SelfOk) (pl:=p_i_SelfOk) in_i_SelfOk Tryz.func114 (fc ⟨ok_i_in,fc ⟨ok_i_NetOk,fc ⟨ok_i_heardOk,fc ⟨ok_i_StoreOk,f0⟩⟩⟩⟩) (by kernel_rfl)
def s_i_earsOf:Sig:=⟨[.v true 3,.v false 1],[(false,[.o true])]⟩
theorem ok_i_earsOf:Fok Tryz.prog s_i_earsOf 124 F_i_earsOf:=Fok.mk seat (n:=8) (l:=[(214,s_i_linkAt)]) (S:=S_i_earsOf) (pl:=p_i_earsOf) in_i_earsOf Tryz.func124 (fc ⟨ok_i_linkAt,f0⟩) (by kernel_rfl)
def s_i_heardBy:Sig:=⟨[.v false 1],[(false,[.o true])]⟩
theorem ok_i_heardBy:Fok Tryz.prog s_i_heardBy 146 F_i_heardBy:=Fok.mk seat (n:=8) (l:=[]) (S:=S_i_heardBy) (pl:=p_i_heardBy) in_i_heardBy Tryz.func146 (f0) (by kernel_rfl)
def s_i_sameInts:Sig:=⟨[.v false 1,.v false 1],[(false,[.s])]⟩
theorem ok_i_sameInts:Fok Tryz.prog s_i_sameInts 192 F_i_sameInts:=Fok.mk seat (n:=8) (l:=[]) (S:=S_i_sameInts) (pl:=p_i_sameInts) in_i_sameInts Tryz.func192 (f0) (by kernel_rfl)
def s_i_NodeOk:Sig:=⟨[.v true 8],[(false,[.s])]⟩
theorem ok_i_NodeOk:Fok Tryz.prog s_i_NodeOk 94 F_i_NodeOk:=Fok.mk seat (n:=8) (l:=[(82,s_i_in),(114,s_i_SelfOk),(124,s_i_earsOf),(146,s_i_heardBy),(192,s_i_sameInts)]) (S:=S_i_NodeOk) (pl:=p_i_NodeOk) in_i_NodeOk Tryz.func94 (fc ⟨ok_i_in,fc ⟨ok_i_SelfOk,fc ⟨ok_i_earsOf,fc ⟨ok_i_heardBy,fc ⟨ok_i_sameInts,f0⟩⟩⟩⟩⟩) (by kernel_rfl)
def s_i_copyInts:Sig:=⟨[.v false 1],[(false,[.o true])]⟩
theorem ok_i_copyInts:Fok Tryz.prog s_i_copyInts 185 F_i_copyInts:=Fok.mk seat (n:=8) (l:=[]) (S:=S_i_copyInts) (pl:=p_i_copyInts) in_i_copyInts Tryz.func185 (f0) (by kernel_rfl)
def s_i_AreasOf:Sig:=⟨[.v true 3,.v false 1],[(false,[.o true])]⟩
theorem ok_i_AreasOf:Fok Tryz.prog s_i_AreasOf 84 F_i_AreasOf:=Fok.mk seat (n:=8) (l:=[(185,s_i_copyInts)]) (S:=S_i_AreasOf) (pl:=p_i_AreasOf) in_i_AreasOf Tryz.func84 (fc ⟨ok_i_copyInts,f0⟩) (by kernel_rfl)
def s_i_hasInt:Sig:=⟨[.v false 1,.v false 1],[(false,[.s])]⟩
theorem ok_i_hasInt:Fok Tryz.prog s_i_hasInt 187 F_i_hasInt:=Fok.mk seat (n:=8) (l:=[]) (S:=S_i_hasInt) (pl:=p_i_hasInt) in_i_hasInt Tryz.func187 (f0) (by kernel_rfl)
def s_i_Border:Sig:=⟨[.v true 3,.v false 1],[(false,[.s])]⟩
theorem ok_i_Border:Fok Tryz.prog s_i_Border 85 F_i_Border:=Fok.mk seat (n:=8) (l:=[(84,s_i_AreasOf),(187,s_i_hasInt)]) (S:=S_i_Border) (pl:=p_i_Border) in_i_Border Tryz.func85 (fc ⟨ok_i_AreasOf,fc ⟨ok_i_hasInt,f0⟩⟩) (by kernel_rfl)
def s_i_SameKey:Sig:=⟨[.v true 8,.v true 8],[(false,[.s])]⟩
theorem ok_i_SameKey:Fok Tryz.prog s_i_SameKey 210 F_i_SameKey:=Fok.mk seat (n:=8) (l:=[]) (S:=S_i_SameKey) (pl:=p_i_SameKey) in_i_SameKey Tryz.func210 (f0) (by kernel_rfl)
def s_i_keyAt:Sig:=⟨[.v false 1,.v true 8],[(false,[.s])]⟩
theorem ok_i_keyAt:Fok Tryz.prog s_i_keyAt 204 F_i_keyAt:=Fok.mk seat (n:=8) (l:=[(210,s_i_SameKey)]) (S:=S_i_keyAt) (pl:=p_i_keyAt) in_i_keyAt Tryz.func204 (fc ⟨ok_i_SameKey,f0⟩) (by kernel_rfl)
def s_i_told:Sig:=⟨[.v false 1,.v false 1,.v false 1,.v false 1],[(false,[.s])]⟩
theorem ok_i_told:Fok Tryz.prog s_i_told 313 F_i_told:=Fok.mk seat (n:=8) (l:=[(204,s_i_keyAt)]) (S:=S_i_told) (pl:=p_i_told) in_i_told Tryz.func313 (fc ⟨ok_i_keyAt,f0⟩) (by kernel_rfl)
def s_i_Linked:Sig:=⟨[.v false 1,.v false 1,.v false 1,.v false 1],[(false,[.s])]⟩
theorem ok_i_Linked:Fok Tryz.prog s_i_Linked 308 F_i_Linked:=Fok.mk seat (n:=8) (l:=[(313,s_i_told)]) (S:=S_i_Linked) (pl:=p_i_Linked) in_i_Linked Tryz.func308 (fc ⟨ok_i_told,f0⟩) (by kernel_rfl)
def s_i_copyWay:Sig:=⟨[.v true 3],[(true,[.s,.s,.o true])]⟩
theorem ok_i_copyWay:Fok Tryz.prog s_i_copyWay 289 F_i_copyWay:=Fok.mk seat (n:=8) (l:=[(185,s_i_copyInts)]) (S:=S_i_copyWay) (pl:=p_i_copyWay) in_i_copyWay Tryz.func289 (fc ⟨ok_i_copyInts,f0⟩) (by kernel_rfl)
def s_i_Together:Sig:=⟨[.v true 3,.v true 3],[(true,[.s,.s,.o true])]⟩
theorem ok_i_Together:Fok Tryz.prog s_i_Together 257 F_i_Together:=Fok.mk seat (n:=8) (l:=[(185,s_i_copyInts),(289,s_i_copyWay)]) (S:=S_i_Together) (pl:=p_i_Together) in_i_Together Tryz.func257 (fc ⟨ok_i_copyInts,fc ⟨ok_i_copyWay,f0⟩⟩) (by kernel_rfl)
def s_i_WaysIn:Sig:=⟨[.v false 1,.v false 1,.v false 1],[(false,[.o false])]⟩
theorem ok_i_WaysIn:Fok Tryz.prog s_i_WaysIn 254 F_i_WaysIn:=Fok.mk seat (n:=8) (l:=[(82,s_i_in),(185,s_i_copyInts),(187,s_i_hasInt),(202,s_i_StoreOk),(204,s_i_keyAt),(257,s_i_Together),(308,s_i_Linked)]) (S:=S_i_WaysIn) (pl:=p_i_WaysIn) in_i_WaysIn Tryz.func254 (fc ⟨ok_i_in,fc ⟨ok_i_copyInts,fc ⟨ok_i_hasInt,fc ⟨ok_i_StoreOk,fc ⟨ok_i_keyAt,fc ⟨ok_i_Together,fc ⟨ok_i_Linked,f0⟩⟩⟩⟩⟩⟩⟩) (by kernel_rfl)
def s_i_RoutesWithin:Sig:=⟨[.v false 1,.v false 1,.v false 1],[(false,[.o false])]⟩
theorem ok_i_RoutesWithin:Fok Tryz.prog s_i_RoutesWithin 183 F_i_RoutesWithin:=Fok.mk seat (n:=8) (l:=[(254,s_i_WaysIn),(257,s_i_Together),(289,s_i_copyWay)]) (S:=S_i_RoutesWithin) (pl:=p_i_RoutesWithin) in_i_RoutesWithin Tryz.func183 (fc ⟨ok_i_WaysIn,fc ⟨ok_i_Together,fc ⟨ok_i_copyWay,f0⟩⟩⟩) (by kernel_rfl)
def s_i_WayTo:Sig:=⟨[.v false 1,.v false 1],[(true,[.s,.s,.o true]),(false,[.s])]⟩
theorem ok_i_WayTo:Fok Tryz.prog s_i_WayTo 256 F_i_WayTo:=Fok.mk seat (n:=8) (l:=[(289,s_i_copyWay)]) (S:=S_i_WayTo) (pl:=p_i_WayTo) in_i_WayTo Tryz.func256 (fc ⟨ok_i_copyWay,f0⟩) (by kernel_rfl)
def s_i_RoutesBeyond:Sig:=⟨[.v false 1,.v false 1,.v false 1,.v false 1],[(false,[.o false])]⟩
theorem ok_i_RoutesBeyond:Fok Tryz.prog s_i_RoutesBeyond 184 F_i_RoutesBeyond:=Fok.mk seat (n:=8) (l:=[(183,s_i_RoutesWithin),(187,s_i_hasInt),(254,s_i_WaysIn),(256,s_i_WayTo),(257,s_i_Together),(289,s_i_copyWay)]) (S:=S_i_RoutesBeyond) (pl:=p_i_RoutesBeyond) in_i_RoutesBeyond Tryz.func184 (fc ⟨ok_i_RoutesWithin,fc ⟨ok_i_hasInt,fc ⟨ok_i_WaysIn,fc ⟨ok_i_WayTo,fc ⟨ok_i_Together,fc ⟨ok_i_copyWay,f0⟩⟩⟩⟩⟩⟩) (by kernel_rfl)
def s_i_thing:Sig:=⟨[.v false 1,.v false 1,.v false 1,.v false 1],[(true,[.s,.s,.s,.s,.s,.o true]),(false,[.s])]⟩
theorem ok_i_thing:Fok Tryz.prog s_i_thing 186 F_i_thing:=Fok.mk seat (n:=8) (l:=[(256,s_i_WayTo),(257,s_i_Together)]) (S:=S_i_thing) (pl:=p_i_thing) in_i_thing Tryz.func186 (fc ⟨ok_i_WayTo,fc ⟨ok_i_Together,f0⟩⟩) (by kernel_rfl)
def s_i_RoutesOf:Sig:=⟨[.v false 1,.v false 1,.v false 1,.v false 1],[(false,[.o true])]⟩
theorem ok_i_RoutesOf:Fok Tryz.prog s_i_RoutesOf 83 F_i_RoutesOf:=Fok.mk seat (n:=8) (l:=[(183,s_i_RoutesWithin),(184,s_i_RoutesBeyond),(185,s_i_copyInts),(186,s_i_thing)]) (S:=S_i_RoutesOf) (pl:=p_i_RoutesOf) in_i_RoutesOf Tryz.func83 (fc ⟨ok_i_RoutesWithin,fc ⟨ok_i_RoutesBeyond,fc ⟨ok_i_copyInts,fc ⟨ok_i_thing,f0⟩⟩⟩⟩) (by kernel_rfl)
def s_i_Routes:Sig:=⟨[.v true 8],[(false,[.o true])]⟩
theorem ok_i_Routes:Fok Tryz.prog s_i_Routes 27 F_i_Routes:=Fok.mk seat (n:=8) (l:=[(83,s_i_RoutesOf),(84,s_i_AreasOf),(85,s_i_Border),(94,s_i_NodeOk)]) (S:=S_i_Routes) (pl:=p_i_Routes) in_i_Routes Tryz.func27 (fc ⟨ok_i_RoutesOf,fc ⟨ok_i_AreasOf,fc ⟨ok_i_Border,fc ⟨ok_i_NodeOk,f0⟩⟩⟩⟩) (by kernel_rfl)
def s_eqIntS:Sig:=⟨[.v false 1,.v false 1],[(false,[.s])]⟩
theorem ok_eqIntS:Fok Tryz.prog s_eqIntS 67 F_eqIntS:=Fok.mk seat (n:=8) (l:=[]) (S:=S_eqIntS) (pl:=p_eqIntS) in_eqIntS Tryz.func67 (f0) (by kernel_rfl)
def s_eqRoute:Sig:=⟨[.v true 6,.v true 6],[(false,[.s])]⟩
theorem ok_eqRoute:Fok Tryz.prog s_eqRoute 86 F_eqRoute:=Fok.mk seat (n:=8) (l:=[(67,s_eqIntS)]) (S:=S_eqRoute) (pl:=p_eqRoute) in_eqRoute Tryz.func86 (fc ⟨ok_eqIntS,f0⟩) (by kernel_rfl)
def s_eqRouteS:Sig:=⟨[.v false 1,.v false 1],[(false,[.s])]⟩
theorem ok_eqRouteS:Fok Tryz.prog s_eqRouteS 17 F_eqRouteS:=Fok.mk seat (n:=8) (l:=[(86,s_eqRoute)]) (S:=S_eqRouteS) (pl:=p_eqRouteS) in_eqRouteS Tryz.func17 (fc ⟨ok_eqRoute,f0⟩) (by kernel_rfl)
def s_eqLink:Sig:=⟨[.v true 4,.v true 4],[(false,[.s])]⟩
theorem ok_eqLink:Fok Tryz.prog s_eqLink 188 F_eqLink:=Fok.mk seat (n:=8) (l:=[]) (S:=S_eqLink) (pl:=p_eqLink) in_eqLink Tryz.func188 (f0) (by kernel_rfl)
def s_eqLinkS:Sig:=⟨[.v false 1,.v false 1],[(false,[.s])]⟩
theorem ok_eqLinkS:Fok Tryz.prog s_eqLinkS 87 F_eqLinkS:=Fok.mk seat (n:=8) (l:=[(188,s_eqLink)]) (S:=S_eqLinkS) (pl:=p_eqLinkS) in_eqLinkS Tryz.func87 (fc ⟨ok_eqLink,f0⟩) (by kernel_rfl)
def s_eqThing:Sig:=⟨[.v true 4,.v true 4],[(false,[.s])]⟩
theorem ok_eqThing:Fok Tryz.prog s_eqThing 189 F_eqThing:=Fok.mk seat (n:=8) (l:=[]) (S:=S_eqThing) (pl:=p_eqThing) in_eqThing Tryz.func189 (f0) (by kernel_rfl)
def s_eqThingS:Sig:=⟨[.v false 1,.v false 1],[(false,[.s])]⟩
theorem ok_eqThingS:Fok Tryz.prog s_eqThingS 88 F_eqThingS:=Fok.mk seat (n:=8) (l:=[(189,s_eqThing)]) (S:=S_eqThingS) (pl:=p_eqThingS) in_eqThingS Tryz.func88 (fc ⟨ok_eqThing,f0⟩) (by kernel_rfl)
def s_eqNet:Sig:=⟨[.v true 3,.v true 3],[(false,[.s])]⟩
theorem ok_eqNet:Fok Tryz.prog s_eqNet 18 F_eqNet:=Fok.mk seat (n:=8) (l:=[(87,s_eqLinkS),(88,s_eqThingS)]) (S:=S_eqNet) (pl:=p_eqNet) in_eqNet Tryz.func18 (fc ⟨ok_eqLinkS,fc ⟨ok_eqThingS,f0⟩⟩) (by kernel_rfl)
def s_eqNear:Sig:=⟨[.v true 2,.v true 2],[(false,[.s])]⟩
theorem ok_eqNear:Fok Tryz.prog s_eqNear 263 F_eqNear:=Fok.mk seat (n:=8) (l:=[]) (S:=S_eqNear) (pl:=p_eqNear) in_eqNear Tryz.func263 (f0) (by kernel_rfl)
def s_eqNearS:Sig:=⟨[.v false 1,.v false 1],[(false,[.s])]⟩
theorem ok_eqNearS:Fok Tryz.prog s_eqNearS 211 F_eqNearS:=Fok.mk seat (n:=8) (l:=[(263,s_eqNear)]) (S:=S_eqNearS) (pl:=p_eqNearS) in_eqNearS Tryz.func211 (fc ⟨ok_eqNear,f0⟩) (by kernel_rfl)
def s_eqRecord:Sig:=⟨[.v true 8,.v true 8],[(false,[.s])]⟩
theorem ok_eqRecord:Fok Tryz.prog s_eqRecord 118 F_eqRecord:=Fok.mk seat (n:=8) (l:=[(211,s_eqNearS)]) (S:=S_eqRecord) (pl:=p_eqRecord) in_eqRecord Tryz.func118 (fc ⟨ok_eqNearS,f0⟩) (by kernel_rfl)
def s_eqRecordS:Sig:=⟨[.v false 1,.v false 1],[(false,[.s])]⟩
theorem ok_eqRecordS:Fok Tryz.prog s_eqRecordS 35 F_eqRecordS:=Fok.mk seat (n:=8) (l:=[(118,s_eqRecord)]) (S:=S_eqRecordS) (pl:=p_eqRecordS) in_eqRecordS Tryz.func35 (fc ⟨ok_eqRecord,f0⟩) (by kernel_rfl)
def s_eqSelf:Sig:=⟨[.v true 7,.v true 7],[(false,[.s])]⟩
theorem ok_eqSelf:Fok Tryz.prog s_eqSelf 34 F_eqSelf:=Fok.mk seat (n:=8) (l:=[(18,s_eqNet),(35,s_eqRecordS),(67,s_eqIntS)]) (S:=S_eqSelf) (pl:=p_eqSelf) in_eqSelf Tryz.func34 (fc ⟨ok_eqNet,fc ⟨ok_eqRecordS,fc ⟨ok_eqIntS,f0⟩⟩⟩) (by kernel_rfl)
def s_eqEar:Sig:=⟨[.v true 4,.v true 4],[(false,[.s])]⟩
theorem ok_eqEar:Fok Tryz.prog s_eqEar 193 F_eqEar:=Fok.mk seat (n:=8) (l:=[]) (S:=S_eqEar) (pl:=p_eqEar) in_eqEar Tryz.func193 (f0) (by kernel_rfl)
def s_eqEarS:Sig:=⟨[.v false 1,.v false 1],[(false,[.s])]⟩
theorem ok_eqEarS:Fok Tryz.prog s_eqEarS 95 F_eqEarS:=Fok.mk seat (n:=8) (l:=[(193,s_eqEar)]) (S:=S_eqEarS) (pl:=p_eqEarS) in_eqEarS Tryz.func95 (fc ⟨ok_eqEar,f0⟩) (by kernel_rfl)
def s_eqNode:Sig:=⟨[.v true 8,.v true 8],[(false,[.s])]⟩
theorem ok_eqNode:Fok Tryz.prog s_eqNode 28 F_eqNode:=Fok.mk seat (n:=8) (l:=[(34,s_eqSelf),(95,s_eqEarS)]) (S:=S_eqNode) (pl:=p_eqNode) in_eqNode Tryz.func28 (fc ⟨ok_eqSelf,fc ⟨ok_eqEarS,f0⟩⟩) (by kernel_rfl)
def s_heldIntS:Sig:=⟨[.v false 1,.v false 1],[(false,[.s])]⟩
theorem ok_heldIntS:Fok Tryz.prog s_heldIntS 71 F_heldIntS:=Fok.mk seat (n:=8) (l:=[]) (S:=S_heldIntS) (pl:=p_heldIntS) in_heldIntS Tryz.func71 (f0) (by kernel_rfl)
def s_heldRouteS:Sig:=⟨[.v false 1,.v false 1],[(false,[.s])]⟩
theorem ok_heldRouteS:Fok Tryz.prog s_heldRouteS 23 F_heldRouteS:=Fok.mk seat (n:=8) (l:=[(71,s_heldIntS)]) (S:=S_heldRouteS) (pl:=p_heldRouteS) in_heldRouteS Tryz.func23 (fc ⟨ok_heldIntS,f0⟩) (by kernel_rfl)
def s_FnExactRoutes:Sig:=⟨[.v true 8],[(false,[.s])]⟩
theorem ok_FnExactRoutes:Fok Tryz.prog s_FnExactRoutes 4 F_FnExactRoutes:=Fok.mk seat (n:=8) (l:=[(17,s_eqRouteS),(23,s_heldRouteS),(24,s_szNode),(25,s_s_Routes),(26,s_toNode),(27,s_i_Routes),(28,s_eqNode)]) (S:=S_FnExactRoutes) (pl:=p_FnExactRoutes) in_FnExactRoutes Tryz.func4 (fc ⟨ok_eqRouteS,fc ⟨ok_heldRouteS,fc ⟨ok_szNode,fc ⟨ok_s_Routes,fc ⟨ok_toNode,fc ⟨ok_i_Routes,fc ⟨ok_eqNode,f0⟩⟩⟩⟩⟩⟩⟩) (by kernel_rfl)
end Go.Proofs.YtiebbbmibbkpcaaGreatWR

/- The walk: each function does as its plain program says (printed by a program). Conditions: none. -/
import Derived.Test.YtiebbbmibbkpcaaGreatChecked
import Derived.Test.YtiebbbmibbkpcaaGreatKe
import Derived.Test.YtiebbbmibbkpcaaGreatXPR
namespace Go.Proofs.YtiebbbmibbkpcaaGreatWR
open Go.Proofs.YtiebbbmibbkpcaaGreatC
theorem fc {α:Type} {p:α→Prop} {a:α} {l:List α} (h:p a∧∀ x∈l,p x):∀ x∈a :: l,p x:=List.forall_mem_cons.2 h
theorem f0 {α:Type} {p:α→Prop}:∀ x∈([]:List α),p x:=fun _ h=>nomatch h
def lty:List (Nat × TI):=[
 (3,⟨1,8,false,[.p (.k (.int .i64 0))],0,[],1⟩),
 (4,⟨1,1,false,[.p (.k (.bool false))],0,[],4⟩),
 (22,⟨1,24,false,[.n],216,[],3⟩),
 (23,⟨1,24,false,[.n],218,[],3⟩),
 (25,⟨3,56,true,[.p (.k (.int .i64 0)),.n,.n],0,[(0,1),(1,1),(2,1)],0⟩),
 (26,⟨1,24,false,[.n],4,[],3⟩),
 (28,⟨1,24,false,[.n],128,[],3⟩),
 (30,⟨1,24,false,[.n],214,[],3⟩),
 (31,⟨1,24,false,[.n],202,[],3⟩),
 (33,⟨3,56,true,[.p (.k (.int .i64 0)),.n,.n],0,[(0,1),(1,1),(2,1)],0⟩),
 (43,⟨1,24,false,[.n],3,[],3⟩),
 (44,⟨1,24,false,[.n],230,[],3⟩),
 (46,⟨7,120,true,[.p (.k (.int .i64 0)),.p (.k (.int .i64 0)),.p (.k (.int .i64 0)),.n,.n,.n,.n],0,[(0,1),(1,1),(2,3),(5,1),(6,1)],0⟩),
 (47,⟨1,24,false,[.n],225,[],3⟩),
 (49,⟨8,144,true,[.p (.k (.int .i64 0)),.p (.k (.int .i64 0)),.p (.k (.int .i64 0)),.n,.n,.n,.n,.n],0,[(0,7),(7,1)],0⟩),
 (52,⟨1,24,false,[.n],144,[],3⟩),
 (54,⟨7,120,true,[.p (.k (.int .i64 0)),.p (.k (.int .i64 0)),.p (.k (.int .i64 0)),.n,.n,.n,.n],0,[(0,1),(1,1),(2,3),(5,1),(6,1)],0⟩),
 (55,⟨1,24,false,[.n],158,[],3⟩),
 (57,⟨8,144,true,[.p (.k (.int .i64 0)),.p (.k (.int .i64 0)),.p (.k (.int .i64 0)),.n,.n,.n,.n,.n],0,[(0,7),(7,1)],0⟩),
 (74,⟨1,24,false,[.n],49,[],3⟩),
 (75,⟨1,24,false,[.n],96,[],3⟩),
 (77,⟨10,208,true,[.p (.k (.int .i64 0)),.n,.n,.n,.n,.n,.n,.n,.n,.p (.k (.int .i64 0))],0,[(0,3),(3,1),(4,1),(5,1),(6,1),(7,1),(8,1),(9,1)],0⟩),
 (80,⟨1,24,false,[.n],57,[],3⟩),
 (81,⟨1,24,false,[.n],100,[],3⟩),
 (83,⟨10,208,true,[.p (.k (.int .i64 0)),.n,.n,.n,.n,.n,.n,.n,.n,.p (.k (.int .i64 0))],0,[(0,3),(3,1),(4,1),(5,1),(6,1),(7,1),(8,1),(9,1)],0⟩),
 (96,⟨6,80,true,[.p (.k (.int .i64 0)),.p (.k (.int .i64 0)),.p (.k (.int .i64 0)),.p (.k (.int .i64 0)),.n,.n],0,[(0,1),(1,1),(2,1),(3,1),(4,1),(5,1)],0⟩),
 (100,⟨6,80,true,[.p (.k (.int .i64 0)),.p (.k (.int .i64 0)),.p (.k (.int .i64 0)),.p (.k (.int .i64 0)),.n,.n],0,[(0,1),(1,1),(2,1),(3,1),(4,1),(5,1)],0⟩),
 (128,⟨6,64,true,[.p (.k (.bool false)),.p (.k (.int .i64 0)),.p (.k (.int .i64 0)),.p (.k (.int .i64 0)),.p (.k (.int .i64 0)),.n],0,[(0,1),(1,1),(2,1),(3,1),(4,1),(5,1)],0⟩),
 (142,⟨1,24,false,[.n],200,[],3⟩),
 (144,⟨8,80,true,[.p (.k (.int .i64 0)),.p (.k (.int .i64 0)),.p (.k (.int .i64 0)),.p (.k (.int .i64 0)),.p (.k (.int .i64 0)),.n,.p (.k (.int .i64 0)),.p (.k (.bool false))],0,[(0,1),(1,1),(2,1),(3,1),(4,1),(5,1),(6,1),(7,1)],0⟩),
 (158,⟨4,32,true,[.p (.k (.int .i64 0)),.p (.k (.int .i64 0)),.p (.k (.int .i64 0)),.p (.k (.bool false))],0,[(0,1),(1,1),(2,1),(3,1)],5⟩),
 (200,⟨2,16,true,[.p (.k (.int .i64 0)),.p (.k (.int .i64 0))],0,[(0,1),(1,1)],5⟩),
 (202,⟨4,32,true,[.p (.k (.int .i64 0)),.p (.k (.int .i64 0)),.p (.k (.int .i64 0)),.p (.k (.bool false))],0,[(0,1),(1,1),(2,1),(3,1)],5⟩),
 (204,⟨1,24,false,[.n],209,[],3⟩),
 (209,⟨3,40,true,[.p (.k (.int .i64 0)),.p (.k (.int .i64 0)),.n],0,[(0,1),(1,1),(2,1)],0⟩),
 (214,⟨4,32,true,[.p (.k (.int .i64 0)),.p (.k (.int .i64 0)),.p (.k (.int .i64 0)),.p (.k (.int .i64 0))],0,[(0,1),(1,1),(2,1),(3,1)],5⟩),
 (216,⟨4,32,true,[.p (.k (.int .i64 0)),.p (.k (.int .i64 0)),.p (.k (.int .i64 0)),.p (.k (.int .i64 0))],0,[(0,1),(1,1),(2,1),(3,1)],5⟩),
 (218,⟨4,32,true,[.p (.k (.int .i64 0)),.p (.k (.int .i64 0)),.p (.k (.int .i64 0)),.p (.k (.bool false))],0,[(0,1),(1,1),(2,1),(3,1)],5⟩),
 (225,⟨4,32,true,[.p (.k (.int .i64 0)),.p (.k (.int .i64 0)),.p (.k (.int .i64 0)),.p (.k (.bool false))],0,[(0,1),(1,1),(2,1),(3,1)],5⟩),
 (228,⟨1,24,false,[.n],287,[],3⟩),
 (230,⟨8,80,true,[.p (.k (.int .i64 0)),.p (.k (.int .i64 0)),.p (.k (.int .i64 0)),.p (.k (.int .i64 0)),.p (.k (.int .i64 0)),.n,.p (.k (.int .i64 0)),.p (.k (.bool false))],0,[(0,1),(1,1),(2,1),(3,1),(4,1),(5,1),(6,1),(7,1)],0⟩),
 (250,⟨1,24,false,[.n],204,[],3⟩),
 (281,⟨1,24,false,[.n],43,[],3⟩),
 (287,⟨2,16,true,[.p (.k (.int .i64 0)),.p (.k (.int .i64 0))],0,[(0,1),(1,1)],5⟩)]
def aVh_:List ((Nat × Nat × Nat) × Js):=[
 ((98,0,0),[(1,false,.phi false [.p]),(4,false,.phi false [.p]),(5,false,.phi false [.p])]),
 ((79,0,0),[(4,false,.phi false [.p]),(7,false,.rows [(0,true)])]),
 ((80,0,0),[(4,false,.phi false [.p]),(7,false,.rows [(0,true)])]),
 ((111,0,0),[(4,false,.phi false [.p]),(7,false,.rows [(0,true)])]),
 ((259,0,0),[(4,false,.phi false [.p]),(7,false,.rows [(0,true)])]),
 ((112,0,0),[(4,false,.phi false [.p]),(7,false,.rows [(0,true)])]),
 ((93,0,0),[(4,false,.phi false [.p]),(7,false,.rows [(0,true)])]),
 ((135,0,0),[(2,false,.phi false [.p]),(3,false,.phi false [.p])]),
 ((135,0,2),[(2,false,.phi false [.p]),(4,false,.phi false [.p])]),
 ((122,0,0),[(8,false,.phi false [.p]),(9,false,.phi false [.p])]),
 ((195,0,0),[(2,false,.phi false [.p]),(3,false,.phi false [.p])]),
 ((286,0,0),[(2,false,.phi false [.p]),(3,false,.phi false [.p])]),
 ((176,0,0),[(2,false,.phi false [.p]),(3,false,.phi false [.p])]),
 ((142,0,0),[(3,false,.phi false [.o true]),(4,false,.phi false [.p])]),
 ((142,2,16),[(3,false,.phi false [.o true])]),
 ((190,0,0),[(4,false,.phi false [.p]),(5,false,.phi false [.p])]),
 ((92,0,0),[(2,false,.phi false [.p]),(3,false,.phi false [.p]),(5,false,.phi false [.p])]),
 ((92,0,2),[(2,false,.phi false [.p]),(3,false,.phi false [.p]),(6,false,.phi false [.p])]),
 ((178,0,0),[(7,false,.phi false [.o true]),(8,false,.phi false [.p])]),
 ((178,2,19),[(7,false,.phi false [.o true])]),
 ((77,0,0),[(5,false,.phi false [.o true]),(6,false,.phi false [.p])]),
 ((77,2,17),[(5,false,.phi false [.o true])]),
 ((106,0,0),[(4,false,.phi false [.p]),(5,false,.phi false [.p])]),
 ((307,0,0),[(8,false,.phi false [.p]),(11,false,.phi false [.p])]),
 ((283,0,0),[(6,false,.phi false [.p]),(10,false,.rows [(0,true)])]),
 ((283,0,2),[(9,false,.phi false [.p]),(10,false,.rows [(0,true)])]),
 ((283,2,48),[(10,false,.rows [(0,true)])]),
 ((153,0,0),[(4,false,.phi false [.p]),(5,false,.phi false [.p])]),
 ((251,0,0),[(5,false,.phi false [.o true]),(6,false,.phi false [.p])]),
 ((251,2,19),[(5,false,.phi false [.o true])]),
 ((245,0,0),[(14,false,.phi false [.p]),(47,false,.rows [(0,true)])]),
 ((245,0,2),[(15,false,.phi false [.p]),(48,false,.rows [(0,false)]),(49,false,.rows [(0,true)]),(47,false,.rows [(0,true)])]),
 ((245,0,4),[(16,false,.phi false [.p]),(17,false,.phi false [.p])]),
 ((245,0,6),[(18,false,.phi false [.p]),(48,false,.rows [(0,false)]),(47,false,.rows [(0,true)])]),
 ((245,0,8),[(7,false,.phi false [.o true]),(22,false,.phi false [.p])]),
 ((245,2,126),[(20,false,.phi false [.p])]),
 ((245,2,147),[(48,false,.rows [(0,false)]),(47,false,.rows [(0,true)])]),
 ((245,2,163),[(48,false,.rows [(0,false)])]),
 ((245,2,180),[(7,false,.phi false [.o true])]),
 ((245,2,94),[(16,false,.phi false [.p])]),
 ((246,0,0),[(5,false,.phi false [.p]),(6,false,.phi false [.p])]),
 ((174,0,0),[(8,false,.phi false [.o false]),(9,false,.phi false [.p])]),
 ((174,0,2),[(7,false,.phi false [.o false]),(10,false,.phi false [.p])]),
 ((174,0,4),[(12,false,.phi false [.p]),(13,false,.phi false [.p]),(11,true,.phi true [.p,.p,.p])]),
 ((174,2,56),[(14,true,.phi true [.p,.p,.p])]),
 ((174,2,61),[(7,false,.phi false [.o false])]),
 ((248,0,0),[(6,false,.phi false [.p]),(16,false,.phi false [.p]),(12,true,.phi true [.p,.p,.p])]),
 ((248,2,81),[(18,true,.phi true [.p,.p,.p])]),
 ((175,0,0),[(11,false,.phi false [.o false]),(12,false,.phi false [.p])]),
 ((175,0,2),[(9,false,.phi false [.o false]),(13,false,.phi false [.p])]),
 ((175,0,4),[(17,false,.phi false [.p]),(18,false,.phi false [.p]),(16,true,.phi true [.p,.p,.p])]),
 ((175,2,88),[(9,false,.phi false [.o false])]),
 ((177,0,0),[(15,false,.phi false [.p]),(16,false,.phi false [.p]),(14,true,.phi true [.k,.k,.p,.p,.p,.p])]),
 ((177,2,106),[(14,true,.phi true [.k,.k,.k,.k,.k,.p])]),
 ((177,2,70),[(14,true,.phi true [.k,.k,.p,.k,.k,.k]),(20,false,.phi false [.p]),(21,false,.phi false [.p])]),
 ((177,2,76),[(14,true,.phi true [.k,.k,.k,.p,.p,.p])]),
 ((76,0,0),[(9,false,.phi false [.o false]),(12,false,.phi false [.p])]),
 ((76,0,2),[(9,false,.phi false [.o false]),(13,false,.phi false [.p])]),
 ((76,0,4),[(9,false,.phi false [.o false]),(14,false,.phi false [.p])]),
 ((76,2,109),[(15,true,.phi true [.p,.p,.p,.p,.p,.p]),(16,false,.phi false [.p])]),
 ((76,2,119),[(9,false,.phi false [.o false]),(15,true,.phi true [.k,.k,.k,.k,.k,.d])]),
 ((76,2,43),[(9,false,.phi false [.o false])]),
 ((76,2,75),[(9,false,.phi false [.o false])]),
 ((138,0,0),[(2,false,.phi false [.p]),(26,false,.phi false [.p])]),
 ((138,0,2),[(2,false,.phi false [.p]),(55,false,.phi false [.p])]),
 ((214,0,0),[(8,false,.phi false [.p]),(14,false,.phi false [.p])]),
 ((201,0,0),[(2,false,.phi false [.p]),(3,false,.phi false [.p])]),
 ((291,0,0),[(2,false,.phi false [.p]),(8,false,.phi false [.p])]),
 ((202,0,0),[(2,false,.phi false [.p]),(7,false,.phi false [.p])]),
 ((124,0,0),[(5,false,.phi false [.o true]),(6,false,.phi false [.p])]),
 ((124,0,2),[(5,false,.phi false [.o true]),(7,false,.phi false [.p])]),
 ((124,2,23),[(5,false,.phi false [.o true])]),
 ((146,0,0),[(3,false,.phi false [.o true]),(8,false,.phi false [.p])]),
 ((146,2,13),[(3,false,.phi false [.o true])]),
 ((192,0,0),[(4,false,.phi false [.p]),(13,false,.phi false [.p])]),
 ((94,0,0),[(2,false,.phi false [.p]),(26,false,.phi false [.p])]),
 ((148,0,0),[(5,false,.phi false [.p])]),
 ((148,4,6),[(0,false,.rows [(0,true)])]),
 ((84,0,0),[(5,false,.phi false [.o true]),(11,false,.phi false [.p])]),
 ((84,2,24),[(5,false,.phi false [.o true])]),
 ((187,0,0),[(4,false,.phi false [.p]),(9,false,.phi false [.p])]),
 ((204,0,0),[(4,false,.phi false [.p]),(9,false,.phi false [.p])]),
 ((313,0,0),[(8,false,.phi false [.p]),(25,false,.phi false [.p])]),
 ((257,0,1),[(34,false,.phi false [.p]),(5,true,.phi true [.k,.k,.o true])]),
 ((257,0,3),[(47,false,.phi false [.p]),(5,true,.phi true [.k,.k,.o true])]),
 ((288,0,0),[(10,false,.phi false [.p]),(3,false,.rows [(0,false)])]),
 ((288,2,47),[(12,true,.phi true [.k,.k,.o true])]),
 ((288,2,55),[(12,true,.phi true [.k,.k,.d]),(3,false,.rows [(0,false)])]),
 ((288,2,70),[(3,false,.rows [(0,false)])]),
 ((288,4,5),[(3,false,.rows [(0,false)])]),
 ((254,0,0),[(8,false,.phi false [.o true]),(30,false,.rows [(0,false)])]),
 ((254,0,2),[(9,false,.phi false [.p]),(10,false,.phi false [.p])]),
 ((254,0,4),[(11,false,.phi false [.o false]),(84,false,.phi false [.p]),(30,false,.rows [(0,false)])]),
 ((254,2,68),[(9,false,.phi false [.p])]),
 ((254,2,90),[(11,false,.phi false [.o false])]),
 ((255,0,0),[(5,false,.phi false [.p])]),
 ((255,4,7),[(0,false,.rows [(0,true)])]),
 ((183,0,0),[(7,false,.phi false [.o false]),(14,false,.phi false [.p])]),
 ((183,0,2),[(7,false,.phi false [.o false]),(23,false,.phi false [.p])]),
 ((256,0,0),[(5,false,.phi false [.p]),(10,false,.phi false [.p])]),
 ((184,0,0),[(10,false,.phi false [.o false]),(23,false,.phi false [.p])]),
 ((186,0,0),[(12,false,.phi false [.p]),(13,false,.phi false [.p]),(14,false,.phi false [.p]),(21,false,.phi false [.p]),(10,true,.phi true [.p,.p,.o true]),(11,true,.phi true [.p,.p,.o true])]),
 ((186,2,49),[(17,true,.phi true [.p,.p,.o true]),(18,false,.phi false [.p])]),
 ((186,2,64),[(17,true,.phi true [.p,.p,.o true])]),
 ((186,2,75),[(17,true,.phi true [.p,.p,.o true])]),
 ((186,2,86),[(11,true,.phi true [.p,.p,.o true]),(13,false,.phi false [.p]),(14,false,.phi false [.p]),(17,true,.phi true [.k,.k,.d])]),
 ((83,0,0),[(9,false,.phi false [.o true]),(35,false,.phi false [.p]),(27,false,.rows [(0,false)])]),
 ((83,0,2),[(9,false,.phi false [.o true]),(57,false,.phi false [.p]),(32,false,.rows [(0,false)])]),
 ((83,0,4),[(16,false,.phi false [.o true]),(75,false,.phi false [.p])]),
 ((83,0,6),[(9,false,.phi false [.o true]),(98,false,.phi false [.p])]),
 ((83,2,110),[(9,false,.phi false [.o true]),(108,false,.phi true [.k,.k,.k,.k,.k,.d]),(22,true,.phi true [.k,.k,.k,.k,.k,.d])]),
 ((83,2,42),[(9,false,.phi false [.o true])]),
 ((83,2,86),[(16,false,.phi false [.o true])]),
 ((67,0,0),[(4,false,.phi false [.p]),(5,false,.phi false [.p])]),
 ((87,0,0),[(4,false,.phi false [.p]),(5,false,.phi false [.p])]),
 ((88,0,0),[(4,false,.phi false [.p]),(5,false,.phi false [.p])]),
 ((211,0,0),[(4,false,.phi false [.p]),(5,false,.phi false [.p])]),
 ((35,0,0),[(4,false,.phi false [.p]),(5,false,.phi false [.p])]),
 ((95,0,0),[(4,false,.phi false [.p]),(5,false,.phi false [.p])]),
 ((89,0,0),[(1,false,.phi false [.p]),(5,false,.phi false [.p]),(0,false,.rows [(0,true)])]),
 ((90,0,0),[(1,false,.phi false [.p]),(5,false,.phi false [.p]),(0,false,.rows [(0,true)])]),
 ((70,0,0),[(1,false,.phi false [.p]),(5,false,.phi false [.p]),(0,false,.rows [(0,true)])]),
 ((119,0,0),[(1,false,.phi false [.p]),(5,false,.phi false [.p]),(0,false,.rows [(0,true)])]),
 ((37,0,0),[(1,false,.phi false [.p]),(5,false,.phi false [.p]),(0,false,.rows [(0,true)])]),
 ((96,0,0),[(1,false,.phi false [.p]),(5,false,.phi false [.p]),(0,false,.rows [(0,true)])]),
 ((22,0,0),[(1,false,.phi false [.p]),(5,false,.phi false [.p]),(0,false,.rows [(0,true)])]),
 ((15,0,0),[(4,false,.phi false [.p]),(7,false,.rows [(0,true)])]),
 ((172,0,0),[(10,false,.phi false [.p]),(11,false,.phi false [.p])]),
 ((105,0,0),[(5,false,.phi false [.o false]),(6,false,.phi false [.p])]),
 ((105,0,2),[(5,false,.phi false [.o false]),(7,false,.phi false [.p])]),
 ((105,2,20),[(5,false,.phi false [.o false])]),
 ((105,2,43),[(5,false,.phi false [.o false])]),
 ((197,0,0),[(10,false,.phi false [.o true]),(11,false,.phi false [.p])]),
 ((197,0,2),[(9,false,.phi false [.o true]),(15,false,.phi false [.p])]),
 ((197,2,37),[(10,false,.phi false [.o true])]),
 ((197,2,84),[(18,true,.phi true [.p,.p,.p]),(19,false,.phi false [.p])]),
 ((197,2,91),[(9,false,.phi false [.o true])]),
 ((110,0,0),[(5,false,.phi false [.p]),(6,false,.phi false [.p])]),
 ((110,2,21),[(7,true,.phi true [.k,.k,.k,.k,.p,.k,.k,.k])]),
 ((173,0,0),[(7,false,.phi false [.o false]),(8,false,.phi false [.p])]),
 ((173,0,2),[(9,false,.phi false [.o false]),(10,false,.phi false [.p])]),
 ((173,2,49),[(9,false,.phi false [.o false])]),
 ((109,0,0),[(3,false,.phi false [.o true]),(4,false,.phi false [.p])]),
 ((74,0,0),[(8,false,.phi false [.p]),(9,false,.phi false [.p])]),
 ((74,0,10),[(8,false,.phi false [.p]),(18,false,.phi false [.p])]),
 ((74,0,2),[(8,false,.phi false [.p]),(11,false,.phi false [.p])]),
 ((74,0,4),[(13,false,.phi false [.p]),(12,true,.phi true [.k,.k,.k,.k,.k,.o true,.k,.k])]),
 ((74,0,6),[(8,false,.phi false [.p]),(15,false,.phi false [.p])]),
 ((74,0,8),[(8,false,.phi false [.p]),(17,false,.phi false [.p])]),
 ((74,2,119),[(8,false,.phi false [.p])]),
 ((74,2,150),[(8,false,.phi false [.p])]),
 ((74,2,90),[(12,true,.phi true [.k,.k,.k,.k,.k,.o true,.k,.k])]),
 ((252,0,0),[(7,false,.phi false [.o true]),(13,false,.phi false [.p])]),
 ((252,2,24),[(7,false,.phi false [.o true])]),
 ((252,2,32),[(7,false,.phi false [.o true])]),
 ((181,0,0),[(11,false,.phi false [.o true]),(20,false,.phi false [.p])]),
 ((181,2,39),[(11,false,.phi false [.o true])]),
 ((116,0,0),[(3,false,.phi false [.o true]),(8,false,.phi false [.p])]),
 ((117,0,0),[(5,false,.phi false [.p])]),
 ((117,2,40),[(5,false,.phi false [.p])]),
 ((287,2,36),[(4,true,.phi false [.o true])]),
 ((253,0,0),[(9,false,.phi false [.o true]),(21,false,.phi false [.p])]),
 ((253,0,2),[(43,false,.phi false [.p]),(13,true,.phi false [.o true])]),
 ((253,0,4),[(58,false,.phi false [.p]),(13,true,.phi false [.o true])]),
 ((253,2,27),[(9,false,.phi false [.o true])]),
 ((253,2,52),[(13,true,.phi false [.o true])]),
 ((182,0,0),[(7,false,.phi false [.o false]),(17,false,.phi false [.p])]),
 ((182,0,2),[(7,false,.phi false [.o false]),(40,false,.phi false [.p])]),
 ((182,0,4),[(7,false,.phi false [.o false]),(50,false,.phi false [.p]),(48,false,.rows [(0,false)])]),
 ((182,2,29),[(7,false,.phi false [.o false])]),
 ((81,0,0),[(8,false,.phi false [.o true]),(9,false,.phi false [.p])]),
 ((81,0,2),[(8,false,.phi false [.o true]),(43,false,.phi false [.p])]),
 ((81,0,4),[(8,false,.phi false [.o true]),(67,false,.phi false [.p])]),
 ((81,0,6),[(8,false,.phi false [.o false]),(89,false,.phi false [.p])]),
 ((81,0,8),[(8,false,.phi false [.o false]),(14,false,.phi false [.p])]),
 ((81,2,106),[(8,false,.phi false [.o false])]),
 ((81,2,51),[(8,false,.phi false [.o true])]),
 ((81,2,76),[(8,false,.phi false [.o true])]),
 ((19,0,0),[(4,false,.phi false [.p]),(5,false,.phi false [.p])]),
 ((21,0,0),[(1,false,.phi false [.p]),(5,false,.phi false [.p]),(0,false,.rows [(0,true)])]),
 ((127,0,0),[(1,false,.phi false [.p]),(4,false,.phi false [.p]),(5,false,.phi false [.p])]),
 ((128,0,0),[(1,false,.phi false [.p]),(4,false,.phi false [.p]),(5,false,.phi false [.p])]),
 ((130,0,0),[(4,false,.phi false [.p]),(7,false,.rows [(0,true)])]),
 ((131,0,0),[(4,false,.phi false [.p]),(7,false,.rows [(0,true)])]),
 ((129,0,0),[(4,false,.phi false [.p]),(5,false,.phi false [.p])]),
 ((44,0,0),[(2,false,.phi false [.p]),(3,false,.phi false [.p])]),
 ((133,0,0),[(4,false,.phi false [.p]),(15,false,.phi false [.p])]),
 ((46,0,0),[(2,false,.phi false [.p]),(8,false,.phi false [.p]),(1,true,.phi true [.p,.p,.p,.p,.p,.p,.p,.p,.p,.p])]),
 ((134,0,0),[(4,false,.phi false [.p]),(5,false,.phi false [.p])]),
 ((54,0,0),[(4,false,.phi false [.p]),(5,false,.phi false [.p])])]
def lfz:List (Nat × Nat × Nat):=[]
def aV1_:List Nat:=[89,90,20,70,119,37,36,96,29,22,4,21,3,7,33,5,6]
noncomputable def lfn:List (Nat × Func):=[(148,Tryz.f148),(288,Tryz.f288),(255,Tryz.f255),(89,Tryz.f89),(90,Tryz.f90),(20,Tryz.f20),(70,Tryz.f70),(119,Tryz.f119),(37,Tryz.f37),(36,Tryz.f36),(96,Tryz.f96),(29,Tryz.f29),(22,Tryz.f22),(287,Tryz.f287),(21,Tryz.f21)]
noncomputable def cx:Cx:={ ty:=tiOf lty,sg:=fun _=>none,fn:=fnOf lfn,hint:=aNu_ aVh_,fz:=fzOf lfz,nest:=memN aV1_ }
theorem aOf_:FnIn Tryz.prog 148:=.mk Tryz.func148 (by kernel_rfl) (by kernel_rfl)
theorem aEe_:FnIn Tryz.prog 288:=.mk Tryz.func288 (by kernel_rfl) (by kernel_rfl)
theorem aNv_:FnIn Tryz.prog 255:=.mk Tryz.func255 (by kernel_rfl) (by kernel_rfl)
theorem av6_:FnIn Tryz.prog 89:=.mk Tryz.func89 (by kernel_rfl) (by kernel_rfl)
theorem auh_:FnIn Tryz.prog 90:=.mk Tryz.func90 (by kernel_rfl) (by kernel_rfl)
theorem aGz_:FnIn Tryz.prog 20:=.mk Tryz.func20 (by kernel_rfl) (by kernel_rfl)
theorem aE7_:FnIn Tryz.prog 70:=.mk Tryz.func70 (by kernel_rfl) (by kernel_rfl)
theorem aAb_:FnIn Tryz.prog 119:=.mk Tryz.func119 (by kernel_rfl) (by kernel_rfl)
theorem ar1_:FnIn Tryz.prog 37:=.mk Tryz.func37 (by kernel_rfl) (by kernel_rfl)
theorem aBr_:FnIn Tryz.prog 36:=.mk Tryz.func36 (by kernel_rfl) (by kernel_rfl)
theorem aCk_:FnIn Tryz.prog 96:=.mk Tryz.func96 (by kernel_rfl) (by kernel_rfl)
theorem aEy_:FnIn Tryz.prog 29:=.mk Tryz.func29 (by kernel_rfl) (by kernel_rfl)
theorem ava_:FnIn Tryz.prog 22:=.mk Tryz.func22 (by kernel_rfl) (by kernel_rfl)
theorem avh_:FnIn Tryz.prog 287:=.mk Tryz.func287 (by kernel_rfl) (by kernel_rfl)
theorem avx_:FnIn Tryz.prog 21:=.mk Tryz.func21 (by kernel_rfl) (by kernel_rfl)
theorem seat:Seat Tryz.prog cx:=⟨aUq_ (l:=lty) (by kernel_rfl) rfl,aSp_ (l:=lfn) (fc ⟨⟨Tryz.func148,aOf_⟩,fc ⟨⟨Tryz.func288,aEe_⟩,fc ⟨⟨Tryz.func255,aNv_⟩,fc ⟨⟨Tryz.func89,av6_⟩,fc ⟨⟨Tryz.func90,auh_⟩,fc ⟨⟨Tryz.func20,aGz_⟩,fc ⟨⟨Tryz.func70,aE7_⟩,fc ⟨⟨Tryz.func119,aAb_⟩,fc ⟨⟨Tryz.func37,ar1_⟩,fc ⟨⟨Tryz.func36,aBr_⟩,fc ⟨⟨Tryz.func96,aCk_⟩,fc ⟨⟨Tryz.func29,aEy_⟩,fc ⟨⟨Tryz.func22,ava_⟩,fc ⟨⟨Tryz.func287,avh_⟩,fc ⟨⟨Tryz.func21,avx_⟩,f0⟩⟩⟩⟩⟩⟩⟩⟩⟩⟩⟩⟩⟩⟩⟩) rfl,by kernel_rfl⟩
noncomputable def aMe_:=Kok.mk2 seat 72 ⟨[.v false 1,.v false 1],[(false,[.s])]⟩ p_szLinkS adz_ [] Tryz.func72 (by kernel_rfl) (by kernel_rfl) (by kernel_rfl)
noncomputable def aJr_:=Kok.mk2 seat 73 ⟨[.v false 1,.v false 1],[(false,[.s])]⟩ p_szThingS aa0_ [] Tryz.func73 (by kernel_rfl) (by kernel_rfl) (by kernel_rfl)
noncomputable def aFv_:=Kok.mk2 seat 12 ⟨[.v true 3,.v false 1],[(false,[.s])]⟩ p_szNet q1_ [aMe_,aJr_] Tryz.func12 (by kernel_rfl) (by kernel_rfl) (by kernel_rfl)
noncomputable def ann_:=Kok.mk2 seat 97 ⟨[.v false 1,.v false 1],[(false,[.s])]⟩ p_szIntS qh_ [] Tryz.func97 (by kernel_rfl) (by kernel_rfl) (by kernel_rfl)
noncomputable def aMv_:=Kok.mk2 seat 258 ⟨[.v false 1,.v false 1],[(false,[.s])]⟩ p_szNearS aed_ [] Tryz.func258 (by kernel_rfl) (by kernel_rfl) (by kernel_rfl)
noncomputable def aKg_:=Kok.mk2 seat 194 ⟨[.v true 8,.v false 1],[(false,[.s])]⟩ p_szRecord km_ [aMv_] Tryz.func194 (by kernel_rfl) (by kernel_rfl) (by kernel_rfl)
noncomputable def ae2_:=Kok.mk2 seat 98 ⟨[.v false 1,.v false 1],[(false,[.s])]⟩ p_szRecordS vc_ [aKg_] Tryz.func98 (by kernel_rfl) (by kernel_rfl) (by kernel_rfl)
noncomputable def aPc_:=Kok.mk2 seat 30 ⟨[.v true 7,.v false 1],[(false,[.s])]⟩ p_szSelf qv_ [aFv_,ann_,ae2_] Tryz.func30 (by kernel_rfl) (by kernel_rfl) (by kernel_rfl)
noncomputable def aPk_:=Kok.mk2 seat 91 ⟨[.v false 1,.v false 1],[(false,[.s])]⟩ p_szEarS ai9_ [] Tryz.func91 (by kernel_rfl) (by kernel_rfl) (by kernel_rfl)
noncomputable def aP6_:=Kok.mk2 seat 24 ⟨[.v true 8,.v false 1],[(false,[.s])]⟩ p_szNode kN_ [aPc_,aPk_] Tryz.func24 (by kernel_rfl) (by kernel_rfl) (by kernel_rfl)
noncomputable def aRk_:=Kok.mk2 seat 179 ⟨[.v true 4],[(true,[.s,.s,.s,.s])]⟩ p_toLink agj_ [] Tryz.func179 (by kernel_rfl) (by kernel_rfl) (by kernel_rfl)
noncomputable def aKz_:=Kok.mk2 seat 79 ⟨[.v false 1],[(false,[.o true])]⟩ p_toLinkS adc_ [aRk_] Tryz.func79 (by kernel_rfl) (by kernel_rfl) (by kernel_rfl)
noncomputable def aLm_:=Kok.mk2 seat 180 ⟨[.v true 4],[(true,[.s,.s,.s,.s])]⟩ p_toThing aef_ [] Tryz.func180 (by kernel_rfl) (by kernel_rfl) (by kernel_rfl)
noncomputable def aGe_:=Kok.mk2 seat 80 ⟨[.v false 1],[(false,[.o true])]⟩ p_toThingS aba_ [aLm_] Tryz.func80 (by kernel_rfl) (by kernel_rfl) (by kernel_rfl)
noncomputable def aF3_:=Kok.mk2 seat 14 ⟨[.v true 3],[(true,[.s,.o true,.o true])]⟩ p_toNet kL_ [aKz_,aGe_] Tryz.func14 (by kernel_rfl) (by kernel_rfl) (by kernel_rfl)
noncomputable def ano_:=Kok.mk2 seat 111 ⟨[.v false 1],[(false,[.o true])]⟩ p_toIntS ql_ [] Tryz.func111 (by kernel_rfl) (by kernel_rfl) (by kernel_rfl)
noncomputable def aQn_:=Kok.mk2 seat 290 ⟨[.v true 2],[(true,[.s,.s])]⟩ p_toNear ahp_ [] Tryz.func290 (by kernel_rfl) (by kernel_rfl) (by kernel_rfl)
noncomputable def aOt_:=Kok.mk2 seat 259 ⟨[.v false 1],[(false,[.o true])]⟩ p_toNearS ad8_ [aQn_] Tryz.func259 (by kernel_rfl) (by kernel_rfl) (by kernel_rfl)
noncomputable def aJ2_:=Kok.mk2 seat 200 ⟨[.v true 8],[(true,[.s,.s,.s,.s,.s,.o true,.s,.s])]⟩ p_toRecord aa7_ [aOt_] Tryz.func200 (by kernel_rfl) (by kernel_rfl) (by kernel_rfl)
noncomputable def afa_:=Kok.mk2 seat 112 ⟨[.v false 1],[(false,[.o true])]⟩ p_toRecordS vd_ [aJ2_] Tryz.func112 (by kernel_rfl) (by kernel_rfl) (by kernel_rfl)
noncomputable def aQ2_:=Kok.mk2 seat 32 ⟨[.v true 7],[(true,[.s,.s,.s,.o true,.o true,.o true,.o true])]⟩ p_toSelf acq_ [aF3_,ano_,afa_] Tryz.func32 (by kernel_rfl) (by kernel_rfl) (by kernel_rfl)
noncomputable def aTg_:=Kok.mk2 seat 191 ⟨[.v true 4],[(true,[.s,.s,.s,.s])]⟩ p_toEar alw_ [] Tryz.func191 (by kernel_rfl) (by kernel_rfl) (by kernel_rfl)
noncomputable def aRa_:=Kok.mk2 seat 93 ⟨[.v false 1],[(false,[.o true])]⟩ p_toEarS agt_ [aTg_] Tryz.func93 (by kernel_rfl) (by kernel_rfl) (by kernel_rfl)
noncomputable def aPs_:=Kok.mk2 seat 26 ⟨[.v true 8],[(true,[.s,.s,.s,.o true,.o true,.o true,.o true,.o true])]⟩ p_toNode aix_ [aQ2_,aRa_] Tryz.func26 (by kernel_rfl) (by kernel_rfl) (by kernel_rfl)
noncomputable def vT_:=Kok.mk2 seat 75 ⟨[.v false 1,.v false 1,.v false 1],[(false,[.s])]⟩ p_s_l01In yd_ [] Tryz.func75 (by kernel_rfl) (by kernel_rfl) (by kernel_rfl)
noncomputable def aGg_:=Kok.mk2 seat 215 ⟨[.v false 1,.v true 4],[(false,[.s])]⟩ p_s_LinkOk q7_ [vT_] Tryz.func215 (by kernel_rfl) (by kernel_rfl) (by kernel_rfl)
noncomputable def axn_:=Kok.mk2 seat 216 ⟨[.v true 4,.v true 4],[(false,[.s])]⟩ p_s_l03Ahead uo_ [] Tryz.func216 (by kernel_rfl) (by kernel_rfl) (by kernel_rfl)
noncomputable def aAx_:=Kok.mk2 seat 217 ⟨[.v true 4,.v true 4],[(false,[.s])]⟩ p_s_l03Thing us_ [] Tryz.func217 (by kernel_rfl) (by kernel_rfl) (by kernel_rfl)
noncomputable def at5_:=Kok.mk2 seat 135 ⟨[.v true 3],[(false,[.s])]⟩ p_s_NetOk vK_ [vT_,aGg_,axn_,aAx_] Tryz.func135 (by kernel_rfl) (by kernel_rfl) (by kernel_rfl)
noncomputable def aiy_:=Kok.mk2 seat 122 ⟨[.v true 3,.v false 1,.v false 1,.v false 1],[(false,[.s])]⟩ p_s_CostTo x3_ [] Tryz.func122 (by kernel_rfl) (by kernel_rfl) (by kernel_rfl)
noncomputable def axd_:=Kok.mk2 seat 195 ⟨[.v true 7],[(false,[.s])]⟩ p_s_l08Heard uu_ [aiy_] Tryz.func195 (by kernel_rfl) (by kernel_rfl) (by kernel_rfl)
noncomputable def aEa_:=Kok.mk2 seat 286 ⟨[.v true 8],[(false,[.s])]⟩ p_s_l04Near u4_ [vT_] Tryz.func286 (by kernel_rfl) (by kernel_rfl) (by kernel_rfl)
noncomputable def aAp_:=Kok.mk2 seat 249 ⟨[.v true 8],[(false,[.s])]⟩ p_s_RecordOk ug_ [vT_,aEa_] Tryz.func249 (by kernel_rfl) (by kernel_rfl) (by kernel_rfl)
noncomputable def aqq_:=Kok.mk2 seat 199 ⟨[.v true 8,.v true 8],[(false,[.s])]⟩ p_s_Before w4_ [] Tryz.func199 (by kernel_rfl) (by kernel_rfl) (by kernel_rfl)
noncomputable def jo_:=Kok.mk2 seat 176 ⟨[.v false 1],[(false,[.s])]⟩ p_s_StoreOk yX_ [aqq_,aAp_] Tryz.func176 (by kernel_rfl) (by kernel_rfl) (by kernel_rfl)
noncomputable def aIq_:=Kok.mk2 seat 99 ⟨[.v true 7],[(false,[.s])]⟩ p_s_SelfOk qT_ [vT_,at5_,jo_,axd_] Tryz.func99 (by kernel_rfl) (by kernel_rfl) (by kernel_rfl)
noncomputable def az1_:=Kok.mk2 seat 142 ⟨[.v false 1],[(false,[.p])]⟩ p_s_l10Heard up_ [] Tryz.func142 (by kernel_rfl) (by kernel_rfl) (by kernel_rfl)
noncomputable def adx_:=Kok.mk2 seat 190 ⟨[.v false 1,.v false 1],[(false,[.s])]⟩ p_s_l10SameInts xG_ [] Tryz.func190 (by kernel_rfl) (by kernel_rfl) (by kernel_rfl)
noncomputable def aHv_:=Kok.mk2 seat 92 ⟨[.v true 8],[(false,[.s])]⟩ p_s_NodeOk qY_ [vT_,aIq_,aiy_,az1_,adx_] Tryz.func92 (by kernel_rfl) (by kernel_rfl) (by kernel_rfl)
noncomputable def aHj_:=Kok.mk2 seat 178 ⟨[.v true 3,.v false 1,.v false 1],[(false,[.p])]⟩ p_s_NextTo qL_ [aiy_] Tryz.func178 (by kernel_rfl) (by kernel_rfl) (by kernel_rfl)
noncomputable def k6_:=Kok.mk2 seat 77 ⟨[.v true 3,.v false 1],[(false,[.p])]⟩ p_s_AreasOf xk_ [aHj_] Tryz.func77 (by kernel_rfl) (by kernel_rfl) (by kernel_rfl)
noncomputable def aig_:=Kok.mk2 seat 78 ⟨[.v true 3,.v false 1],[(false,[.s])]⟩ p_s_Border x6_ [k6_] Tryz.func78 (by kernel_rfl) (by kernel_rfl) (by kernel_rfl)
noncomputable def aCh_:=Kok.mk2 seat 198 ⟨[.v true 8,.v true 8],[(false,[.s])]⟩ p_s_SameKey u8_ [] Tryz.func198 (by kernel_rfl) (by kernel_rfl) (by kernel_rfl)
noncomputable def aLd_:=Kok.mk2 seat 106 ⟨[.v false 1,.v true 8],[(false,[.s])]⟩ p_s_l05At jY_ [aCh_] Tryz.func106 (by kernel_rfl) (by kernel_rfl) (by kernel_rfl)
noncomputable def aej_:=Kok.mk2 seat 282 ⟨[.v false 1,.v false 1,.v false 1],[(true,[.s,.s,.s,.s,.s,.p,.s,.s]),(false,[.s])]⟩ p_s_l06Node xC_ [aLd_] Tryz.func282 (by kernel_rfl) (by kernel_rfl) (by kernel_rfl)
noncomputable def axm_:=Kok.mk2 seat 307 ⟨[.v false 1,.v false 1,.v false 1,.v false 1],[(false,[.s])]⟩ p_s_l06Tells uf_ [aej_] Tryz.func307 (by kernel_rfl) (by kernel_rfl) (by kernel_rfl)
noncomputable def azj_:=Kok.mk2 seat 283 ⟨[.v false 1,.v false 1],[(false,[.p])]⟩ p_s_l06Links ui_ [vT_,aej_,axm_] Tryz.func283 (by kernel_rfl) (by kernel_rfl) (by kernel_rfl)
noncomputable def aMd_:=Kok.mk2 seat 153 ⟨[.v false 1,.v false 1],[(false,[.s])]⟩ p_s_l03In j1_ [] Tryz.func153 (by kernel_rfl) (by kernel_rfl) (by kernel_rfl)
noncomputable def ahj_:=Kok.mk2 seat 251 ⟨[.v false 1,.v false 1],[(false,[.p])]⟩ p_s_l06Add yI_ [aMd_] Tryz.func251 (by kernel_rfl) (by kernel_rfl) (by kernel_rfl)
noncomputable def aim_:=Kok.mk2 seat 245 ⟨[.v false 1,.v false 1,.v false 1],[(false,[.p])]⟩ p_s_WaysIn x8_ [vT_,jo_,ahj_,aej_,azj_] Tryz.func245 (by kernel_rfl) (by kernel_rfl) (by kernel_rfl)
noncomputable def anf_:=Kok.mk2 seat 284 ⟨[.v true 3],[(true,[.s,.s,.p])]⟩ p_s_l06Copy wP_ [] Tryz.func284 (by kernel_rfl) (by kernel_rfl) (by kernel_rfl)
noncomputable def aag_:=Kok.mk2 seat 246 ⟨[.v false 1,.v false 1],[(true,[.s,.s,.p]),(false,[.s])]⟩ p_s_WayTo xj_ [anf_] Tryz.func246 (by kernel_rfl) (by kernel_rfl) (by kernel_rfl)
noncomputable def aKo_:=Kok.mk2 seat 285 ⟨[.v true 3,.v true 3],[(false,[.s])]⟩ p_s_Better qX_ [] Tryz.func285 (by kernel_rfl) (by kernel_rfl) (by kernel_rfl)
noncomputable def aj4_:=Kok.mk2 seat 247 ⟨[.v true 3,.v true 3],[(true,[.s,.s,.p])]⟩ p_s_Together ww_ [ahj_,anf_,aKo_] Tryz.func247 (by kernel_rfl) (by kernel_rfl) (by kernel_rfl)
noncomputable def jG_:=Kok.mk2 seat 174 ⟨[.v false 1,.v false 1,.v false 1],[(false,[.p])]⟩ p_s_RoutesWithin y2_ [aim_,aag_,aj4_] Tryz.func174 (by kernel_rfl) (by kernel_rfl) (by kernel_rfl)
noncomputable def at7_:=Kok.mk2 seat 248 ⟨[.v false 1,.v false 1,.v false 1,.v false 1,.v false 1,.v true 3,.v false 1],[(true,[.s,.s,.p]),(false,[.s])]⟩ p_s_l07Beyond vB_ [aag_,aj4_] Tryz.func248 (by kernel_rfl) (by kernel_rfl) (by kernel_rfl)
noncomputable def ac3_:=Kok.mk2 seat 175 ⟨[.v false 1,.v false 1,.v false 1,.v false 1],[(false,[.p])]⟩ p_s_RoutesBeyond xx_ [jG_,jo_,aim_,aag_,at7_] Tryz.func175 (by kernel_rfl) (by kernel_rfl) (by kernel_rfl)
noncomputable def azo_:=Kok.mk2 seat 250 ⟨[.v false 1,.v false 1,.v false 1,.v false 1],[(true,[.s,.s,.p]),(false,[.s])]⟩ p_s_l07Owner ur_ [aag_] Tryz.func250 (by kernel_rfl) (by kernel_rfl) (by kernel_rfl)
noncomputable def azb_:=Kok.mk2 seat 177 ⟨[.v false 1,.v false 1,.v false 1,.v false 1,.v false 1,.v false 1],[(true,[.s,.s,.s,.s,.s,.p]),(false,[.s])]⟩ p_s_l07Thing vr_ [azo_,ahj_] Tryz.func177 (by kernel_rfl) (by kernel_rfl) (by kernel_rfl)
noncomputable def akr_:=Kok.mk2 seat 76 ⟨[.v false 1,.v false 1,.v false 1,.v false 1],[(false,[.p])]⟩ p_s_RoutesOf wr_ [jG_,ac3_,jo_,azb_] Tryz.func76 (by kernel_rfl) (by kernel_rfl) (by kernel_rfl)
noncomputable def aF9_:=Kok.mk2 seat 25 ⟨[.v true 8],[(false,[.p])]⟩ p_s_Routes uE_ [akr_,k6_,aig_,aHv_] Tryz.func25 (by kernel_rfl) (by kernel_rfl) (by kernel_rfl)
noncomputable def ko_:=Kok.mk2 seat 82 ⟨[.v false 1,.v false 1,.v false 1],[(false,[.s])]⟩ p_i_in xe_ [] Tryz.func82 (by kernel_rfl) (by kernel_rfl) (by kernel_rfl)
noncomputable def aH1_:=Kok.mk2 seat 218 ⟨[.v false 1,.v true 4],[(false,[.s])]⟩ p_i_LinkOk qM_ [ko_] Tryz.func218 (by kernel_rfl) (by kernel_rfl) (by kernel_rfl)
noncomputable def aK8_:=Kok.mk2 seat 219 ⟨[.v true 4,.v true 4],[(false,[.s])]⟩ p_i_ahead kc_ [] Tryz.func219 (by kernel_rfl) (by kernel_rfl) (by kernel_rfl)
noncomputable def aQo_:=Kok.mk2 seat 220 ⟨[.v true 4,.v true 4],[(false,[.s])]⟩ p_i_less kI_ [] Tryz.func220 (by kernel_rfl) (by kernel_rfl) (by kernel_rfl)
noncomputable def asx_:=Kok.mk2 seat 138 ⟨[.v true 3],[(false,[.s])]⟩ p_i_NetOk v3_ [ko_,aH1_,aK8_,aQo_] Tryz.func138 (by kernel_rfl) (by kernel_rfl) (by kernel_rfl)
noncomputable def ais_:=Kok.mk2 seat 214 ⟨[.v true 3,.v false 1,.v false 1,.v false 1],[(false,[.s])]⟩ p_i_linkAt x4_ [] Tryz.func214 (by kernel_rfl) (by kernel_rfl) (by kernel_rfl)
noncomputable def aEs_:=Kok.mk2 seat 201 ⟨[.v true 7],[(false,[.s])]⟩ p_i_heardOk u7_ [ais_] Tryz.func201 (by kernel_rfl) (by kernel_rfl) (by kernel_rfl)
noncomputable def aHz_:=Kok.mk2 seat 291 ⟨[.v true 8],[(false,[.s])]⟩ p_i_nearOk qS_ [ko_] Tryz.func291 (by kernel_rfl) (by kernel_rfl) (by kernel_rfl)
noncomputable def ayy_:=Kok.mk2 seat 260 ⟨[.v true 8],[(false,[.s])]⟩ p_i_RecordOk ue_ [ko_,aHz_] Tryz.func260 (by kernel_rfl) (by kernel_rfl) (by kernel_rfl)
noncomputable def ao8_:=Kok.mk2 seat 209 ⟨[.v true 8,.v true 8],[(false,[.s])]⟩ p_i_Before w6_ [] Tryz.func209 (by kernel_rfl) (by kernel_rfl) (by kernel_rfl)
noncomputable def am7_:=Kok.mk2 seat 202 ⟨[.v false 1],[(false,[.s])]⟩ p_i_StoreOk wQ_ [ao8_,ayy_] Tryz.func202 (by kernel_rfl) (by kernel_rfl) (by kernel_rfl)
noncomputable def aIe_:=Kok.mk2 seat 114 ⟨[.v true 7],[(false,[.s])]⟩ p_i_SelfOk jc_ [ko_,asx_,aEs_,am7_] Tryz.func114 (by kernel_rfl) (by kernel_rfl) (by kernel_rfl)
noncomputable def aIw_:=Kok.mk2 seat 124 ⟨[.v true 3,.v false 1],[(false,[.o true])]⟩ p_i_earsOf q8_ [ais_] Tryz.func124 (by kernel_rfl) (by kernel_rfl) (by kernel_rfl)
noncomputable def aBx_:=Kok.mk2 seat 146 ⟨[.v false 1],[(false,[.o true])]⟩ p_i_heardBy u3_ [] Tryz.func146 (by kernel_rfl) (by kernel_rfl) (by kernel_rfl)
noncomputable def aj7_:=Kok.mk2 seat 192 ⟨[.v false 1,.v false 1],[(false,[.s])]⟩ p_i_sameInts ws_ [] Tryz.func192 (by kernel_rfl) (by kernel_rfl) (by kernel_rfl)
noncomputable def aJc_:=Kok.mk2 seat 94 ⟨[.v true 8],[(false,[.s])]⟩ p_i_NodeOk q0_ [ko_,aIe_,aIw_,aBx_,aj7_] Tryz.func94 (by kernel_rfl) (by kernel_rfl) (by kernel_rfl)
noncomputable def uh_:=Kok.mk2 seat 185 ⟨[.v false 1],[(false,[.o true])]⟩ p_i_copyInts zO_ [] Tryz.func185 (by kernel_rfl) (by kernel_rfl) (by kernel_rfl)
noncomputable def jg_:=Kok.mk2 seat 84 ⟨[.v true 3,.v false 1],[(false,[.o true])]⟩ p_i_AreasOf yU_ [uh_] Tryz.func84 (by kernel_rfl) (by kernel_rfl) (by kernel_rfl)
noncomputable def aha_:=Kok.mk2 seat 187 ⟨[.v false 1,.v false 1],[(false,[.s])]⟩ p_i_hasInt x7_ [] Tryz.func187 (by kernel_rfl) (by kernel_rfl) (by kernel_rfl)
noncomputable def ag2_:=Kok.mk2 seat 85 ⟨[.v true 3,.v false 1],[(false,[.s])]⟩ p_i_Border x9_ [jg_,aha_] Tryz.func85 (by kernel_rfl) (by kernel_rfl) (by kernel_rfl)
noncomputable def am3_:=Kok.mk2 seat 210 ⟨[.v true 8,.v true 8],[(false,[.s])]⟩ p_i_SameKey wL_ [] Tryz.func210 (by kernel_rfl) (by kernel_rfl) (by kernel_rfl)
noncomputable def akx_:=Kok.mk2 seat 204 ⟨[.v false 1,.v true 8],[(false,[.s])]⟩ p_i_keyAt wE_ [am3_] Tryz.func204 (by kernel_rfl) (by kernel_rfl) (by kernel_rfl)
noncomputable def aPw_:=Kok.mk2 seat 313 ⟨[.v false 1,.v false 1,.v false 1,.v false 1],[(false,[.s])]⟩ p_i_told kJ_ [akx_] Tryz.func313 (by kernel_rfl) (by kernel_rfl) (by kernel_rfl)
noncomputable def aHi_:=Kok.mk2 seat 308 ⟨[.v false 1,.v false 1,.v false 1,.v false 1],[(false,[.s])]⟩ p_i_Linked q3_ [aPw_] Tryz.func308 (by kernel_rfl) (by kernel_rfl) (by kernel_rfl)
noncomputable def k4_:=Kok.mk2 seat 289 ⟨[.v true 3],[(true,[.s,.s,.o true])]⟩ p_i_copyWay yY_ [uh_] Tryz.func289 (by kernel_rfl) (by kernel_rfl) (by kernel_rfl)
noncomputable def kr_:=Kok.mk2 seat 257 ⟨[.v true 3,.v true 3],[(true,[.s,.s,.o true])]⟩ p_i_Together ye_ [uh_,k4_] Tryz.func257 (by kernel_rfl) (by kernel_rfl) (by kernel_rfl)
noncomputable def aii_:=Kok.mk2 seat 254 ⟨[.v false 1,.v false 1,.v false 1],[(false,[.o false])]⟩ p_i_WaysIn wa_ [ko_,uh_,aha_,am7_,akx_,kr_,aHi_] Tryz.func254 (by kernel_rfl) (by kernel_rfl) (by kernel_rfl)
noncomputable def jD_:=Kok.mk2 seat 183 ⟨[.v false 1,.v false 1,.v false 1],[(false,[.o false])]⟩ p_i_RoutesWithin y1_ [aii_,kr_,k4_] Tryz.func183 (by kernel_rfl) (by kernel_rfl) (by kernel_rfl)
noncomputable def akl_:=Kok.mk2 seat 256 ⟨[.v false 1,.v false 1],[(true,[.s,.s,.o true]),(false,[.s])]⟩ p_i_WayTo wj_ [k4_] Tryz.func256 (by kernel_rfl) (by kernel_rfl) (by kernel_rfl)
noncomputable def ab5_:=Kok.mk2 seat 184 ⟨[.v false 1,.v false 1,.v false 1,.v false 1],[(false,[.o false])]⟩ p_i_RoutesBeyond xz_ [jD_,aha_,aii_,akl_,kr_,k4_] Tryz.func184 (by kernel_rfl) (by kernel_rfl) (by kernel_rfl)
noncomputable def aLl_:=Kok.mk2 seat 186 ⟨[.v false 1,.v false 1,.v false 1,.v false 1],[(true,[.s,.s,.s,.s,.s,.o true]),(false,[.s])]⟩ p_i_thing j0_ [akl_,kr_] Tryz.func186 (by kernel_rfl) (by kernel_rfl) (by kernel_rfl)
noncomputable def akf_:=Kok.mk2 seat 83 ⟨[.v false 1,.v false 1,.v false 1,.v false 1],[(false,[.o true])]⟩ p_i_RoutesOf wy_ [jD_,ab5_,uh_,aLl_] Tryz.func83 (by kernel_rfl) (by kernel_rfl) (by kernel_rfl)
noncomputable def aH4_:=Kok.mk2 seat 27 ⟨[.v true 8],[(false,[.o true])]⟩ p_i_Routes uL_ [akf_,jg_,ag2_,aJc_] Tryz.func27 (by kernel_rfl) (by kernel_rfl) (by kernel_rfl)
noncomputable def anr_:=Kok.mk2 seat 67 ⟨[.v false 1,.v false 1],[(false,[.s])]⟩ p_eqIntS qz_ [] Tryz.func67 (by kernel_rfl) (by kernel_rfl) (by kernel_rfl)
noncomputable def aPx_:=Kok.mk2 seat 188 ⟨[.v true 4,.v true 4],[(false,[.s])]⟩ p_eqLink aih_ [] Tryz.func188 (by kernel_rfl) (by kernel_rfl) (by kernel_rfl)
noncomputable def aMq_:=Kok.mk2 seat 87 ⟨[.v false 1,.v false 1],[(false,[.s])]⟩ p_eqLinkS adq_ [aPx_] Tryz.func87 (by kernel_rfl) (by kernel_rfl) (by kernel_rfl)
noncomputable def aN8_:=Kok.mk2 seat 189 ⟨[.v true 4,.v true 4],[(false,[.s])]⟩ p_eqThing adl_ [] Tryz.func189 (by kernel_rfl) (by kernel_rfl) (by kernel_rfl)
noncomputable def aHh_:=Kok.mk2 seat 88 ⟨[.v false 1,.v false 1],[(false,[.s])]⟩ p_eqThingS abf_ [aN8_] Tryz.func88 (by kernel_rfl) (by kernel_rfl) (by kernel_rfl)
noncomputable def aFu_:=Kok.mk2 seat 18 ⟨[.v true 3,.v true 3],[(false,[.s])]⟩ p_eqNet kH_ [aMq_,aHh_] Tryz.func18 (by kernel_rfl) (by kernel_rfl) (by kernel_rfl)
noncomputable def aQi_:=Kok.mk2 seat 263 ⟨[.v true 2,.v true 2],[(false,[.s])]⟩ p_eqNear ag4_ [] Tryz.func263 (by kernel_rfl) (by kernel_rfl) (by kernel_rfl)
noncomputable def aNr_:=Kok.mk2 seat 211 ⟨[.v false 1,.v false 1],[(false,[.s])]⟩ p_eqNearS ady_ [aQi_] Tryz.func211 (by kernel_rfl) (by kernel_rfl) (by kernel_rfl)
noncomputable def aGc_:=Kok.mk2 seat 118 ⟨[.v true 8,.v true 8],[(false,[.s])]⟩ p_eqRecord abd_ [aNr_] Tryz.func118 (by kernel_rfl) (by kernel_rfl) (by kernel_rfl)
noncomputable def afd_:=Kok.mk2 seat 35 ⟨[.v false 1,.v false 1],[(false,[.s])]⟩ p_eqRecordS ve_ [aGc_] Tryz.func35 (by kernel_rfl) (by kernel_rfl) (by kernel_rfl)
noncomputable def aP2_:=Kok.mk2 seat 34 ⟨[.v true 7,.v true 7],[(false,[.s])]⟩ p_eqSelf acf_ [aFu_,afd_,anr_] Tryz.func34 (by kernel_rfl) (by kernel_rfl) (by kernel_rfl)
noncomputable def aSt_:=Kok.mk2 seat 193 ⟨[.v true 4,.v true 4],[(false,[.s])]⟩ p_eqEar al6_ [] Tryz.func193 (by kernel_rfl) (by kernel_rfl) (by kernel_rfl)
noncomputable def aO9_:=Kok.mk2 seat 95 ⟨[.v false 1,.v false 1],[(false,[.s])]⟩ p_eqEarS ahs_ [aSt_] Tryz.func95 (by kernel_rfl) (by kernel_rfl) (by kernel_rfl)
noncomputable def aQw_:=Kok.mk2 seat 28 ⟨[.v true 8,.v true 8],[(false,[.s])]⟩ p_eqNode agx_ [aP2_,aO9_] Tryz.func28 (by kernel_rfl) (by kernel_rfl) (by kernel_rfl)
noncomputable def aLc_:=Kok.mk2 seat 15 ⟨[.v false 1],[(false,[.o true])]⟩ p_toBoolS add_ [] Tryz.func15 (by kernel_rfl) (by kernel_rfl) (by kernel_rfl)
noncomputable def aC0_:=Kok.mk2 seat 172 ⟨[.v true 3,.v false 1,.v false 1,.v false 1,.v false 1],[(false,[.s])]⟩ p_s_l13Open uW_ [] Tryz.func172 (by kernel_rfl) (by kernel_rfl) (by kernel_rfl)
noncomputable def aoy_:=Kok.mk2 seat 105 ⟨[.v false 1,.v true 8],[(false,[.p])]⟩ p_s_l05Put w3_ [aqq_] Tryz.func105 (by kernel_rfl) (by kernel_rfl) (by kernel_rfl)
noncomputable def aJa_:=Kok.mk2 seat 197 ⟨[.v false 1,.v false 1,.v false 1,.v false 1],[(false,[.p])]⟩ p_s_Beyond qI_ [jG_,ac3_,jo_,aim_,aag_] Tryz.func197 (by kernel_rfl) (by kernel_rfl) (by kernel_rfl)
noncomputable def aAz_:=Kok.mk2 seat 110 ⟨[.v false 1,.v false 1],[(false,[.p])]⟩ p_s_l08With uZ_ [aoy_] Tryz.func110 (by kernel_rfl) (by kernel_rfl) (by kernel_rfl)
noncomputable def aut_:=Kok.mk2 seat 173 ⟨[.v false 1,.v false 1,.v false 1],[(false,[.p])]⟩ p_s_l13Beyond vz_ [aAz_,aJa_] Tryz.func173 (by kernel_rfl) (by kernel_rfl) (by kernel_rfl)
noncomputable def aE0_:=Kok.mk2 seat 108 ⟨[.v true 8],[(true,[.s,.s,.s,.s,.s,.o true,.s,.s])]⟩ p_s_l04Copy u2_ [] Tryz.func108 (by kernel_rfl) (by kernel_rfl) (by kernel_rfl)
noncomputable def aqz_:=Kok.mk2 seat 109 ⟨[.v false 1],[(false,[.o true])]⟩ p_s_l04CopyList wS_ [aE0_] Tryz.func109 (by kernel_rfl) (by kernel_rfl) (by kernel_rfl)
noncomputable def aN5_:=Kok.mk2 seat 74 ⟨[.v true 3,.v false 1,.v false 1],[(false,[.p]),(false,[.s])]⟩ p_s_Ideal jU_ [k6_,aig_,aoy_,aqz_,at5_,aC0_,aut_] Tryz.func74 (by kernel_rfl) (by kernel_rfl) (by kernel_rfl)
noncomputable def asb_:=Kok.mk2 seat 13 ⟨[.v true 3,.v false 1,.v false 1,.v false 1],[(false,[.p])]⟩ p_s_TrueRoutes vj_ [aN5_,vT_,akr_,k6_,aig_] Tryz.func13 (by kernel_rfl) (by kernel_rfl) (by kernel_rfl)
noncomputable def aH3_:=Kok.mk2 seat 252 ⟨[.v true 3,.v false 1,.v false 1],[(false,[.o true])]⟩ p_i_NextTo qD_ [uh_] Tryz.func252 (by kernel_rfl) (by kernel_rfl) (by kernel_rfl)
noncomputable def aIm_:=Kok.mk2 seat 181 ⟨[.v true 3,.v false 1,.v false 1,.v false 1,.v false 1],[(false,[.o true])]⟩ p_i_nearUp q5_ [ais_,aH3_] Tryz.func181 (by kernel_rfl) (by kernel_rfl) (by kernel_rfl)
noncomputable def afs_:=Kok.mk2 seat 208 ⟨[.v true 8],[(true,[.s,.s,.s,.s,.s,.o true,.s,.s])]⟩ p_i_copyRecord xX_ [] Tryz.func208 (by kernel_rfl) (by kernel_rfl) (by kernel_rfl)
noncomputable def aov_:=Kok.mk2 seat 116 ⟨[.v false 1],[(false,[.o true])]⟩ p_i_copyRecords wY_ [afs_] Tryz.func116 (by kernel_rfl) (by kernel_rfl) (by kernel_rfl)
noncomputable def arl_:=Kok.mk2 seat 117 ⟨[.v false 1,.v true 8],[(false,[.o true])]⟩ p_i_put vD_ [aov_,afs_,ao8_,am3_] Tryz.func117 (by kernel_rfl) (by kernel_rfl) (by kernel_rfl)
noncomputable def aKe_:=Kok.mk2 seat 253 ⟨[.v false 1,.v false 1,.v false 1,.v false 1],[(false,[.o true])]⟩ p_i_Beyond qH_ [arl_,jD_,ab5_,akx_,aii_,akl_] Tryz.func253 (by kernel_rfl) (by kernel_rfl) (by kernel_rfl)
noncomputable def aBn_:=Kok.mk2 seat 182 ⟨[.v false 1,.v true 3,.v false 1],[(false,[.o false])]⟩ p_i_instead u0_ [jg_,arl_,aKe_] Tryz.func182 (by kernel_rfl) (by kernel_rfl) (by kernel_rfl)
noncomputable def aN9_:=Kok.mk2 seat 81 ⟨[.v true 3,.v false 1,.v false 1],[(false,[.o false]),(false,[.s])]⟩ p_i_Ideal jT_ [jg_,ag2_,arl_,asx_,aIm_,aBn_] Tryz.func81 (by kernel_rfl) (by kernel_rfl) (by kernel_rfl)
noncomputable def ar6_:=Kok.mk2 seat 16 ⟨[.v true 3,.v false 1,.v false 1,.v false 1],[(false,[.o true])]⟩ p_i_TrueRoutes vk_ [aN9_,ko_,akf_,jg_,ag2_] Tryz.func16 (by kernel_rfl) (by kernel_rfl) (by kernel_rfl)
noncomputable def aLr_:=Kok.mk2 seat 19 ⟨[.v false 1,.v false 1],[(false,[.s])]⟩ p_eqBoolS adr_ [] Tryz.func19 (by kernel_rfl) (by kernel_rfl) (by kernel_rfl)
noncomputable def aOk_:=Kok.mk2 seat 126 ⟨[.v false 1,.v false 1],[(false,[.s])]⟩ p_szBoolS adf_ [] Tryz.func126 (by kernel_rfl) (by kernel_rfl) (by kernel_rfl)
noncomputable def aLu_:=Kok.mk2 seat 127 ⟨[.v false 1,.v false 1],[(false,[.s])]⟩ p_szNodeS ada_ [aP6_] Tryz.func127 (by kernel_rfl) (by kernel_rfl) (by kernel_rfl)
noncomputable def aJx_:=Kok.mk2 seat 57 ⟨[.v true 6,.v false 1],[(false,[.s])]⟩ p_szPacket qW_ [ann_,ae2_] Tryz.func57 (by kernel_rfl) (by kernel_rfl) (by kernel_rfl)
noncomputable def aBm_:=Kok.mk2 seat 128 ⟨[.v false 1,.v false 1],[(false,[.s])]⟩ p_szPacketS k0_ [aJx_] Tryz.func128 (by kernel_rfl) (by kernel_rfl) (by kernel_rfl)
noncomputable def aM7_:=Kok.mk2 seat 43 ⟨[.v true 10,.v false 1],[(false,[.s])]⟩ p_szWorld wm_ [aFv_,ann_,ae2_,aOk_,aLu_,aBm_] Tryz.func43 (by kernel_rfl) (by kernel_rfl) (by kernel_rfl)
noncomputable def aK0_:=Kok.mk2 seat 130 ⟨[.v false 1],[(false,[.o true])]⟩ p_toNodeS aeb_ [aPs_] Tryz.func130 (by kernel_rfl) (by kernel_rfl) (by kernel_rfl)
noncomputable def aGx_:=Kok.mk2 seat 59 ⟨[.v true 6],[(true,[.s,.s,.s,.s,.o true,.o true])]⟩ p_toPacket aa3_ [ano_,afa_] Tryz.func59 (by kernel_rfl) (by kernel_rfl) (by kernel_rfl)
noncomputable def aEi_:=Kok.mk2 seat 131 ⟨[.v false 1],[(false,[.o true])]⟩ p_toPacketS kZ_ [aGx_] Tryz.func131 (by kernel_rfl) (by kernel_rfl) (by kernel_rfl)
noncomputable def aNx_:=Kok.mk2 seat 45 ⟨[.v true 10],[(true,[.s,.o true,.o true,.o true,.o true,.o true,.o true,.o true,.o true,.s])]⟩ p_toWorld kb_ [aF3_,aLc_,ano_,afa_,aK0_,aEi_] Tryz.func45 (by kernel_rfl) (by kernel_rfl) (by kernel_rfl)
noncomputable def ami_:=Kok.mk2 seat 129 ⟨[.v false 1,.v false 1],[(false,[.s])]⟩ p_s_l13SameRoutes wD_ [adx_] Tryz.func129 (by kernel_rfl) (by kernel_rfl) (by kernel_rfl)
noncomputable def aA0_:=Kok.mk2 seat 44 ⟨[.v true 10],[(false,[.s])]⟩ p_s_Settled uY_ [asb_,aF9_,ami_] Tryz.func44 (by kernel_rfl) (by kernel_rfl) (by kernel_rfl)
noncomputable def azh_:=Kok.mk2 seat 132 ⟨[.x 10,.v false 1],[(false,[.s])]⟩ p_i_World_up ud_ [ko_] Tryz.func132 (by kernel_rfl) (by kernel_rfl) (by kernel_rfl)
noncomputable def asa_:=Kok.mk2 seat 133 ⟨[.v false 1,.v false 1],[(false,[.s])]⟩ p_i_sameRoutes vl_ [aj7_] Tryz.func133 (by kernel_rfl) (by kernel_rfl) (by kernel_rfl)
noncomputable def aB9_:=Kok.mk2 seat 46 ⟨[.v true 10],[(false,[.s])]⟩ p_i_Settled u1_ [ar6_,aH4_,azh_,asa_] Tryz.func46 (by kernel_rfl) (by kernel_rfl) (by kernel_rfl)
noncomputable def aM4_:=Kok.mk2 seat 134 ⟨[.v false 1,.v false 1],[(false,[.s])]⟩ p_eqNodeS ad5_ [aQw_] Tryz.func134 (by kernel_rfl) (by kernel_rfl) (by kernel_rfl)
noncomputable def aJw_:=Kok.mk2 seat 61 ⟨[.v true 6,.v true 6],[(false,[.s])]⟩ p_eqPacket abi_ [afd_,anr_] Tryz.func61 (by kernel_rfl) (by kernel_rfl) (by kernel_rfl)
noncomputable def aEv_:=Kok.mk2 seat 54 ⟨[.v false 1,.v false 1],[(false,[.s])]⟩ p_eqPacketS k2_ [aJw_] Tryz.func54 (by kernel_rfl) (by kernel_rfl) (by kernel_rfl)
noncomputable def aMk_:=Kok.mk2 seat 47 ⟨[.v true 10,.v true 10],[(false,[.s])]⟩ p_eqWorld jV_ [aFu_,aLr_,afd_,aEv_,anr_,aM4_] Tryz.func47 (by kernel_rfl) (by kernel_rfl) (by kernel_rfl)
noncomputable def k_FnExactSettled:=Kok.mk2 seat 7 ⟨[.v true 10],[(false,[.s])]⟩ p_FnExactSettled vq_ [aM7_,aA0_,aNx_,aB9_,aMk_] Tryz.func7 (by kernel_rfl) (by kernel_rfl) (by kernel_rfl)
end Go.Proofs.YtiebbbmibbkpcaaGreatWR

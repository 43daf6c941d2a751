/- The walk: what each function does. Conditions: none. -/
import Derived.Test.YtjimmglpkndemaaGreatChecked
import Derived.Test.YtjimmglpkndemaaGreatKe
namespace Go.Proofs.YtjimmglpkndemaaGreatC
noncomputable section
theorem fc{α:Type}{p:α->Prop}{a:α}{l:List α}(h:p a∧∀x∈l,p x):∀x∈a::l,p x:=List.forall_mem_cons.2 h
theorem f0{α:Type}{p:α->Prop}:∀x∈([]:List α),p x:=λ_ h=>nomatch h
def lty:List (Nat×TI):=[
 (3,⟨1,8,false,[.p (.k (.int .i64 0))],0,[],1⟩),
 (4,⟨1,1,false,[.p (.k (.bool false))],0,[],4⟩),
 (24,⟨1,24,false,[.n],185,[],3⟩),
 (25,⟨1,24,false,[.n],122,[],3⟩),
 (27,⟨3,56,true,[.p (.k (.int .i64 0)),.n,.n],0,[(0,1),(1,1),(2,1)],0⟩),
 (28,⟨1,24,false,[.n],3,[],3⟩),
 (29,⟨1,24,false,[.n],39,[],3⟩),
 (31,⟨7,120,true,[.p (.k (.int .i64 0)),.p (.k (.int .i64 0)),.p (.k (.int .i64 0)),.n,.n,.n,.n],0,[(0,1),(1,1),(2,3),(5,1),(6,1)],0⟩),
 (37,⟨1,24,false,[.n],117,[],3⟩),
 (39,⟨8,80,true,[.p (.k (.int .i64 0)),.p (.k (.int .i64 0)),.p (.k (.int .i64 0)),.p (.k (.int .i64 0)),.p (.k (.int .i64 0)),.n,.p (.k (.int .i64 0)),.p (.k (.bool false))],0,[(0,1),(1,1),(2,1),(3,1),(4,1),(5,1),(6,1),(7,1)],0⟩),
 (46,⟨1,24,false,[.n],58,[],3⟩),
 (48,⟨8,144,true,[.p (.k (.int .i64 0)),.p (.k (.int .i64 0)),.p (.k (.int .i64 0)),.n,.n,.n,.n,.n],0,[(0,7),(7,1)],0⟩),
 (50,⟨6,80,true,[.p (.k (.int .i64 0)),.p (.k (.int .i64 0)),.p (.k (.int .i64 0)),.p (.k (.int .i64 0)),.n,.n],0,[(0,1),(1,1),(2,1),(3,1),(4,1),(5,1)],0⟩),
 (53,⟨1,24,false,[.n],50,[],3⟩),
 (58,⟨4,32,true,[.p (.k (.int .i64 0)),.p (.k (.int .i64 0)),.p (.k (.int .i64 0)),.p (.k (.bool false))],0,[(0,1),(1,1),(2,1),(3,1)],5⟩),
 (68,⟨1,24,false,[.n],217,[],3⟩),
 (69,⟨1,24,false,[.n],219,[],3⟩),
 (71,⟨3,56,true,[.p (.k (.int .i64 0)),.n,.n],0,[(0,1),(1,1),(2,1)],0⟩),
 (72,⟨1,24,false,[.n],214,[],3⟩),
 (74,⟨7,120,true,[.p (.k (.int .i64 0)),.p (.k (.int .i64 0)),.p (.k (.int .i64 0)),.n,.n,.n,.n],0,[(0,1),(1,1),(2,3),(5,1),(6,1)],0⟩),
 (75,⟨1,24,false,[.n],208,[],3⟩),
 (77,⟨8,144,true,[.p (.k (.int .i64 0)),.p (.k (.int .i64 0)),.p (.k (.int .i64 0)),.n,.n,.n,.n,.n],0,[(0,7),(7,1)],0⟩),
 (86,⟨6,80,true,[.p (.k (.int .i64 0)),.p (.k (.int .i64 0)),.p (.k (.int .i64 0)),.p (.k (.int .i64 0)),.n,.n],0,[(0,1),(1,1),(2,1),(3,1),(4,1),(5,1)],0⟩),
 (93,⟨1,24,false,[.n],4,[],3⟩),
 (117,⟨2,16,true,[.p (.k (.int .i64 0)),.p (.k (.int .i64 0))],0,[(0,1),(1,1)],5⟩),
 (122,⟨4,32,true,[.p (.k (.int .i64 0)),.p (.k (.int .i64 0)),.p (.k (.int .i64 0)),.p (.k (.bool false))],0,[(0,1),(1,1),(2,1),(3,1)],5⟩),
 (185,⟨4,32,true,[.p (.k (.int .i64 0)),.p (.k (.int .i64 0)),.p (.k (.int .i64 0)),.p (.k (.int .i64 0))],0,[(0,1),(1,1),(2,1),(3,1)],5⟩),
 (190,⟨1,24,false,[.n],193,[],3⟩),
 (193,⟨3,40,true,[.p (.k (.int .i64 0)),.p (.k (.int .i64 0)),.n],0,[(0,1),(1,1),(2,1)],0⟩),
 (208,⟨4,32,true,[.p (.k (.int .i64 0)),.p (.k (.int .i64 0)),.p (.k (.int .i64 0)),.p (.k (.bool false))],0,[(0,1),(1,1),(2,1),(3,1)],5⟩),
 (212,⟨1,24,false,[.n],242,[],3⟩),
 (214,⟨8,80,true,[.p (.k (.int .i64 0)),.p (.k (.int .i64 0)),.p (.k (.int .i64 0)),.p (.k (.int .i64 0)),.p (.k (.int .i64 0)),.n,.p (.k (.int .i64 0)),.p (.k (.bool false))],0,[(0,1),(1,1),(2,1),(3,1),(4,1),(5,1),(6,1),(7,1)],0⟩),
 (217,⟨4,32,true,[.p (.k (.int .i64 0)),.p (.k (.int .i64 0)),.p (.k (.int .i64 0)),.p (.k (.int .i64 0))],0,[(0,1),(1,1),(2,1),(3,1)],5⟩),
 (219,⟨4,32,true,[.p (.k (.int .i64 0)),.p (.k (.int .i64 0)),.p (.k (.int .i64 0)),.p (.k (.bool false))],0,[(0,1),(1,1),(2,1),(3,1)],5⟩),
 (236,⟨1,24,false,[.n],28,[],3⟩),
 (238,⟨1,24,false,[.n],190,[],3⟩),
 (242,⟨2,16,true,[.p (.k (.int .i64 0)),.p (.k (.int .i64 0))],0,[(0,1),(1,1)],5⟩)]
def alr:List ((Nat×Nat×Nat)×Js):=[
 ((125,0,0),[(1,false,.aI false [.p]),(4,false,.aI false [.p]),(5,false,.aI false [.p])]),
 ((135,0,0),[(4,false,.aI false [.p]),(7,false,.rows [(0,true)])]),
 ((136,0,0),[(4,false,.aI false [.p]),(7,false,.rows [(0,true)])]),
 ((126,0,0),[(4,false,.aI false [.p]),(7,false,.rows [(0,true)])]),
 ((231,0,0),[(4,false,.aI false [.p]),(7,false,.rows [(0,true)])]),
 ((127,0,0),[(4,false,.aI false [.p]),(7,false,.rows [(0,true)])]),
 ((113,0,0),[(4,false,.aI false [.p]),(7,false,.rows [(0,true)])]),
 ((66,0,0),[(3,false,.aI false [.o true]),(4,false,.aI false [.p])]),
 ((132,0,0),[(2,false,.aI false [.p]),(3,false,.aI false [.p])]),
 ((132,0,2),[(2,false,.aI false [.p]),(4,false,.aI false [.p])]),
 ((150,0,0),[(8,false,.aI false [.p]),(9,false,.aI false [.p])]),
 ((164,0,0),[(2,false,.aI false [.p]),(3,false,.aI false [.p])]),
 ((229,0,0),[(2,false,.aI false [.p]),(3,false,.aI false [.p])]),
 ((106,0,0),[(2,false,.aI false [.p]),(3,false,.aI false [.p])]),
 ((101,0,0),[(3,false,.aI false [.o true]),(4,false,.aI false [.p])]),
 ((101,2,16),[(3,false,.aI false [.o true])]),
 ((194,0,0),[(4,false,.aI false [.p]),(5,false,.aI false [.p])]),
 ((99,0,0),[(2,false,.aI false [.p]),(3,false,.aI false [.p]),(5,false,.aI false [.p])]),
 ((99,0,2),[(2,false,.aI false [.p]),(3,false,.aI false [.p]),(6,false,.aI false [.p])]),
 ((78,0,0),[(7,false,.aI false [.o true]),(8,false,.aI false [.p])]),
 ((78,2,19),[(7,false,.aI false [.o true])]),
 ((20,0,0),[(5,false,.aI false [.o true]),(6,false,.aI false [.p])]),
 ((20,2,17),[(5,false,.aI false [.o true])]),
 ((165,0,0),[(6,false,.aI false [.p]),(5,true,.aI true [.k,.k,.k,.k,.k,.o true,.k,.k])]),
 ((165,2,25),[(5,true,.aI true [.k,.k,.k,.k,.k,.o true,.k,.k])]),
 ((62,0,0),[(5,false,.aI false [.o false]),(6,false,.aI false [.p])]),
 ((62,0,2),[(5,false,.aI false [.o false]),(7,false,.aI false [.p])]),
 ((62,2,20),[(5,false,.aI false [.o false])]),
 ((62,2,43),[(5,false,.aI false [.o false])]),
 ((67,0,0),[(5,false,.aI false [.p]),(6,false,.aI false [.p])]),
 ((67,2,21),[(7,true,.aI true [.k,.k,.k,.k,.p,.k,.k,.k])]),
 ((63,0,0),[(4,false,.aI false [.p]),(5,false,.aI false [.p])]),
 ((242,0,0),[(8,false,.aI false [.p]),(11,false,.aI false [.p])]),
 ((234,0,0),[(6,false,.aI false [.p]),(10,false,.rows [(0,true)])]),
 ((234,0,2),[(9,false,.aI false [.p]),(10,false,.rows [(0,true)])]),
 ((234,2,48),[(10,false,.rows [(0,true)])]),
 ((100,0,0),[(4,false,.aI false [.p]),(5,false,.aI false [.p])]),
 ((235,0,0),[(5,false,.aI false [.o true]),(6,false,.aI false [.p])]),
 ((235,2,19),[(5,false,.aI false [.o true])]),
 ((218,0,0),[(14,false,.aI false [.p]),(47,false,.rows [(0,true)])]),
 ((218,0,2),[(15,false,.aI false [.p]),(48,false,.rows [(0,false)]),(49,false,.rows [(0,true)]),(47,false,.rows [(0,true)])]),
 ((218,0,4),[(16,false,.aI false [.p]),(17,false,.aI false [.p])]),
 ((218,0,6),[(18,false,.aI false [.p]),(48,false,.rows [(0,false)]),(47,false,.rows [(0,true)])]),
 ((218,0,8),[(7,false,.aI false [.o true]),(22,false,.aI false [.p])]),
 ((218,2,126),[(20,false,.aI false [.p])]),
 ((218,2,147),[(48,false,.rows [(0,false)]),(47,false,.rows [(0,true)])]),
 ((218,2,163),[(48,false,.rows [(0,false)])]),
 ((218,2,180),[(7,false,.aI false [.o true])]),
 ((218,2,94),[(16,false,.aI false [.p])]),
 ((221,0,0),[(5,false,.aI false [.p]),(6,false,.aI false [.p])]),
 ((219,0,0),[(8,false,.aI false [.o false]),(9,false,.aI false [.p])]),
 ((219,0,2),[(7,false,.aI false [.o false]),(10,false,.aI false [.p])]),
 ((219,0,4),[(12,false,.aI false [.p]),(13,false,.aI false [.p]),(11,true,.aI true [.p,.p,.p])]),
 ((219,2,56),[(14,true,.aI true [.p,.p,.p])]),
 ((219,2,61),[(7,false,.aI false [.o false])]),
 ((237,0,0),[(6,false,.aI false [.p]),(16,false,.aI false [.p]),(12,true,.aI true [.p,.p,.p])]),
 ((237,2,81),[(18,true,.aI true [.p,.p,.p])]),
 ((220,0,0),[(11,false,.aI false [.o false]),(12,false,.aI false [.p])]),
 ((220,0,2),[(9,false,.aI false [.o false]),(13,false,.aI false [.p])]),
 ((220,0,4),[(17,false,.aI false [.p]),(18,false,.aI false [.p]),(16,true,.aI true [.p,.p,.p])]),
 ((220,2,88),[(9,false,.aI false [.o false])]),
 ((167,0,0),[(10,false,.aI false [.o true]),(11,false,.aI false [.p])]),
 ((167,0,2),[(9,false,.aI false [.o true]),(15,false,.aI false [.p])]),
 ((167,2,37),[(10,false,.aI false [.o true])]),
 ((167,2,84),[(18,true,.aI true [.p,.p,.p]),(19,false,.aI false [.p])]),
 ((167,2,91),[(9,false,.aI false [.o true])]),
 ((60,0,0),[(5,false,.aI false [.o false]),(6,false,.aI false [.p])]),
 ((60,0,2),[(7,false,.aI false [.o false]),(9,false,.aI false [.p])]),
 ((60,0,4),[(7,false,.aI false [.o false]),(10,false,.aI false [.p])]),
 ((60,0,6),[(3,false,.aI false [.p]),(12,false,.aI false [.p])]),
 ((60,2,46),[(7,false,.aI false [.o false]),(5,false,.aI false [.p]),(40,false,.aI false [.p]),(41,false,.aI false [.d])]),
 ((60,2,86),[(7,false,.aI false [.o false])]),
 ((19,0,0),[(4,false,.aI false [.p]),(5,false,.aI false [.p])]),
 ((12,0,0),[(5,false,.aI false [.p]),(6,false,.aI false [.p])]),
 ((12,0,2),[(5,false,.aI false [.p]),(10,false,.aI false [.p])]),
 ((12,0,4),[(3,false,.aI false [.o true]),(13,false,.aI false [.p])]),
 ((110,0,0),[(6,false,.aI false [.p]),(5,true,.aI true [.k,.k,.k,.k,.o true,.k])]),
 ((110,2,39),[(5,true,.aI true [.k,.k,.k,.k,.o true,.k])]),
 ((184,0,0),[(5,false,.aI false [.o true]),(6,false,.aI false [.p])]),
 ((184,2,28),[(5,false,.aI false [.o true])]),
 ((107,2,8),[(1,true,.aI true [.k,.k,.k,.k,.k,.k,.p,.k])]),
 ((185,0,0),[(6,false,.aI false [.p]),(9,false,.rows [(0,false)])]),
 ((31,0,0),[(6,false,.aI false [.p]),(9,false,.rows [(7,true)])]),
 ((31,0,2),[(5,false,.aI false [.o false]),(7,false,.aI false [.p]),(4,true,.aI true [.k,.k,.k,.p,.p,.p,.p,.k]),(63,false,.aI true [.k,.k,.k,.p,.p,.p,.p])]),
 ((31,2,29),[(9,false,.rows [(7,true)])]),
 ((31,2,48),[(9,false,.rows [(7,true)])]),
 ((31,2,88),[(5,false,.aI false [.o false]),(82,false,.aI false [.d])]),
 ((56,0,0),[(3,false,.aI false [.o true]),(8,false,.aI false [.p])]),
 ((68,0,0),[(2,false,.aI false [.p]),(26,false,.aI false [.p])]),
 ((68,0,2),[(2,false,.aI false [.p]),(55,false,.aI false [.p])]),
 ((172,0,0),[(8,false,.aI false [.p]),(14,false,.aI false [.p])]),
 ((70,0,0),[(2,false,.aI false [.p]),(3,false,.aI false [.p])]),
 ((222,0,0),[(2,false,.aI false [.p]),(8,false,.aI false [.p])]),
 ((71,0,0),[(2,false,.aI false [.p]),(7,false,.aI false [.p])]),
 ((87,0,0),[(5,false,.aI false [.o true]),(6,false,.aI false [.p])]),
 ((87,0,2),[(5,false,.aI false [.o true]),(7,false,.aI false [.p])]),
 ((87,2,23),[(5,false,.aI false [.o true])]),
 ((82,0,0),[(3,false,.aI false [.o true]),(8,false,.aI false [.p])]),
 ((82,2,13),[(3,false,.aI false [.o true])]),
 ((88,0,0),[(4,false,.aI false [.p]),(13,false,.aI false [.p])]),
 ((23,0,0),[(2,false,.aI false [.p]),(26,false,.aI false [.p])]),
 ((84,0,0),[(5,false,.aI false [.p])]),
 ((84,4,6),[(0,false,.rows [(0,true)])]),
 ((74,0,0),[(5,false,.aI false [.o true]),(11,false,.aI false [.p])]),
 ((74,2,24),[(5,false,.aI false [.o true])]),
 ((73,0,0),[(3,false,.aI false [.o true]),(14,false,.aI false [.p])]),
 ((73,0,2),[(7,false,.aI false [.p]),(6,true,.aI true [.k,.k,.k,.k,.k,.o true,.k,.k])]),
 ((73,2,36),[(6,true,.aI true [.k,.k,.k,.k,.k,.o true,.k,.k])]),
 ((57,0,0),[(5,false,.aI false [.p])]),
 ((57,2,40),[(5,false,.aI false [.p])]),
 ((175,0,0),[(4,false,.aI false [.p]),(9,false,.aI false [.p])]),
 ((76,0,0),[(7,false,.aI false [.o false]),(14,false,.aI false [.p])]),
 ((76,0,2),[(7,false,.aI false [.o false]),(34,false,.aI false [.p])]),
 ((76,2,26),[(7,false,.aI false [.o false])]),
 ((157,0,0),[(4,false,.aI false [.p]),(9,false,.aI false [.p])]),
 ((244,0,0),[(8,false,.aI false [.p]),(25,false,.aI false [.p])]),
 ((227,0,1),[(34,false,.aI false [.p]),(5,true,.aI true [.k,.k,.o true])]),
 ((227,0,3),[(47,false,.aI false [.p]),(5,true,.aI true [.k,.k,.o true])]),
 ((223,0,0),[(10,false,.aI false [.p]),(3,false,.rows [(0,true)])]),
 ((223,2,47),[(12,true,.aI true [.k,.k,.o true])]),
 ((223,2,55),[(3,false,.rows [(0,true)]),(12,true,.aI true [.k,.k,.d])]),
 ((223,2,70),[(3,false,.rows [(0,true)])]),
 ((176,0,0),[(8,false,.aI false [.o true]),(30,false,.rows [(0,true)])]),
 ((176,0,2),[(9,false,.aI false [.p]),(10,false,.aI false [.p])]),
 ((176,0,4),[(11,false,.aI false [.o true]),(84,false,.aI false [.p]),(30,false,.rows [(0,true)])]),
 ((176,2,68),[(9,false,.aI false [.p])]),
 ((176,2,90),[(11,false,.aI false [.o true]),(87,false,.aI true [.k,.k,.d]),(13,true,.aI true [.k,.k,.d])]),
 ((176,5,16),[(7,false,.rows [(0,true)])]),
 ((178,0,0),[(5,false,.aI false [.p]),(10,false,.aI false [.p])]),
 ((177,2,36),[(4,true,.aI false [.o true])]),
 ((225,0,0),[(5,false,.aI false [.p])]),
 ((225,5,7),[(0,false,.rows [(0,true)])]),
 ((179,0,0),[(7,false,.aI false [.o true]),(14,false,.aI false [.p])]),
 ((179,0,2),[(7,false,.aI false [.o true]),(23,false,.aI false [.p]),(21,false,.rows [(0,false)])]),
 ((180,0,0),[(10,false,.aI false [.o true]),(23,false,.aI false [.p])]),
 ((77,0,0),[(9,false,.aI false [.o true]),(21,false,.aI false [.p])]),
 ((77,0,2),[(43,false,.aI false [.p]),(13,true,.aI false [.o true]),(41,false,.rows [(0,false)])]),
 ((77,0,4),[(58,false,.aI false [.p]),(13,true,.aI false [.o true]),(56,false,.rows [(0,false)])]),
 ((77,2,27),[(9,false,.aI false [.o true])]),
 ((77,2,52),[(13,true,.aI false [.o true])]),
 ((18,0,0),[(3,false,.aI false [.o true]),(22,false,.aI false [.p]),(19,false,.rows [(0,false)])]),
 ((18,0,2),[(3,false,.aI false [.o true]),(48,false,.aI false [.p])]),
 ((18,0,4),[(3,false,.aI false [.o true]),(59,false,.aI false [.p]),(57,false,.rows [(0,false)])]),
 ((18,0,6),[(3,false,.aI false [.o true]),(72,false,.aI false [.p])]),
 ((18,2,39),[(3,false,.aI false [.o true]),(19,false,.aI false [.p]),(4,false,.aI false [.p]),(20,false,.aI false [.p])]),
 ((18,2,80),[(3,false,.aI false [.o true])]),
 ((158,0,0),[(4,false,.aI false [.p]),(36,false,.aI false [.p])]),
 ((159,2,12),[(5,false,.aI false [.p])]),
 ((160,2,8),[(3,true,.aI true [.k,.k,.k,.k,.k,.k,.p,.k])]),
 ((55,0,0),[(3,false,.aI false [.o true]),(15,false,.aI false [.p]),(12,false,.rows [(0,false)])]),
 ((55,0,2),[(3,false,.aI false [.o true]),(46,false,.aI false [.p])]),
 ((55,2,34),[(3,false,.aI false [.o true]),(6,true,.aI true [.k,.k,.k,.k,.p,.k,.k,.k])]),
 ((55,2,66),[(3,false,.aI false [.o true]),(10,true,.aI true [.k,.k,.k,.k,.p,.k,.k,.k])]),
 ((11,0,0),[(3,false,.aI false [.o true]),(6,false,.aI false [.o true]),(22,false,.aI false [.p])]),
 ((186,0,0),[(5,false,.aI false [.o true]),(10,false,.aI false [.p])]),
 ((186,2,22),[(5,false,.aI false [.o true])]),
 ((187,2,17),[(3,true,.aI true [.k,.k,.k,.k,.k,.k,.p,.k])]),
 ((86,0,0),[(5,false,.aI false [.o true]),(12,false,.aI false [.p]),(10,false,.rows [(0,false)])]),
 ((22,0,0),[(22,false,.aI false [.p]),(14,false,.rows [(7,true)])]),
 ((22,0,2),[(7,false,.aI false [.o true]),(62,false,.aI false [.p])]),
 ((22,0,4),[(10,false,.aI false [.o true]),(69,false,.aI false [.p])]),
 ((22,2,82),[(10,false,.aI false [.o true])]),
 ((22,2,95),[(7,false,.aI false [.o true]),(93,false,.aI false [.d])]),
 ((22,6,26),[(8,true,.aI false [.p])]),
 ((139,0,0),[(4,false,.aI false [.p]),(5,false,.aI false [.p])]),
 ((140,0,0),[(4,false,.aI false [.p]),(5,false,.aI false [.p])]),
 ((128,0,0),[(4,false,.aI false [.p]),(5,false,.aI false [.p])]),
 ((232,0,0),[(4,false,.aI false [.p]),(5,false,.aI false [.p])]),
 ((129,0,0),[(4,false,.aI false [.p]),(5,false,.aI false [.p])]),
 ((115,0,0),[(4,false,.aI false [.p]),(5,false,.aI false [.p])]),
 ((34,0,0),[(4,false,.aI false [.p]),(5,false,.aI false [.p])]),
 ((141,0,0),[(1,false,.aI false [.p]),(5,false,.aI false [.p]),(0,false,.rows [(0,true)])]),
 ((142,0,0),[(1,false,.aI false [.p]),(5,false,.aI false [.p]),(0,false,.rows [(0,true)])]),
 ((118,0,0),[(1,false,.aI false [.p]),(5,false,.aI false [.p]),(0,false,.rows [(0,true)])]),
 ((198,0,0),[(1,false,.aI false [.p]),(5,false,.aI false [.p]),(0,false,.rows [(0,true)])]),
 ((119,0,0),[(1,false,.aI false [.p]),(5,false,.aI false [.p]),(0,false,.rows [(0,true)])]),
 ((117,0,0),[(1,false,.aI false [.p]),(5,false,.aI false [.p]),(0,false,.rows [(0,true)])]),
 ((36,0,0),[(1,false,.aI false [.p]),(5,false,.aI false [.p]),(0,false,.rows [(0,true)])]),
 ((210,0,0),[(1,false,.aI false [.p]),(4,false,.aI false [.p]),(5,false,.aI false [.p])]),
 ((211,0,0),[(1,false,.aI false [.p]),(4,false,.aI false [.p]),(5,false,.aI false [.p])]),
 ((122,0,0),[(1,false,.aI false [.p]),(4,false,.aI false [.p]),(5,false,.aI false [.p])]),
 ((199,0,0),[(1,false,.aI false [.p]),(4,false,.aI false [.p]),(5,false,.aI false [.p])]),
 ((123,0,0),[(1,false,.aI false [.p]),(4,false,.aI false [.p]),(5,false,.aI false [.p])]),
 ((121,0,0),[(1,false,.aI false [.p]),(4,false,.aI false [.p]),(5,false,.aI false [.p])]),
 ((38,0,0),[(1,false,.aI false [.p]),(4,false,.aI false [.p]),(5,false,.aI false [.p])]),
 ((6,1,12),[(9,false,.aI false [.p]),(0,false,.drop),(3,false,.drop),(14,false,.drop),(15,false,.drop),(16,false,.drop),(17,false,.drop),(18,false,.drop),(19,false,.drop),(20,false,.drop),(21,false,.drop),(22,false,.drop),(23,false,.drop),(24,false,.drop),(25,false,.drop),(26,false,.drop),(27,false,.drop),(28,false,.drop),(29,false,.drop),(30,false,.drop),(31,false,.drop),(32,false,.drop),(33,false,.drop),(34,false,.drop),(35,false,.drop),(36,false,.drop),(37,false,.drop),(38,false,.drop),(39,false,.drop),(40,false,.drop),(41,false,.drop),(42,false,.drop),(43,false,.drop),(44,false,.drop),(45,false,.drop),(46,false,.drop)]),
 ((6,1,16),[(10,false,.aI false [.p]),(6,false,.drop),(9,false,.drop),(47,false,.drop),(48,false,.drop),(49,false,.drop),(50,false,.drop),(51,false,.drop),(52,false,.drop),(53,false,.drop),(54,false,.drop),(55,false,.drop),(56,false,.drop),(57,false,.drop),(58,false,.drop),(59,false,.drop),(60,false,.drop),(61,false,.drop),(62,false,.drop),(63,false,.drop),(6,true,.aI true [.d,.d,.d,.d,.d,.d,.d,.d])]),
 ((6,1,19),[(11,false,.aI false [.p]),(64,false,.drop),(65,false,.drop),(66,false,.drop),(67,false,.drop),(68,false,.drop),(69,false,.drop)]),
 ((6,1,31),[(11,false,.aI false [.p]),(1,false,.drop),(4,false,.drop),(5,false,.drop),(12,false,.drop),(13,false,.drop),(70,false,.drop),(71,false,.drop),(72,false,.drop),(73,false,.drop),(74,false,.drop),(75,false,.drop),(76,false,.drop),(77,false,.drop),(78,false,.drop),(79,false,.drop),(80,false,.drop),(81,false,.drop),(82,false,.drop),(83,false,.drop),(84,false,.drop),(85,false,.drop),(86,false,.drop),(87,false,.drop),(88,false,.drop),(89,false,.drop),(90,false,.drop),(91,false,.drop),(92,false,.drop),(93,false,.drop),(94,false,.drop),(95,false,.drop),(96,false,.drop),(97,false,.drop),(98,false,.drop),(1,true,.aI true [.d,.d,.d,.d,.d,.d,.d,.d]),(4,true,.aI true [.d,.d,.d,.d,.d,.d,.d,.d]),(12,true,.aI true [.d,.d,.d,.d,.d,.d,.d,.d])]),
 ((96,0,0),[(9,false,.aI false [.o true]),(25,false,.aI false [.p])]),
 ((96,2,36),[(14,false,.aI false [.o true])]),
 ((96,2,47),[(9,false,.aI false [.o true]),(14,false,.aI false [.d]),(44,false,.drop)]),
 ((94,2,32),[(9,false,.aI false [.o true]),(29,false,.aI false [.d]),(10,false,.aI false [.d]),(30,false,.aI false [.d])]),
 ((94,2,45),[(9,false,.aI false [.o true])]),
 ((94,6,8),[(11,true,.aI false [.p])])]
def lfz:List (Nat×Nat×Nat):=[(176,18,1)]
def als:List Nat:=[11,141,142,49,118,198,119,116,117,35,36,6,42,7]
def lfn:List (Nat×Func):=[(84,Tryz.f84),(223,Tryz.f223),(177,Tryz.f177),(225,Tryz.f225),(83,Tryz.f83),(85,Tryz.f85),(141,Tryz.f141),(142,Tryz.f142),(49,Tryz.f49),(118,Tryz.f118),(198,Tryz.f198),(119,Tryz.f119),(116,Tryz.f116),(117,Tryz.f117),(35,Tryz.f35),(36,Tryz.f36),(96,Tryz.f96),(93,Tryz.f93),(94,Tryz.f94),(42,Tryz.f42)]
def cx:Cx:={ty:=Bi lty,sg:=λ_=>none,fn:=E0 lfn,qB:=TD alr,fz:=TE lfz,nest:=TF als}
theorem alt:fF Tryz.prog 84:=.mk Tryz.func84 (by kernel_rfl) (by kernel_rfl)
theorem alu:fF Tryz.prog 223:=.mk Tryz.func223 (by kernel_rfl) (by kernel_rfl)
theorem alv:fF Tryz.prog 177:=.mk Tryz.func177 (by kernel_rfl) (by kernel_rfl)
theorem alw:fF Tryz.prog 225:=.mk Tryz.func225 (by kernel_rfl) (by kernel_rfl)
theorem alx:fF Tryz.prog 83:=.mk Tryz.func83 (by kernel_rfl) (by kernel_rfl)
theorem aly:fF Tryz.prog 85:=.mk Tryz.func85 (by kernel_rfl) (by kernel_rfl)
theorem alz:fF Tryz.prog 141:=.mk Tryz.func141 (by kernel_rfl) (by kernel_rfl)
theorem alA:fF Tryz.prog 142:=.mk Tryz.func142 (by kernel_rfl) (by kernel_rfl)
theorem alB:fF Tryz.prog 49:=.mk Tryz.func49 (by kernel_rfl) (by kernel_rfl)
theorem alC:fF Tryz.prog 118:=.mk Tryz.func118 (by kernel_rfl) (by kernel_rfl)
theorem alD:fF Tryz.prog 198:=.mk Tryz.func198 (by kernel_rfl) (by kernel_rfl)
theorem alE:fF Tryz.prog 119:=.mk Tryz.func119 (by kernel_rfl) (by kernel_rfl)
theorem alF:fF Tryz.prog 116:=.mk Tryz.func116 (by kernel_rfl) (by kernel_rfl)
theorem alG:fF Tryz.prog 117:=.mk Tryz.func117 (by kernel_rfl) (by kernel_rfl)
theorem alH:fF Tryz.prog 35:=.mk Tryz.func35 (by kernel_rfl) (by kernel_rfl)
theorem alI:fF Tryz.prog 36:=.mk Tryz.func36 (by kernel_rfl) (by kernel_rfl)
theorem alJ:fF Tryz.prog 96:=.mk Tryz.func96 (by kernel_rfl) (by kernel_rfl)
theorem alK:fF Tryz.prog 93:=.mk Tryz.func93 (by kernel_rfl) (by kernel_rfl)
theorem alL:fF Tryz.prog 94:=.mk Tryz.func94 (by kernel_rfl) (by kernel_rfl)
theorem alM:fF Tryz.prog 42:=.mk Tryz.func42 (by kernel_rfl) (by kernel_rfl)
theorem dj:Kz Tryz.prog cx:=⟨ahi (l:=lty) (by kernel_rfl) rfl,ahj (l:=lfn) (fc ⟨⟨Tryz.func84,alt⟩,fc ⟨⟨Tryz.func223,alu⟩,fc ⟨⟨Tryz.func177,alv⟩,fc ⟨⟨Tryz.func225,alw⟩,fc ⟨⟨Tryz.func83,alx⟩,fc ⟨⟨Tryz.func85,aly⟩,fc ⟨⟨Tryz.func141,alz⟩,fc ⟨⟨Tryz.func142,alA⟩,fc ⟨⟨Tryz.func49,alB⟩,fc ⟨⟨Tryz.func118,alC⟩,fc ⟨⟨Tryz.func198,alD⟩,fc ⟨⟨Tryz.func119,alE⟩,fc ⟨⟨Tryz.func116,alF⟩,fc ⟨⟨Tryz.func117,alG⟩,fc ⟨⟨Tryz.func35,alH⟩,fc ⟨⟨Tryz.func36,alI⟩,fc ⟨⟨Tryz.func96,alJ⟩,fc ⟨⟨Tryz.func93,alK⟩,fc ⟨⟨Tryz.func94,alL⟩,fc ⟨⟨Tryz.func42,alM⟩,f0⟩⟩⟩⟩⟩⟩⟩⟩⟩⟩⟩⟩⟩⟩⟩⟩⟩⟩⟩⟩) rfl,by kernel_rfl⟩
structure J where
 g:Nat
 sg:nw
 ks:List (gh Tryz.prog)
 fn:Func
def jo(j:J):Option PL:=z_ (cx.on (TG j.ks)) 8 j.g j.fn j.sg
def jp(j:J):PL:=(jo j).getD (.ret [])
theorem gs{o:Option PL}{d:PL}(h:o.isSome=true):o=some (o.getD d):=by cases o with|none=>cases h|some x=>rfl
def dr(j:J)(F:af)(hf:Tryz.prog.funcs[j.g]?=some j.fn)(h:(jo j).isSome=true)(h1:((j.fn.name== "runtime.NumGoroutine")||j.fn.body.isNone)=false)(hF:F=Fs (jp j) (kS j.ks)):gh Tryz.prog:=gh.dB dj j.g j.sg (jp j) F j.ks hf (gs h) h1 hF
def q0:PL:=
 .ins (.pr (.len) [.a 0])<|
 .ins (.pr (.bin .sub) [.a 1,.a 2])<|
 .ins (.pr (.bin .lss) [.a 3,.k (.int .i64 0)])<|
 .ite 4 (
 .ins (.pr (.bz) [.k (.int .i64 (-1))])<|
 .ret [.a 5]) (
 .ins (.pr (.bz) [.a 3])<|
 .ret [.a 5])
def UD:Nat->af:=pick []
def Fe:af:=λts=>q0.den UD rounds [] ts
def alN:=gh.dB dj 130 ⟨[.v false 1,.v false 1],[(false,[.s])]⟩ q0 Fe [] Tryz.func130 (by kernel_rfl) (by kernel_rfl) (by kernel_rfl)
def pW:PL:=
 .ins (.pr (.len) [.a 0])<|
 .ins (.pr (.bin .sub) [.a 1,.a 2])<|
 .ins (.pr (.bin .lss) [.a 3,.k (.int .i64 0)])<|
 .ite 4 (
 .ins (.pr (.bz) [.k (.int .i64 (-1))])<|
 .ret [.a 5]) (
 .ins (.pr (.bz) [.a 3])<|
 .ret [.a 5])
def UE:Nat->af:=pick []
def Ff:af:=λts=>pW.den UE rounds [] ts
def alO:=gh.dB dj 131 ⟨[.v false 1,.v false 1],[(false,[.s])]⟩ pW Ff [] Tryz.func131 (by kernel_rfl) (by kernel_rfl) (by kernel_rfl)
def nh:PL:=
 .ins (.cl 130 [.a 1,.a 3] 1)<|
 .ins (.pr (.bin .lss) [.a 4,.k (.int .i64 0)])<|
 .ite 5 (
 .ins (.pr (.bz) [.k (.int .i64 (-1))])<|
 .ret [.a 6]) (
 .ins (.cl 131 [.a 2,.a 4] 1)<|
 .ins (.pr (.bin .lss) [.a 6,.k (.int .i64 0)])<|
 .ite 7 (
 .ins (.pr (.bz) [.k (.int .i64 (-1))])<|
 .ret [.a 8]) (
 .ins (.pr (.bz) [.a 6])<|
 .ret [.a 8]))
def KZ:Nat->af:=pick [(130,Fe),(131,Ff)]
def vV:af:=λts=>nh.den KZ rounds [] ts
def alP:=gh.dB dj 43 ⟨[.v true 3,.v false 1],[(false,[.s])]⟩ nh vV [alN,alO] Tryz.func43 (by kernel_rfl) (by kernel_rfl) (by kernel_rfl)
def ue:PL:=
 .ins (.pr (.len) [.a 0])<|
 .ins (.pr (.bin .sub) [.a 1,.a 2])<|
 .ins (.pr (.bin .lss) [.a 3,.k (.int .i64 0)])<|
 .ite 4 (
 .ins (.pr (.bz) [.k (.int .i64 (-1))])<|
 .ret [.a 5]) (
 .ins (.pr (.bz) [.a 3])<|
 .ret [.a 5])
def UF:Nat->af:=pick []
def Fg:af:=λts=>ue.den UF rounds [] ts
def alQ:=gh.dB dj 124 ⟨[.v false 1,.v false 1],[(false,[.s])]⟩ ue Fg [] Tryz.func124 (by kernel_rfl) (by kernel_rfl) (by kernel_rfl)
def q8:PL:=
 .ins (.pr (.len) [.a 0])<|
 .ins (.pr (.bin .sub) [.a 1,.a 2])<|
 .ins (.pr (.bin .lss) [.a 3,.k (.int .i64 0)])<|
 .ite 4 (
 .ins (.pr (.bz) [.k (.int .i64 (-1))])<|
 .ret [.a 5]) (
 .ins (.pr (.bz) [.a 3])<|
 .ret [.a 5])
def UG:Nat->af:=pick []
def Fh:af:=λts=>q8.den UG rounds [] ts
def alR:=gh.dB dj 230 ⟨[.v false 1,.v false 1],[(false,[.s])]⟩ q8 Fh [] Tryz.func230 (by kernel_rfl) (by kernel_rfl) (by kernel_rfl)
def jQ:PL:=
 .ins (.cl 230 [.a 5,.a 8] 1)<|
 .ins (.pr (.bin .lss) [.a 9,.k (.int .i64 0)])<|
 .ite 10 (
 .ins (.pr (.bz) [.k (.int .i64 (-1))])<|
 .ret [.a 11]) (
 .ins (.pr (.bz) [.a 9])<|
 .ret [.a 11])
def UH:Nat->af:=pick [(230,Fh)]
def UI:af:=λts=>jQ.den UH rounds [] ts
def alS:=gh.dB dj 200 ⟨[.v true 8,.v false 1],[(false,[.s])]⟩ jQ UI [alR] Tryz.func200 (by kernel_rfl) (by kernel_rfl) (by kernel_rfl)
def oO:PL:=
 .ins (.pr (.len) [.a 0])<|
 .ins (.pr (.bin .sub) [.a 1,.a 2])<|
 .ins (.pr (.bin .lss) [.a 3,.k (.int .i64 0)])<|
 .ite 4 (
 .ins (.pr (.bz) [.k (.int .i64 (-1))])<|
 .ret [.a 5]) (
 .loop [.a 3,.k (.int .i64 0),.k (.int .i64 0)] (
 .ins (.pr (.len) [.a 0])<|
 .ins (.pr (.bin .lss) [.a 7,.a 8])<|
 .ite 9 (
 .ins (.pr (.bW) [.a 0,.a 7])<|
 .ins (.pr (.cell 8 0) [.a 0,.a 7])<|
 .ins (.pr (.cell 8 1) [.a 0,.a 7])<|
 .ins (.pr (.cell 8 2) [.a 0,.a 7])<|
 .ins (.pr (.cell 8 3) [.a 0,.a 7])<|
 .ins (.pr (.cell 8 4) [.a 0,.a 7])<|
 .ins (.pr (.cell 8 5) [.a 0,.a 7])<|
 .ins (.pr (.cell 8 6) [.a 0,.a 7])<|
 .ins (.pr (.cell 8 7) [.a 0,.a 7])<|
 .ins (.cl 200 [.a 11,.a 12,.a 13,.a 14,.a 15,.a 16,.a 17,.a 18,.a 5] 1)<|
 .ins (.pr (.bin .lss) [.a 19,.k (.int .i64 0)])<|
 .ite 20 (
 .ins (.pr (.bz) [.k (.int .i64 (-1))])<|
 .ret [.a 21]) (
 .ins (.pr (.bin .add) [.a 7,.k (.int .i64 1)])<|
 .go 0 [.a 19,.a 6,.a 21])) (
 .ins (.pr (.bz) [.a 5])<|
 .ret [.a 10])))
def UJ:Nat->af:=pick [(200,UI)]
def Fi:af:=λts=>oO.den UJ rounds [] ts
def alT:=gh.dB dj 125 ⟨[.v false 1,.v false 1],[(false,[.s])]⟩ oO Fi [alS] Tryz.func125 (by kernel_rfl) (by kernel_rfl) (by kernel_rfl)
def jK:PL:=
 .ins (.cl 43 [.a 2,.a 3,.a 4,.a 7] 1)<|
 .ins (.pr (.bin .lss) [.a 8,.k (.int .i64 0)])<|
 .ite 9 (
 .ins (.pr (.bz) [.k (.int .i64 (-1))])<|
 .ret [.a 10]) (
 .ins (.cl 124 [.a 5,.a 8] 1)<|
 .ins (.pr (.bin .lss) [.a 10,.k (.int .i64 0)])<|
 .ite 11 (
 .ins (.pr (.bz) [.k (.int .i64 (-1))])<|
 .ret [.a 12]) (
 .ins (.cl 125 [.a 6,.a 10] 1)<|
 .ins (.pr (.bin .lss) [.a 12,.k (.int .i64 0)])<|
 .ite 13 (
 .ins (.pr (.bz) [.k (.int .i64 (-1))])<|
 .ret [.a 14]) (
 .ins (.pr (.bz) [.a 12])<|
 .ret [.a 14])))
def Fj:Nat->af:=pick [(43,vV),(124,Fg),(125,Fi)]
def H2:af:=λts=>jK.den Fj rounds [] ts
def alU:=gh.dB dj 108 ⟨[.v true 7,.v false 1],[(false,[.s])]⟩ jK H2 [alP,alQ,alT] Tryz.func108 (by kernel_rfl) (by kernel_rfl) (by kernel_rfl)
def uf:PL:=
 .ins (.pr (.len) [.a 0])<|
 .ins (.pr (.bin .sub) [.a 1,.a 2])<|
 .ins (.pr (.bin .lss) [.a 3,.k (.int .i64 0)])<|
 .ite 4 (
 .ins (.pr (.bz) [.k (.int .i64 (-1))])<|
 .ret [.a 5]) (
 .ins (.pr (.bz) [.a 3])<|
 .ret [.a 5])
def UK:Nat->af:=pick []
def Fk:af:=λts=>uf.den UK rounds [] ts
def alV:=gh.dB dj 109 ⟨[.v false 1,.v false 1],[(false,[.s])]⟩ uf Fk [] Tryz.func109 (by kernel_rfl) (by kernel_rfl) (by kernel_rfl)
def lq:PL:=
 .ins (.cl 108 [.a 0,.a 1,.a 2,.a 3,.a 4,.a 5,.a 6,.a 8] 1)<|
 .ins (.pr (.bin .lss) [.a 9,.k (.int .i64 0)])<|
 .ite 10 (
 .ins (.pr (.bz) [.k (.int .i64 (-1))])<|
 .ret [.a 11]) (
 .ins (.cl 109 [.a 7,.a 9] 1)<|
 .ins (.pr (.bin .lss) [.a 11,.k (.int .i64 0)])<|
 .ite 12 (
 .ins (.pr (.bz) [.k (.int .i64 (-1))])<|
 .ret [.a 13]) (
 .ins (.pr (.bz) [.a 11])<|
 .ret [.a 13]))
def K1:Nat->af:=pick [(108,H2),(109,Fk)]
def K3:af:=λts=>lq.den K1 rounds [] ts
def alW:=gh.dB dj 30 ⟨[.v true 8,.v false 1],[(false,[.s])]⟩ lq K3 [alU,alV] Tryz.func30 (by kernel_rfl) (by kernel_rfl) (by kernel_rfl)
def pX:PL:=
 .ins (.pr (.bz) [.a 3])<|
 .ins (.pr (.bz) [.a 2])<|
 .ins (.pr (.bz) [.a 1])<|
 .ins (.pr (.bz) [.a 0])<|
 .ret [.a 7,.a 6,.a 5,.a 4]
def alX:Nat->af:=pick []
def Fl:af:=λts=>pX.den alX rounds [] ts
def alY:=gh.dB dj 206 ⟨[.v true 4],[(true,[.s,.s,.s,.s])]⟩ pX Fl [] Tryz.func206 (by kernel_rfl) (by kernel_rfl) (by kernel_rfl)
def q9:PL:=
 .ins (.pr (.len) [.a 0])<|
 .ins (.pr (.mk) [.a 1,.a 1,.k (.int .i64 0),.k (.int .i64 0),.k (.int .i64 0),.k (.int .i64 0)])<|
 .loop [.k (.int .i64 0),.a 2] (
 .ins (.pr (.len) [.a 0])<|
 .ins (.pr (.bin .lss) [.a 3,.a 5])<|
 .ite 6 (
 .ins (.pr (.bW) [.a 0,.a 3])<|
 .ins (.pr (.cell 4 0) [.a 0,.a 3])<|
 .ins (.pr (.cell 4 1) [.a 0,.a 3])<|
 .ins (.pr (.cell 4 2) [.a 0,.a 3])<|
 .ins (.pr (.cell 4 3) [.a 0,.a 3])<|
 .ins (.cl 206 [.a 8,.a 9,.a 10,.a 11] 4)<|
 .ins (.pr (.bW) [.a 4,.a 3])<|
 .ins (.pr (.put true 4 0 4) [.a 4,.a 3,.a 12,.a 13,.a 14,.a 15])<|
 .ins (.pr (.bin .add) [.a 3,.k (.int .i64 1)])<|
 .go 0 [.a 18,.a 17]) (
 .ret [.a 4]))
def UL:Nat->af:=pick [(206,Fl)]
def Fm:af:=λts=>q9.den UL rounds [] ts
def alZ:=gh.dB dj 135 ⟨[.v false 1],[(false,[.o true])]⟩ q9 Fm [alY] Tryz.func135 (by kernel_rfl) (by kernel_rfl) (by kernel_rfl)
def nV:PL:=
 .ins (.pr (.bz) [.a 3])<|
 .ins (.pr (.bz) [.a 2])<|
 .ins (.pr (.bz) [.a 1])<|
 .ins (.pr (.bz) [.a 0])<|
 .ret [.a 7,.a 6,.a 5,.a 4]
def al0:Nat->af:=pick []
def Fo:af:=λts=>nV.den al0 rounds [] ts
def al1:=gh.dB dj 207 ⟨[.v true 4],[(true,[.s,.s,.s,.s])]⟩ nV Fo [] Tryz.func207 (by kernel_rfl) (by kernel_rfl) (by kernel_rfl)
def pY:PL:=
 .ins (.pr (.len) [.a 0])<|
 .ins (.pr (.mk) [.a 1,.a 1,.k (.int .i64 0),.k (.int .i64 0),.k (.int .i64 0),.k (.bool false)])<|
 .loop [.k (.int .i64 0),.a 2] (
 .ins (.pr (.len) [.a 0])<|
 .ins (.pr (.bin .lss) [.a 3,.a 5])<|
 .ite 6 (
 .ins (.pr (.bW) [.a 0,.a 3])<|
 .ins (.pr (.cell 4 0) [.a 0,.a 3])<|
 .ins (.pr (.cell 4 1) [.a 0,.a 3])<|
 .ins (.pr (.cell 4 2) [.a 0,.a 3])<|
 .ins (.pr (.cell 4 3) [.a 0,.a 3])<|
 .ins (.cl 207 [.a 8,.a 9,.a 10,.a 11] 4)<|
 .ins (.pr (.bW) [.a 4,.a 3])<|
 .ins (.pr (.put true 4 0 4) [.a 4,.a 3,.a 12,.a 13,.a 14,.a 15])<|
 .ins (.pr (.bin .add) [.a 3,.k (.int .i64 1)])<|
 .go 0 [.a 18,.a 17]) (
 .ret [.a 4]))
def UM:Nat->af:=pick [(207,Fo)]
def Fp:af:=λts=>pY.den UM rounds [] ts
def al2:=gh.dB dj 136 ⟨[.v false 1],[(false,[.o true])]⟩ pY Fp [al1] Tryz.func136 (by kernel_rfl) (by kernel_rfl) (by kernel_rfl)
def r7:PL:=
 .ins (.cl 135 [.a 1] 1)<|
 .ins (.cl 136 [.a 2] 1)<|
 .ins (.pr (.bz) [.a 0])<|
 .ret [.a 5,.a 3,.a 4]
def K4:Nat->af:=pick [(135,Fm),(136,Fp)]
def Bs:af:=λts=>r7.den K4 rounds [] ts
def al3:=gh.dB dj 45 ⟨[.v true 3],[(true,[.s,.o true,.o true])]⟩ r7 Bs [alZ,al2] Tryz.func45 (by kernel_rfl) (by kernel_rfl) (by kernel_rfl)
def ug:PL:=
 .ins (.pr (.len) [.a 0])<|
 .ins (.pr (.mk) [.a 1,.a 1,.k (.int .i64 0)])<|
 .loop [.k (.int .i64 0),.a 2] (
 .ins (.pr (.len) [.a 0])<|
 .ins (.pr (.bin .lss) [.a 3,.a 5])<|
 .ite 6 (
 .ins (.pr (.bW) [.a 0,.a 3])<|
 .ins (.pr (.cell 1 0) [.a 0,.a 3])<|
 .ins (.pr (.bW) [.a 4,.a 3])<|
 .ins (.pr (.put true 1 0 1) [.a 4,.a 3,.a 8])<|
 .ins (.pr (.bin .add) [.a 3,.k (.int .i64 1)])<|
 .go 0 [.a 11,.a 10]) (
 .ret [.a 4]))
def UN:Nat->af:=pick []
def Fq:af:=λts=>ug.den UN rounds [] ts
def al4:=gh.dB dj 126 ⟨[.v false 1],[(false,[.o true])]⟩ ug Fq [] Tryz.func126 (by kernel_rfl) (by kernel_rfl) (by kernel_rfl)
def pZ:PL:=
 .ins (.pr (.bz) [.a 1])<|
 .ins (.pr (.bz) [.a 0])<|
 .ret [.a 3,.a 2]
def al5:Nat->af:=pick []
def Ft:af:=λts=>pZ.den al5 rounds [] ts
def al6:=gh.dB dj 240 ⟨[.v true 2],[(true,[.s,.s])]⟩ pZ Ft [] Tryz.func240 (by kernel_rfl) (by kernel_rfl) (by kernel_rfl)
def q_:PL:=
 .ins (.pr (.len) [.a 0])<|
 .ins (.pr (.mk) [.a 1,.a 1,.k (.int .i64 0),.k (.int .i64 0)])<|
 .loop [.k (.int .i64 0),.a 2] (
 .ins (.pr (.len) [.a 0])<|
 .ins (.pr (.bin .lss) [.a 3,.a 5])<|
 .ite 6 (
 .ins (.pr (.bW) [.a 0,.a 3])<|
 .ins (.pr (.cell 2 0) [.a 0,.a 3])<|
 .ins (.pr (.cell 2 1) [.a 0,.a 3])<|
 .ins (.cl 240 [.a 8,.a 9] 2)<|
 .ins (.pr (.bW) [.a 4,.a 3])<|
 .ins (.pr (.put true 2 0 2) [.a 4,.a 3,.a 10,.a 11])<|
 .ins (.pr (.bin .add) [.a 3,.k (.int .i64 1)])<|
 .go 0 [.a 14,.a 13]) (
 .ret [.a 4]))
def UO:Nat->af:=pick [(240,Ft)]
def Fu:af:=λts=>q_.den UO rounds [] ts
def al7:=gh.dB dj 231 ⟨[.v false 1],[(false,[.o true])]⟩ q_ Fu [al6] Tryz.func231 (by kernel_rfl) (by kernel_rfl) (by kernel_rfl)
def mq:PL:=
 .ins (.cl 231 [.a 5] 1)<|
 .ins (.pr (.bz) [.a 7])<|
 .ins (.pr (.bz) [.a 6])<|
 .ins (.pr (.bz) [.a 4])<|
 .ins (.pr (.bz) [.a 3])<|
 .ins (.pr (.bz) [.a 2])<|
 .ins (.pr (.bz) [.a 1])<|
 .ins (.pr (.bz) [.a 0])<|
 .ret [.a 15,.a 14,.a 13,.a 12,.a 11,.a 8,.a 10,.a 9]
def UP:Nat->af:=pick [(231,Fu)]
def Fv:af:=λts=>mq.den UP rounds [] ts
def al8:=gh.dB dj 201 ⟨[.v true 8],[(true,[.s,.s,.s,.s,.s,.o true,.s,.s])]⟩ mq Fv [al7] Tryz.func201 (by kernel_rfl) (by kernel_rfl) (by kernel_rfl)
def oQ:PL:=
 .ins (.pr (.len) [.a 0])<|
 .ins (.pr (.mk) [.a 1,.a 1,.k (.int .i64 0),.k (.int .i64 0),.k (.int .i64 0),.k (.int .i64 0),.k (.int .i64 0),.e,.k (.int .i64 0),.k (.bool false)])<|
 .loop [.k (.int .i64 0),.a 2] (
 .ins (.pr (.len) [.a 0])<|
 .ins (.pr (.bin .lss) [.a 3,.a 5])<|
 .ite 6 (
 .ins (.pr (.bW) [.a 0,.a 3])<|
 .ins (.pr (.cell 8 0) [.a 0,.a 3])<|
 .ins (.pr (.cell 8 1) [.a 0,.a 3])<|
 .ins (.pr (.cell 8 2) [.a 0,.a 3])<|
 .ins (.pr (.cell 8 3) [.a 0,.a 3])<|
 .ins (.pr (.cell 8 4) [.a 0,.a 3])<|
 .ins (.pr (.cell 8 5) [.a 0,.a 3])<|
 .ins (.pr (.cell 8 6) [.a 0,.a 3])<|
 .ins (.pr (.cell 8 7) [.a 0,.a 3])<|
 .ins (.cl 201 [.a 8,.a 9,.a 10,.a 11,.a 12,.a 13,.a 14,.a 15] 8)<|
 .ins (.pr (.bW) [.a 4,.a 3])<|
 .ins (.pr (.gj [true,true,true,true,true,false,true,true] 8 0) [.a 4,.a 3,.a 16,.a 17,.a 18,.a 19,.a 20,.a 21,.a 22,.a 23])<|
 .ins (.pr (.bin .add) [.a 3,.k (.int .i64 1)])<|
 .go 0 [.a 26,.a 25]) (
 .ret [.a 4]))
def UQ:Nat->af:=pick [(201,Fv)]
def Fw:af:=λts=>oQ.den UQ rounds [] ts
def al9:=gh.dB dj 127 ⟨[.v false 1],[(false,[.o true])]⟩ oQ Fw [al8] Tryz.func127 (by kernel_rfl) (by kernel_rfl) (by kernel_rfl)
def p6:PL:=
 .ins (.cl 45 [.a 2,.a 3,.a 4] 3)<|
 .ins (.cl 126 [.a 5] 1)<|
 .ins (.cl 127 [.a 6] 1)<|
 .ins (.pr (.bz) [.a 7])<|
 .ins (.pr (.bz) [.a 1])<|
 .ins (.pr (.bz) [.a 0])<|
 .ret [.a 14,.a 13,.a 12,.a 8,.a 9,.a 10,.a 11]
def Fx:Nat->af:=pick [(45,Bs),(126,Fq),(127,Fw)]
def Bt:af:=λts=>p6.den Fx rounds [] ts
def al_:=gh.dB dj 112 ⟨[.v true 7],[(true,[.s,.s,.s,.o true,.o true,.o true,.o true])]⟩ p6 Bt [al3,al4,al9] Tryz.func112 (by kernel_rfl) (by kernel_rfl) (by kernel_rfl)
def r8:PL:=
 .ins (.pr (.bz) [.a 3])<|
 .ins (.pr (.bz) [.a 2])<|
 .ins (.pr (.bz) [.a 1])<|
 .ins (.pr (.bz) [.a 0])<|
 .ret [.a 7,.a 6,.a 5,.a 4]
def al':Nat->af:=pick []
def Fy:af:=λts=>r8.den al' rounds [] ts
def ama:=gh.dB dj 196 ⟨[.v true 4],[(true,[.s,.s,.s,.s])]⟩ r8 Fy [] Tryz.func196 (by kernel_rfl) (by kernel_rfl) (by kernel_rfl)
def uh:PL:=
 .ins (.pr (.len) [.a 0])<|
 .ins (.pr (.mk) [.a 1,.a 1,.k (.int .i64 0),.k (.int .i64 0),.k (.int .i64 0),.k (.bool false)])<|
 .loop [.k (.int .i64 0),.a 2] (
 .ins (.pr (.len) [.a 0])<|
 .ins (.pr (.bin .lss) [.a 3,.a 5])<|
 .ite 6 (
 .ins (.pr (.bW) [.a 0,.a 3])<|
 .ins (.pr (.cell 4 0) [.a 0,.a 3])<|
 .ins (.pr (.cell 4 1) [.a 0,.a 3])<|
 .ins (.pr (.cell 4 2) [.a 0,.a 3])<|
 .ins (.pr (.cell 4 3) [.a 0,.a 3])<|
 .ins (.cl 196 [.a 8,.a 9,.a 10,.a 11] 4)<|
 .ins (.pr (.bW) [.a 4,.a 3])<|
 .ins (.pr (.put true 4 0 4) [.a 4,.a 3,.a 12,.a 13,.a 14,.a 15])<|
 .ins (.pr (.bin .add) [.a 3,.k (.int .i64 1)])<|
 .go 0 [.a 18,.a 17]) (
 .ret [.a 4]))
def UR:Nat->af:=pick [(196,Fy)]
def Fz:af:=λts=>uh.den UR rounds [] ts
def amb:=gh.dB dj 113 ⟨[.v false 1],[(false,[.o true])]⟩ uh Fz [ama] Tryz.func113 (by kernel_rfl) (by kernel_rfl) (by kernel_rfl)
def p7:PL:=
 .ins (.cl 112 [.a 0,.a 1,.a 2,.a 3,.a 4,.a 5,.a 6] 7)<|
 .ins (.cl 113 [.a 7] 1)<|
 .ins (.pr (.bz) [.a 10])<|
 .ins (.pr (.bz) [.a 9])<|
 .ins (.pr (.bz) [.a 8])<|
 .ret [.a 18,.a 17,.a 16,.a 11,.a 12,.a 13,.a 14,.a 15]
def K5:Nat->af:=pick [(112,Bt),(113,Fz)]
def Bu:af:=λts=>p7.den K5 rounds [] ts
def amc:=gh.dB dj 32 ⟨[.v true 8],[(true,[.s,.s,.s,.o true,.o true,.o true,.o true,.o true])]⟩ p7 Bu [al_,amb] Tryz.func32 (by kernel_rfl) (by kernel_rfl) (by kernel_rfl)
def US:J:=⟨65,⟨[.v true 8],[(true,[.s,.s,.s,.s,.s,.o true,.s,.s])]⟩,[],Tryz.f65⟩
def UT:PL:=jp US
def Bv:af:=Fs UT []
def FA:=dr US Bv Tryz.func65 (by kernel_rfl) (by kernel_rfl) (by kernel_rfl)
def UU:J:=⟨66,⟨[.v false 1],[(false,[.o true])]⟩,[FA],Tryz.f66⟩
def UW:PL:=jp UU
def C5:af:=Fs UW [(65,Bv)]
def kq_:=dr UU C5 Tryz.func66 (by kernel_rfl) (by kernel_rfl) (by kernel_rfl)
def UX:J:=⟨59,⟨[.v true 7],[(true,[.s,.s,.s,.o true,.o true,.o true,.o true])]⟩,[kq_],Tryz.f59⟩
def UY:PL:=jp UX
def H3:af:=Fs UY [(66,C5)]
def UZ:=dr UX H3 Tryz.func59 (by kernel_rfl) (by kernel_rfl) (by kernel_rfl)
def U0:J:=⟨97,⟨[.v true 8],[(true,[.s,.s,.s,.o true,.o true,.o true,.o true,.o true])]⟩,[UZ],Tryz.f97⟩
def U1:PL:=jp U0
def U2:af:=Fs U1 [(59,H3)]
def ame:=dr U0 U2 Tryz.func97 (by kernel_rfl) (by kernel_rfl) (by kernel_rfl)
def U3:J:=⟨105,⟨[.v false 1,.v false 1,.v false 1],[(false,[.s])]⟩,[],Tryz.f105⟩
def U4:PL:=jp U3
def r9:af:=Fs U4 []
def H4:=dr U3 r9 Tryz.func105 (by kernel_rfl) (by kernel_rfl) (by kernel_rfl)
def U5:J:=⟨203,⟨[.v false 1,.v true 4],[(false,[.s])]⟩,[H4],Tryz.f203⟩
def U6:PL:=jp U5
def U7:af:=Fs U6 [(105,r9)]
def amf:=dr U5 U7 Tryz.func203 (by kernel_rfl) (by kernel_rfl) (by kernel_rfl)
def U8:J:=⟨204,⟨[.v true 4,.v true 4],[(false,[.s])]⟩,[],Tryz.f204⟩
def U9:PL:=jp U8
def U_:af:=Fs U9 []
def amg:=dr U8 U_ Tryz.func204 (by kernel_rfl) (by kernel_rfl) (by kernel_rfl)
def U':J:=⟨205,⟨[.v true 4,.v true 4],[(false,[.s])]⟩,[],Tryz.f205⟩
def Va:PL:=jp U'
def Vb:af:=Fs Va []
def amh:=dr U' Vb Tryz.func205 (by kernel_rfl) (by kernel_rfl) (by kernel_rfl)
def Vc:J:=⟨132,⟨[.v true 3],[(false,[.s])]⟩,[H4,amf,amg,amh],Tryz.f132⟩
def Vd:PL:=jp Vc
def Bw:af:=Fs Vd [(105,r9),(203,U7),(204,U_),(205,Vb)]
def ami:=dr Vc Bw Tryz.func132 (by kernel_rfl) (by kernel_rfl) (by kernel_rfl)
def Ve:J:=⟨150,⟨[.v true 3,.v false 1,.v false 1,.v false 1],[(false,[.s])]⟩,[],Tryz.f150⟩
def Vf:PL:=jp Ve
def Bx:af:=Fs Vf []
def FB:=dr Ve Bx Tryz.func150 (by kernel_rfl) (by kernel_rfl) (by kernel_rfl)
def Vg:J:=⟨164,⟨[.v true 7],[(false,[.s])]⟩,[FB],Tryz.f164⟩
def Vh:PL:=jp Vg
def Vi:af:=Fs Vh [(150,Bx)]
def amj:=dr Vg Vi Tryz.func164 (by kernel_rfl) (by kernel_rfl) (by kernel_rfl)
def Vj:J:=⟨229,⟨[.v true 8],[(false,[.s])]⟩,[H4],Tryz.f229⟩
def Vk:PL:=jp Vj
def Vl:af:=Fs Vk [(105,r9)]
def amk:=dr Vj Vl Tryz.func229 (by kernel_rfl) (by kernel_rfl) (by kernel_rfl)
def Vm:J:=⟨195,⟨[.v true 8],[(false,[.s])]⟩,[H4,amk],Tryz.f195⟩
def Vn:PL:=jp Vm
def Vo:af:=Fs Vn [(105,r9),(229,Vl)]
def aml:=dr Vm Vo Tryz.func195 (by kernel_rfl) (by kernel_rfl) (by kernel_rfl)
def Vp:J:=⟨168,⟨[.v true 8,.v true 8],[(false,[.s])]⟩,[],Tryz.f168⟩
def Vq:PL:=jp Vp
def K6:af:=Fs Vq []
def Vr:=dr Vp K6 Tryz.func168 (by kernel_rfl) (by kernel_rfl) (by kernel_rfl)
def Vs:J:=⟨106,⟨[.v false 1],[(false,[.s])]⟩,[Vr,aml],Tryz.f106⟩
def Vt:PL:=jp Vs
def Bz:af:=Fs Vt [(168,K6),(195,Vo)]
def FC:=dr Vs Bz Tryz.func106 (by kernel_rfl) (by kernel_rfl) (by kernel_rfl)
def Vu:J:=⟨58,⟨[.v true 7],[(false,[.s])]⟩,[H4,FC,ami,amj],Tryz.f58⟩
def Vv:PL:=jp Vu
def FD:af:=Fs Vv [(105,r9),(106,Bz),(132,Bw),(164,Vi)]
def K7:=dr Vu FD Tryz.func58 (by kernel_rfl) (by kernel_rfl) (by kernel_rfl)
def Vw:J:=⟨101,⟨[.v false 1],[(false,[.p])]⟩,[],Tryz.f101⟩
def Vx:PL:=jp Vw
def K8:af:=Fs Vx []
def Vy:=dr Vw K8 Tryz.func101 (by kernel_rfl) (by kernel_rfl) (by kernel_rfl)
def Vz:J:=⟨194,⟨[.v false 1,.v false 1],[(false,[.s])]⟩,[],Tryz.f194⟩
def VA:PL:=jp Vz
def VB:af:=Fs VA []
def amm:=dr Vz VB Tryz.func194 (by kernel_rfl) (by kernel_rfl) (by kernel_rfl)
def VC:J:=⟨99,⟨[.v true 8],[(false,[.s])]⟩,[K7,Vy,H4,FB,amm],Tryz.f99⟩
def VD:PL:=jp VC
def VE:af:=Fs VD [(58,FD),(101,K8),(105,r9),(150,Bx),(194,VB)]
def amn:=dr VC VE Tryz.func99 (by kernel_rfl) (by kernel_rfl) (by kernel_rfl)
def VF:J:=⟨78,⟨[.v true 3,.v false 1,.v false 1],[(false,[.p])]⟩,[FB],Tryz.f78⟩
def VG:PL:=jp VF
def VH:af:=Fs VG [(150,Bx)]
def amo:=dr VF VH Tryz.func78 (by kernel_rfl) (by kernel_rfl) (by kernel_rfl)
def VI:J:=⟨20,⟨[.v true 3,.v false 1],[(false,[.p])]⟩,[amo],Tryz.f20⟩
def VJ:PL:=jp VI
def K9:af:=Fs VJ [(78,VH)]
def VK:=dr VI K9 Tryz.func20 (by kernel_rfl) (by kernel_rfl) (by kernel_rfl)
def VL:J:=⟨165,⟨[.v true 7,.v false 1],[(true,[.s,.s,.s,.s,.s,.p,.s,.s])]⟩,[FB],Tryz.f165⟩
def VM:PL:=jp VL
def VN:af:=Fs VM [(150,Bx)]
def amp:=dr VL VN Tryz.func165 (by kernel_rfl) (by kernel_rfl) (by kernel_rfl)
def VO:J:=⟨166,⟨[.v true 3,.v false 1],[(false,[.s])]⟩,[VK],Tryz.f166⟩
def VP:PL:=jp VO
def VQ:af:=Fs VP [(20,K9)]
def amq:=dr VO VQ Tryz.func166 (by kernel_rfl) (by kernel_rfl) (by kernel_rfl)
def VR:J:=⟨62,⟨[.v false 1,.v true 8],[(false,[.p])]⟩,[Vr],Tryz.f62⟩
def VS:PL:=jp VR
def C6:af:=Fs VS [(168,K6)]
def K_:=dr VR C6 Tryz.func62 (by kernel_rfl) (by kernel_rfl) (by kernel_rfl)
def VT:J:=⟨67,⟨[.v false 1,.v false 1],[(false,[.p])]⟩,[K_],Tryz.f67⟩
def VU:PL:=jp VT
def La:af:=Fs VU [(62,C6)]
def VV:=dr VT La Tryz.func67 (by kernel_rfl) (by kernel_rfl) (by kernel_rfl)
def VW:J:=⟨72,⟨[.v true 8,.v true 8],[(false,[.s])]⟩,[],Tryz.f72⟩
def VX:PL:=jp VW
def Lc:af:=Fs VX []
def VY:=dr VW Lc Tryz.func72 (by kernel_rfl) (by kernel_rfl) (by kernel_rfl)
def VZ:J:=⟨63,⟨[.v false 1,.v true 8],[(false,[.s])]⟩,[VY],Tryz.f63⟩
def V0:PL:=jp VZ
def FE:af:=Fs V0 [(72,Lc)]
def Ld:=dr VZ FE Tryz.func63 (by kernel_rfl) (by kernel_rfl) (by kernel_rfl)
def V1:J:=⟨233,⟨[.v false 1,.v false 1,.v false 1],[(true,[.s,.s,.s,.s,.s,.p,.s,.s]),(false,[.s])]⟩,[Ld],Tryz.f233⟩
def V2:PL:=jp V1
def C7:af:=Fs V2 [(63,FE)]
def Le:=dr V1 C7 Tryz.func233 (by kernel_rfl) (by kernel_rfl) (by kernel_rfl)
def V3:J:=⟨242,⟨[.v false 1,.v false 1,.v false 1,.v false 1],[(false,[.s])]⟩,[Le],Tryz.f242⟩
def V4:PL:=jp V3
def V5:af:=Fs V4 [(233,C7)]
def amr:=dr V3 V5 Tryz.func242 (by kernel_rfl) (by kernel_rfl) (by kernel_rfl)
def V6:J:=⟨234,⟨[.v false 1,.v false 1],[(false,[.p])]⟩,[H4,Le,amr],Tryz.f234⟩
def V7:PL:=jp V6
def V8:af:=Fs V7 [(105,r9),(233,C7),(242,V5)]
def ams:=dr V6 V8 Tryz.func234 (by kernel_rfl) (by kernel_rfl) (by kernel_rfl)
def V9:J:=⟨100,⟨[.v false 1,.v false 1],[(false,[.s])]⟩,[],Tryz.f100⟩
def V_:PL:=jp V9
def BA:af:=Fs V_ []
def amt:=dr V9 BA Tryz.func100 (by kernel_rfl) (by kernel_rfl) (by kernel_rfl)
def V':J:=⟨235,⟨[.v false 1,.v false 1],[(false,[.o true])]⟩,[amt],Tryz.f235⟩
def Wa:PL:=jp V'
def FF:af:=Fs Wa [(100,BA)]
def Wb:=dr V' FF Tryz.func235 (by kernel_rfl) (by kernel_rfl) (by kernel_rfl)
def Wc:J:=⟨218,⟨[.v false 1,.v false 1,.v false 1],[(false,[.p])]⟩,[H4,FC,Le,ams,Wb],Tryz.f218⟩
def Wd:PL:=jp Wc
def FG:af:=Fs Wd [(105,r9),(106,Bz),(233,C7),(234,V8),(235,FF)]
def Lg:=dr Wc FG Tryz.func218 (by kernel_rfl) (by kernel_rfl) (by kernel_rfl)
def We:J:=⟨238,⟨[.v true 3],[(true,[.s,.s,.p])]⟩,[],Tryz.f238⟩
def Wf:PL:=jp We
def Lh:af:=Fs Wf []
def Wg:=dr We Lh Tryz.func238 (by kernel_rfl) (by kernel_rfl) (by kernel_rfl)
def Wh:J:=⟨221,⟨[.v false 1,.v false 1],[(true,[.s,.s,.p]),(false,[.s])]⟩,[Wg],Tryz.f221⟩
def Wi:PL:=jp Wh
def zy:af:=Fs Wi [(238,Lh)]
def FH:=dr Wh zy Tryz.func221 (by kernel_rfl) (by kernel_rfl) (by kernel_rfl)
def Wj:J:=⟨243,⟨[.v true 3,.v true 3],[(false,[.s])]⟩,[],Tryz.f243⟩
def Wl:PL:=jp Wj
def Wm:af:=Fs Wl []
def amu:=dr Wj Wm Tryz.func243 (by kernel_rfl) (by kernel_rfl) (by kernel_rfl)
def Wn:J:=⟨236,⟨[.v true 3,.v true 3],[(true,[.s,.s,.p])]⟩,[Wb,Wg,amu],Tryz.f236⟩
def Wo:PL:=jp Wn
def Li:af:=Fs Wo [(235,FF),(238,Lh),(243,Wm)]
def Wp:=dr Wn Li Tryz.func236 (by kernel_rfl) (by kernel_rfl) (by kernel_rfl)
def Wq:J:=⟨219,⟨[.v false 1,.v false 1,.v false 1],[(false,[.p])]⟩,[Lg,FH,Wp],Tryz.f219⟩
def Wr:PL:=jp Wq
def Lj:af:=Fs Wr [(218,FG),(221,zy),(236,Li)]
def Ws:=dr Wq Lj Tryz.func219 (by kernel_rfl) (by kernel_rfl) (by kernel_rfl)
def Wt:J:=⟨237,⟨[.v false 1,.v false 1,.v false 1,.v false 1,.v false 1,.v true 3,.v false 1],[(true,[.s,.s,.p]),(false,[.s])]⟩,[FH,Wp],Tryz.f237⟩
def Wu:PL:=jp Wt
def Wv:af:=Fs Wu [(221,zy),(236,Li)]
def amv:=dr Wt Wv Tryz.func237 (by kernel_rfl) (by kernel_rfl) (by kernel_rfl)
def Ww:J:=⟨220,⟨[.v false 1,.v false 1,.v false 1,.v false 1],[(false,[.p])]⟩,[FC,Lg,Ws,FH,amv],Tryz.f220⟩
def Wx:PL:=jp Ww
def Wy:af:=Fs Wx [(106,Bz),(218,FG),(219,Lj),(221,zy),(237,Wv)]
def amw:=dr Ww Wy Tryz.func220 (by kernel_rfl) (by kernel_rfl) (by kernel_rfl)
def Wz:J:=⟨167,⟨[.v false 1,.v false 1,.v false 1,.v false 1],[(false,[.p])]⟩,[FC,Lg,Ws,amw,FH],Tryz.f167⟩
def WC:PL:=jp Wz
def WD:af:=Fs WC [(106,Bz),(218,FG),(219,Lj),(220,Wy),(221,zy)]
def amx:=dr Wz WD Tryz.func167 (by kernel_rfl) (by kernel_rfl) (by kernel_rfl)
def WE:J:=⟨60,⟨[.v true 7],[(false,[.p])]⟩,[VK,K7,K_,kq_,VV,amp,amq,amx],Tryz.f60⟩
def WG:PL:=jp WE
def WH:af:=Fs WG [(20,K9),(58,FD),(62,C6),(66,C5),(67,La),(165,VN),(166,VQ),(167,WD)]
def amy:=dr WE WH Tryz.func60 (by kernel_rfl) (by kernel_rfl) (by kernel_rfl)
def WI:J:=⟨15,⟨[.v false 1,.v true 8],[(true,[.s,.s,.s,.s,.s,.o true,.s,.s]),(false,[.s])]⟩,[Ld,FA],Tryz.f15⟩
def WJ:PL:=jp WI
def BB:af:=Fs WJ [(63,FE),(65,Bv)]
def amz:=dr WI BB Tryz.func15 (by kernel_rfl) (by kernel_rfl) (by kernel_rfl)
def WK:J:=⟨19,⟨[.v true 8,.v true 8],[(false,[.s])]⟩,[VY],Tryz.f19⟩
def WL:PL:=jp WK
def WM:af:=Fs WL [(72,Lc)]
def amA:=dr WK WM Tryz.func19 (by kernel_rfl) (by kernel_rfl) (by kernel_rfl)
def WN:J:=⟨61,⟨[.v true 7,.v false 1],[(false,[.s])]⟩,[],Tryz.f61⟩
def WO:PL:=jp WN
def WQ:af:=Fs WO []
def amB:=dr WN WQ Tryz.func61 (by kernel_rfl) (by kernel_rfl) (by kernel_rfl)
def WR:J:=⟨64,⟨[.v true 8],[(true,[.s,.s,.s,.s,.s,.p,.s,.s])]⟩,[],Tryz.f64⟩
def WS:PL:=jp WR
def WU:af:=Fs WS []
def amC:=dr WR WU Tryz.func64 (by kernel_rfl) (by kernel_rfl) (by kernel_rfl)
def WV:J:=⟨12,⟨[.v true 7],[(true,[.s,.s,.s,.o true,.o true,.o true,.o true]),(false,[.o true])]⟩,[amz,amA,K7,UZ,amy,amB,K_,Ld,amC,FA,kq_,VV],Tryz.f12⟩
def WW:PL:=jp WV
def BC:af:=Fs WW [(15,BB),(19,WM),(58,FD),(59,H3),(60,WH),(61,WQ),(62,C6),(63,FE),(64,WU),(65,Bv),(66,C5),(67,La)]
def amD:=dr WV BC Tryz.func12 (by kernel_rfl) (by kernel_rfl) (by kernel_rfl)
def WX:J:=⟨110,⟨[.v true 8,.v true 4],[(true,[.s,.s,.s,.s,.p,.p])]⟩,[],Tryz.f110⟩
def WY:PL:=jp WX
def Pp:af:=Fs WY []
def amE:=dr WX Pp Tryz.func110 (by kernel_rfl) (by kernel_rfl) (by kernel_rfl)
def WZ:J:=⟨184,⟨[.v false 1,.v false 1],[(false,[.o true])]⟩,[FA],Tryz.f184⟩
def W3:PL:=jp WZ
def BD:af:=Fs W3 [(65,Bv)]
def amF:=dr WZ BD Tryz.func184 (by kernel_rfl) (by kernel_rfl) (by kernel_rfl)
def W4:J:=⟨107,⟨[.v true 8],[(true,[.s,.s,.s,.s,.s,.p,.s,.s])]⟩,[],Tryz.f107⟩
def W5:PL:=jp W4
def W6:af:=Fs W5 []
def amG:=dr W4 W6 Tryz.func107 (by kernel_rfl) (by kernel_rfl) (by kernel_rfl)
def W7:J:=⟨185,⟨[.v false 1,.v false 1],[(false,[.p])]⟩,[amG,amF],Tryz.f185⟩
def W8:PL:=jp W7
def W9:af:=Fs W8 [(107,W6),(184,BD)]
def amH:=dr W7 W9 Tryz.func185 (by kernel_rfl) (by kernel_rfl) (by kernel_rfl)
def W_:J:=⟨111,⟨[.v true 8,.v true 4],[(true,[.s,.s,.s,.s,.p,.p])]⟩,[amH],Tryz.f111⟩
def Xa:PL:=jp W_
def Pq:af:=Fs Xa [(185,W9)]
def amI:=dr W_ Pq Tryz.func111 (by kernel_rfl) (by kernel_rfl) (by kernel_rfl)
def Xb:J:=⟨31,⟨[.v true 8],[(true,[.s,.s,.s,.p,.p,.p,.p,.p]),(false,[.p])]⟩,[amD,ame,amn,Vy,amE,amI],Tryz.f31⟩
def Xc:PL:=jp Xb
def Xd:af:=Fs Xc [(12,BC),(97,U2),(99,VE),(101,K8),(110,Pp),(111,Pq)]
def amJ:=dr Xb Xd Tryz.func31 (by kernel_rfl) (by kernel_rfl) (by kernel_rfl)
def Xe:J:=⟨90,⟨[.v true 3],[(true,[.s,.o true,.o true])]⟩,[],Tryz.f90⟩
def Xf:PL:=jp Xe
def Xg:af:=Fs Xf []
def amK:=dr Xe Xg Tryz.func90 (by kernel_rfl) (by kernel_rfl) (by kernel_rfl)
def Xh:J:=⟨156,⟨[.v false 1],[(false,[.o true])]⟩,[],Tryz.f156⟩
def Xi:PL:=jp Xh
def r_:af:=Fs Xi []
def Pr:=dr Xh r_ Tryz.func156 (by kernel_rfl) (by kernel_rfl) (by kernel_rfl)
def Xj:J:=⟨161,⟨[.v true 8],[(true,[.s,.s,.s,.s,.s,.o true,.s,.s])]⟩,[],Tryz.f161⟩
def Xk:PL:=jp Xj
def FI:af:=Fs Xk []
def Lk:=dr Xj FI Tryz.func161 (by kernel_rfl) (by kernel_rfl) (by kernel_rfl)
def Xl:J:=⟨56,⟨[.v false 1],[(false,[.o true])]⟩,[Lk],Tryz.f56⟩
def Xm:PL:=jp Xl
def FJ:af:=Fs Xm [(161,FI)]
def k3_:=dr Xl FJ Tryz.func56 (by kernel_rfl) (by kernel_rfl) (by kernel_rfl)
def Xn:J:=⟨54,⟨[.v true 7],[(true,[.s,.s,.s,.o true,.o true,.o true,.o true])]⟩,[k3_,amK,Pr],Tryz.f54⟩
def Xo:PL:=jp Xn
def Ll:af:=Fs Xo [(56,FJ),(90,Xg),(156,r_)]
def Xp:=dr Xn Ll Tryz.func54 (by kernel_rfl) (by kernel_rfl) (by kernel_rfl)
def Xq:J:=⟨81,⟨[.v true 8],[(true,[.s,.s,.s,.o true,.o true,.o true,.o true,.o true])]⟩,[Xp],Tryz.f81⟩
def Xr:PL:=jp Xq
def Xs:af:=Fs Xr [(54,Ll)]
def amM:=dr Xq Xs Tryz.func81 (by kernel_rfl) (by kernel_rfl) (by kernel_rfl)
def Xt:J:=⟨69,⟨[.v false 1,.v false 1,.v false 1],[(false,[.s])]⟩,[],Tryz.f69⟩
def Xu:PL:=jp Xt
def ui:af:=Fs Xu []
def vW:=dr Xt ui Tryz.func69 (by kernel_rfl) (by kernel_rfl) (by kernel_rfl)
def Xv:J:=⟨169,⟨[.v false 1,.v true 4],[(false,[.s])]⟩,[vW],Tryz.f169⟩
def Xw:PL:=jp Xv
def Xx:af:=Fs Xw [(69,ui)]
def amN:=dr Xv Xx Tryz.func169 (by kernel_rfl) (by kernel_rfl) (by kernel_rfl)
def Xy:J:=⟨170,⟨[.v true 4,.v true 4],[(false,[.s])]⟩,[],Tryz.f170⟩
def Xz:PL:=jp Xy
def BE:af:=Fs Xz []
def amO:=dr Xy BE Tryz.func170 (by kernel_rfl) (by kernel_rfl) (by kernel_rfl)
def XA:J:=⟨171,⟨[.v true 4,.v true 4],[(false,[.s])]⟩,[],Tryz.f171⟩
def XB:PL:=jp XA
def BF:af:=Fs XB []
def amP:=dr XA BF Tryz.func171 (by kernel_rfl) (by kernel_rfl) (by kernel_rfl)
def XC:J:=⟨68,⟨[.v true 3],[(false,[.s])]⟩,[vW,amN,amO,amP],Tryz.f68⟩
def XD:PL:=jp XC
def BG:af:=Fs XD [(69,ui),(169,Xx),(170,BE),(171,BF)]
def amQ:=dr XC BG Tryz.func68 (by kernel_rfl) (by kernel_rfl) (by kernel_rfl)
def XE:J:=⟨172,⟨[.v true 3,.v false 1,.v false 1,.v false 1],[(false,[.s])]⟩,[],Tryz.f172⟩
def XF:PL:=jp XE
def FK:af:=Fs XF []
def Lm:=dr XE FK Tryz.func172 (by kernel_rfl) (by kernel_rfl) (by kernel_rfl)
def XG:J:=⟨70,⟨[.v true 7],[(false,[.s])]⟩,[Lm],Tryz.f70⟩
def XH:PL:=jp XG
def XI:af:=Fs XH [(172,FK)]
def amR:=dr XG XI Tryz.func70 (by kernel_rfl) (by kernel_rfl) (by kernel_rfl)
def XJ:J:=⟨222,⟨[.v true 8],[(false,[.s])]⟩,[vW],Tryz.f222⟩
def XK:PL:=jp XJ
def XL:af:=Fs XK [(69,ui)]
def amS:=dr XJ XL Tryz.func222 (by kernel_rfl) (by kernel_rfl) (by kernel_rfl)
def XM:J:=⟨173,⟨[.v true 8],[(false,[.s])]⟩,[vW,amS],Tryz.f173⟩
def XN:PL:=jp XM
def XO:af:=Fs XN [(69,ui),(222,XL)]
def amT:=dr XM XO Tryz.func173 (by kernel_rfl) (by kernel_rfl) (by kernel_rfl)
def XP:J:=⟨162,⟨[.v true 8,.v true 8],[(false,[.s])]⟩,[],Tryz.f162⟩
def XQ:PL:=jp XP
def Ln:af:=Fs XQ []
def XR:=dr XP Ln Tryz.func162 (by kernel_rfl) (by kernel_rfl) (by kernel_rfl)
def XS:J:=⟨71,⟨[.v false 1],[(false,[.s])]⟩,[XR,amT],Tryz.f71⟩
def XU:PL:=jp XS
def Lp:af:=Fs XU [(162,Ln),(173,XO)]
def XV:=dr XS Lp Tryz.func71 (by kernel_rfl) (by kernel_rfl) (by kernel_rfl)
def XW:J:=⟨13,⟨[.v true 7],[(false,[.s])]⟩,[amQ,vW,amR,XV],Tryz.f13⟩
def XX:PL:=jp XW
def FL:af:=Fs XX [(68,BG),(69,ui),(70,XI),(71,Lp)]
def Lq:=dr XW FL Tryz.func13 (by kernel_rfl) (by kernel_rfl) (by kernel_rfl)
def XY:J:=⟨87,⟨[.v true 3,.v false 1],[(false,[.o true])]⟩,[Lm],Tryz.f87⟩
def XZ:PL:=jp XY
def X0:af:=Fs XZ [(172,FK)]
def amU:=dr XY X0 Tryz.func87 (by kernel_rfl) (by kernel_rfl) (by kernel_rfl)
def X1:J:=⟨82,⟨[.v false 1],[(false,[.o true])]⟩,[],Tryz.f82⟩
def X2:PL:=jp X1
def Lr:af:=Fs X2 []
def X3:=dr X1 Lr Tryz.func82 (by kernel_rfl) (by kernel_rfl) (by kernel_rfl)
def X4:J:=⟨88,⟨[.v false 1,.v false 1],[(false,[.s])]⟩,[],Tryz.f88⟩
def X5:PL:=jp X4
def X6:af:=Fs X5 []
def amV:=dr X4 X6 Tryz.func88 (by kernel_rfl) (by kernel_rfl) (by kernel_rfl)
def X7:J:=⟨23,⟨[.v true 8],[(false,[.s])]⟩,[Lq,vW,X3,amU,amV],Tryz.f23⟩
def X8:PL:=jp X7
def X9:af:=Fs X8 [(13,FL),(69,ui),(82,Lr),(87,X0),(88,X6)]
def amW:=dr X7 X9 Tryz.func23 (by kernel_rfl) (by kernel_rfl) (by kernel_rfl)
def X_:J:=⟨74,⟨[.v true 3,.v false 1],[(false,[.o true])]⟩,[Pr],Tryz.f74⟩
def X':PL:=jp X_
def FM:af:=Fs X' [(156,r_)]
def Ls:=dr X_ FM Tryz.func74 (by kernel_rfl) (by kernel_rfl) (by kernel_rfl)
def Yd:J:=⟨174,⟨[.v true 3,.v false 1,.v false 1,.v false 1],[(false,[.s])]⟩,[Lm],Tryz.f174⟩
def Yf:PL:=jp Yd
def Yi:af:=Fs Yf [(172,FK)]
def amX:=dr Yd Yi Tryz.func174 (by kernel_rfl) (by kernel_rfl) (by kernel_rfl)
def Yj:J:=⟨73,⟨[.v true 7],[(false,[.o true])]⟩,[Ls,amX],Tryz.f73⟩
def Yk:PL:=jp Yj
def BH:af:=Fs Yk [(74,FM),(174,Yi)]
def amY:=dr Yj BH Tryz.func73 (by kernel_rfl) (by kernel_rfl) (by kernel_rfl)
def Yr:J:=⟨163,⟨[.v true 8,.v true 8],[(false,[.s])]⟩,[],Tryz.f163⟩
def YA:PL:=jp Yr
def FN:af:=Fs YA []
def Lt:=dr Yr FN Tryz.func163 (by kernel_rfl) (by kernel_rfl) (by kernel_rfl)
def YB:J:=⟨57,⟨[.v false 1,.v true 8],[(false,[.o true])]⟩,[k3_,Lk,XR,Lt],Tryz.f57⟩
def YC:PL:=jp YB
def wX:af:=Fs YC [(56,FJ),(161,FI),(162,Ln),(163,FN)]
def BI:=dr YB wX Tryz.func57 (by kernel_rfl) (by kernel_rfl) (by kernel_rfl)
def YD:J:=⟨175,⟨[.v false 1,.v false 1],[(false,[.s])]⟩,[],Tryz.f175⟩
def YE:PL:=jp YD
def FO:af:=Fs YE []
def Lu:=dr YD FO Tryz.func175 (by kernel_rfl) (by kernel_rfl) (by kernel_rfl)
def YF:J:=⟨75,⟨[.v true 3,.v false 1],[(false,[.s])]⟩,[Ls,Lu],Tryz.f75⟩
def YG:PL:=jp YF
def YH:af:=Fs YG [(74,FM),(175,FO)]
def amZ:=dr YF YH Tryz.func75 (by kernel_rfl) (by kernel_rfl) (by kernel_rfl)
def YI:J:=⟨76,⟨[.v false 1,.v false 1,.v false 1],[(false,[.o false])]⟩,[BI],Tryz.f76⟩
def YJ:PL:=jp YI
def BJ:af:=Fs YJ [(57,wX)]
def am0:=dr YI BJ Tryz.func76 (by kernel_rfl) (by kernel_rfl) (by kernel_rfl)
def YK:J:=⟨157,⟨[.v false 1,.v true 8],[(false,[.s])]⟩,[Lt],Tryz.f157⟩
def YL:PL:=jp YK
def yN:af:=Fs YL [(163,FN)]
def BK:=dr YK yN Tryz.func157 (by kernel_rfl) (by kernel_rfl) (by kernel_rfl)
def YM:J:=⟨244,⟨[.v false 1,.v false 1,.v false 1,.v false 1],[(false,[.s])]⟩,[BK],Tryz.f244⟩
def YN:PL:=jp YM
def BL:af:=Fs YN [(157,yN)]
def am1:=dr YM BL Tryz.func244 (by kernel_rfl) (by kernel_rfl) (by kernel_rfl)
def YO:J:=⟨239,⟨[.v false 1,.v false 1,.v false 1,.v false 1],[(false,[.s])]⟩,[am1],Tryz.f239⟩
def YP:PL:=jp YO
def YQ:af:=Fs YP [(244,BL)]
def am2:=dr YO YQ Tryz.func239 (by kernel_rfl) (by kernel_rfl) (by kernel_rfl)
def YR:J:=⟨224,⟨[.v true 3],[(true,[.s,.s,.o true])]⟩,[Pr],Tryz.f224⟩
def YS:PL:=jp YR
def wY:af:=Fs YS [(156,r_)]
def FP:=dr YR wY Tryz.func224 (by kernel_rfl) (by kernel_rfl) (by kernel_rfl)
def YT:J:=⟨227,⟨[.v true 3,.v true 3],[(true,[.s,.s,.o true])]⟩,[Pr,FP],Tryz.f227⟩
def YU:PL:=jp YT
def yO:af:=Fs YU [(156,r_),(224,wY)]
def Lv:=dr YT yO Tryz.func227 (by kernel_rfl) (by kernel_rfl) (by kernel_rfl)
def YV:J:=⟨176,⟨[.v false 1,.v false 1,.v false 1],[(false,[.o true])]⟩,[vW,XV,Pr,BK,Lu,Lv,am2],Tryz.f176⟩
def YW:PL:=jp YV
def FQ:af:=Fs YW [(69,ui),(71,Lp),(156,r_),(157,yN),(175,FO),(227,yO),(239,YQ)]
def Lw:=dr YV FQ Tryz.func176 (by kernel_rfl) (by kernel_rfl) (by kernel_rfl)
def YX:J:=⟨178,⟨[.v false 1,.v false 1],[(true,[.s,.s,.o true]),(false,[.s])]⟩,[FP],Tryz.f178⟩
def YY:PL:=jp YX
def Lx:af:=Fs YY [(224,wY)]
def YZ:=dr YX Lx Tryz.func178 (by kernel_rfl) (by kernel_rfl) (by kernel_rfl)
def Y0:J:=⟨179,⟨[.v false 1,.v false 1,.v false 1],[(false,[.o true])]⟩,[Lw,FP,Lv],Tryz.f179⟩
def Y5:PL:=jp Y0
def Ly:af:=Fs Y5 [(176,FQ),(224,wY),(227,yO)]
def Y7:=dr Y0 Ly Tryz.func179 (by kernel_rfl) (by kernel_rfl) (by kernel_rfl)
def Y9:J:=⟨180,⟨[.v false 1,.v false 1,.v false 1,.v false 1],[(false,[.o true])]⟩,[Lu,Lw,YZ,Y7,FP,Lv],Tryz.f180⟩
def Y_:PL:=jp Y9
def Y':af:=Fs Y_ [(175,FO),(176,FQ),(178,Lx),(179,Ly),(224,wY),(227,yO)]
def am3:=dr Y9 Y' Tryz.func180 (by kernel_rfl) (by kernel_rfl) (by kernel_rfl)
def Za:J:=⟨77,⟨[.v false 1,.v false 1,.v false 1,.v false 1],[(false,[.o true])]⟩,[BI,BK,Lw,YZ,Y7,am3],Tryz.f77⟩
def Zc:PL:=jp Za
def Zd:af:=Fs Zc [(57,wX),(157,yN),(176,FQ),(178,Lx),(179,Ly),(180,Y')]
def am4:=dr Za Zd Tryz.func77 (by kernel_rfl) (by kernel_rfl) (by kernel_rfl)
def Ze:J:=⟨18,⟨[.v true 7],[(false,[.o true])]⟩,[Lq,BI,amY,Ls,amZ,am0,am4],Tryz.f18⟩
def Zf:PL:=jp Ze
def Ps:af:=Fs Zf [(13,FL),(57,wX),(73,BH),(74,FM),(75,YH),(76,BJ),(77,Zd)]
def am5:=dr Ze Ps Tryz.func18 (by kernel_rfl) (by kernel_rfl) (by kernel_rfl)
def Zg:J:=⟨158,⟨[.v true 8,.v true 8],[(false,[.s])]⟩,[Lt],Tryz.f158⟩
def Zh:PL:=jp Zg
def Zi:af:=Fs Zh [(163,FN)]
def am6:=dr Zg Zi Tryz.func158 (by kernel_rfl) (by kernel_rfl) (by kernel_rfl)
def Zj:J:=⟨159,⟨[.v true 7,.v true 8],[(false,[.s])]⟩,[BK],Tryz.f159⟩
def Zk:PL:=jp Zj
def BM:af:=Fs Zk [(157,yN)]
def am7:=dr Zj BM Tryz.func159 (by kernel_rfl) (by kernel_rfl) (by kernel_rfl)
def Zl:J:=⟨160,⟨[.v true 8],[(true,[.s,.s,.s,.s,.s,.o true,.s,.s])]⟩,[],Tryz.f160⟩
def Zm:PL:=jp Zl
def BN:af:=Fs Zm []
def am8:=dr Zl BN Tryz.func160 (by kernel_rfl) (by kernel_rfl) (by kernel_rfl)
def Zn:J:=⟨55,⟨[.v true 7],[(false,[.o true])]⟩,[am5,BI,BK,am6,am7,am8],Tryz.f55⟩
def Zo:PL:=jp Zn
def BO:af:=Fs Zo [(18,Ps),(57,wX),(157,yN),(158,Zi),(159,BM),(160,BN)]
def am9:=dr Zn BO Tryz.func55 (by kernel_rfl) (by kernel_rfl) (by kernel_rfl)
def Zp:J:=⟨11,⟨[.v true 7],[(true,[.s,.s,.s,.o true,.o true,.o true,.o true]),(false,[.o true])]⟩,[Lq,Xp,am9,k3_,BI],Tryz.f11⟩
def Zq:PL:=jp Zp
def BP:af:=Fs Zq [(13,FL),(54,Ll),(55,BO),(56,FJ),(57,wX)]
def am_:=dr Zp BP Tryz.func11 (by kernel_rfl) (by kernel_rfl) (by kernel_rfl)
def Zr:J:=⟨186,⟨[.v false 1,.v false 1],[(false,[.o true])]⟩,[Lk],Tryz.f186⟩
def Zs:PL:=jp Zr
def BQ:af:=Fs Zs [(161,FI)]
def am':=dr Zr BQ Tryz.func186 (by kernel_rfl) (by kernel_rfl) (by kernel_rfl)
def Zt:J:=⟨187,⟨[.v true 8],[(true,[.s,.s,.s,.s,.s,.o true,.s,.s])]⟩,[],Tryz.f187⟩
def Zu:PL:=jp Zt
def Zv:af:=Fs Zu []
def ana:=dr Zt Zv Tryz.func187 (by kernel_rfl) (by kernel_rfl) (by kernel_rfl)
def Zw:J:=⟨86,⟨[.v false 1,.v false 1],[(false,[.o true])]⟩,[am',ana],Tryz.f86⟩
def Zx:PL:=jp Zw
def Pu:af:=Fs Zx [(186,BQ),(187,Zv)]
def anb:=dr Zw Pu Tryz.func86 (by kernel_rfl) (by kernel_rfl) (by kernel_rfl)
def Zy:J:=⟨22,⟨[.v true 8],[(true,[.s,.s,.s,.o true,.o true,.o true,.o true,.o true]),(false,[.o true])]⟩,[am_,amW,amM,X3,anb,Pr],Tryz.f22⟩
def Zz:PL:=jp Zy
def ZA:af:=Fs Zz [(11,BP),(23,X9),(81,Xs),(82,Lr),(86,Pu),(156,r_)]
def anc:=dr Zy ZA Tryz.func22 (by kernel_rfl) (by kernel_rfl) (by kernel_rfl)
def p8:PL:=
 .ins (.pr (.bin .neq) [.a 0,.a 4])<|
 .ite 8 (
 .ins (.pr (.bz) [.k (.bool false)])<|
 .ret [.a 9]) (
 .ins (.pr (.bin .neq) [.a 1,.a 5])<|
 .ite 9 (
 .ins (.pr (.bz) [.k (.bool false)])<|
 .ret [.a 10]) (
 .ins (.pr (.bin .neq) [.a 2,.a 6])<|
 .ite 10 (
 .ins (.pr (.bz) [.k (.bool false)])<|
 .ret [.a 11]) (
 .ins (.pr (.bin .neq) [.a 3,.a 7])<|
 .ite 11 (
 .ins (.pr (.bz) [.k (.bool false)])<|
 .ret [.a 12]) (
 .ins (.pr (.bz) [.k (.bool true)])<|
 .ret [.a 12]))))
def ane:Nat->af:=pick []
def FR:af:=λts=>p8.den ane rounds [] ts
def anf:=gh.dB dj 208 ⟨[.v true 4,.v true 4],[(false,[.s])]⟩ p8 FR [] Tryz.func208 (by kernel_rfl) (by kernel_rfl) (by kernel_rfl)
def ra:PL:=
 .ins (.pr (.len) [.a 0])<|
 .ins (.pr (.len) [.a 1])<|
 .ins (.pr (.bin .neq) [.a 2,.a 3])<|
 .ite 4 (
 .ins (.pr (.bz) [.k (.bool false)])<|
 .ret [.a 5]) (
 .loop [.k (.bool false),.k (.int .i64 0)] (
 .ins (.pr (.len) [.a 0])<|
 .ins (.pr (.bin .lss) [.a 6,.a 7])<|
 .ite 8 (
 .ins (.pr (.bW) [.a 0,.a 6])<|
 .ins (.pr (.cell 4 0) [.a 0,.a 6])<|
 .ins (.pr (.cell 4 1) [.a 0,.a 6])<|
 .ins (.pr (.cell 4 2) [.a 0,.a 6])<|
 .ins (.pr (.cell 4 3) [.a 0,.a 6])<|
 .ins (.pr (.bW) [.a 1,.a 6])<|
 .ins (.pr (.cell 4 0) [.a 1,.a 6])<|
 .ins (.pr (.cell 4 1) [.a 1,.a 6])<|
 .ins (.pr (.cell 4 2) [.a 1,.a 6])<|
 .ins (.pr (.cell 4 3) [.a 1,.a 6])<|
 .ins (.cl 208 [.a 10,.a 11,.a 12,.a 13,.a 15,.a 16,.a 17,.a 18] 1)<|
 .ins (.pr (.un .not) [.a 19])<|
 .ite 20 (
 .ins (.pr (.bz) [.k (.bool false)])<|
 .ret [.a 21]) (
 .ins (.pr (.bin .add) [.a 6,.k (.int .i64 1)])<|
 .go 0 [.a 5,.a 21])) (
 .ins (.pr (.bz) [.k (.bool true)])<|
 .ret [.a 9])))
def ZB:Nat->af:=pick [(208,FR)]
def FT:af:=λts=>ra.den ZB rounds [] ts
def ang:=gh.dB dj 139 ⟨[.v false 1,.v false 1],[(false,[.s])]⟩ ra FT [anf] Tryz.func139 (by kernel_rfl) (by kernel_rfl) (by kernel_rfl)
def nW:PL:=
 .ins (.pr (.bin .neq) [.a 0,.a 4])<|
 .ite 8 (
 .ins (.pr (.bz) [.k (.bool false)])<|
 .ret [.a 9]) (
 .ins (.pr (.bin .neq) [.a 1,.a 5])<|
 .ite 9 (
 .ins (.pr (.bz) [.k (.bool false)])<|
 .ret [.a 10]) (
 .ins (.pr (.bin .neq) [.a 2,.a 6])<|
 .ite 10 (
 .ins (.pr (.bz) [.k (.bool false)])<|
 .ret [.a 11]) (
 .ins (.pr (.bb .neq) [.a 3,.a 7])<|
 .ite 11 (
 .ins (.pr (.bz) [.k (.bool false)])<|
 .ret [.a 12]) (
 .ins (.pr (.bz) [.k (.bool true)])<|
 .ret [.a 12]))))
def anh:Nat->af:=pick []
def FU:af:=λts=>nW.den anh rounds [] ts
def ani:=gh.dB dj 209 ⟨[.v true 4,.v true 4],[(false,[.s])]⟩ nW FU [] Tryz.func209 (by kernel_rfl) (by kernel_rfl) (by kernel_rfl)
def p9:PL:=
 .ins (.pr (.len) [.a 0])<|
 .ins (.pr (.len) [.a 1])<|
 .ins (.pr (.bin .neq) [.a 2,.a 3])<|
 .ite 4 (
 .ins (.pr (.bz) [.k (.bool false)])<|
 .ret [.a 5]) (
 .loop [.k (.bool false),.k (.int .i64 0)] (
 .ins (.pr (.len) [.a 0])<|
 .ins (.pr (.bin .lss) [.a 6,.a 7])<|
 .ite 8 (
 .ins (.pr (.bW) [.a 0,.a 6])<|
 .ins (.pr (.cell 4 0) [.a 0,.a 6])<|
 .ins (.pr (.cell 4 1) [.a 0,.a 6])<|
 .ins (.pr (.cell 4 2) [.a 0,.a 6])<|
 .ins (.pr (.cell 4 3) [.a 0,.a 6])<|
 .ins (.pr (.bW) [.a 1,.a 6])<|
 .ins (.pr (.cell 4 0) [.a 1,.a 6])<|
 .ins (.pr (.cell 4 1) [.a 1,.a 6])<|
 .ins (.pr (.cell 4 2) [.a 1,.a 6])<|
 .ins (.pr (.cell 4 3) [.a 1,.a 6])<|
 .ins (.cl 209 [.a 10,.a 11,.a 12,.a 13,.a 15,.a 16,.a 17,.a 18] 1)<|
 .ins (.pr (.un .not) [.a 19])<|
 .ite 20 (
 .ins (.pr (.bz) [.k (.bool false)])<|
 .ret [.a 21]) (
 .ins (.pr (.bin .add) [.a 6,.k (.int .i64 1)])<|
 .go 0 [.a 5,.a 21])) (
 .ins (.pr (.bz) [.k (.bool true)])<|
 .ret [.a 9])))
def ZC:Nat->af:=pick [(209,FU)]
def FV:af:=λts=>p9.den ZC rounds [] ts
def anj:=gh.dB dj 140 ⟨[.v false 1,.v false 1],[(false,[.s])]⟩ p9 FV [ani] Tryz.func140 (by kernel_rfl) (by kernel_rfl) (by kernel_rfl)
def sa:PL:=
 .ins (.pr (.bin .neq) [.a 0,.a 3])<|
 .ite 6 (
 .ins (.pr (.bz) [.k (.bool false)])<|
 .ret [.a 7]) (
 .ins (.cl 139 [.a 1,.a 4] 1)<|
 .ins (.pr (.un .not) [.a 7])<|
 .ite 8 (
 .ins (.pr (.bz) [.k (.bool false)])<|
 .ret [.a 9]) (
 .ins (.cl 140 [.a 2,.a 5] 1)<|
 .ins (.pr (.un .not) [.a 9])<|
 .ite 10 (
 .ins (.pr (.bz) [.k (.bool false)])<|
 .ret [.a 11]) (
 .ins (.pr (.bz) [.k (.bool true)])<|
 .ret [.a 11])))
def Lz:Nat->af:=pick [(139,FT),(140,FV)]
def BR:af:=λts=>sa.den Lz rounds [] ts
def ank:=gh.dB dj 48 ⟨[.v true 3,.v true 3],[(false,[.s])]⟩ sa BR [ang,anj] Tryz.func48 (by kernel_rfl) (by kernel_rfl) (by kernel_rfl)
def uj:PL:=
 .ins (.pr (.len) [.a 0])<|
 .ins (.pr (.len) [.a 1])<|
 .ins (.pr (.bin .neq) [.a 2,.a 3])<|
 .ite 4 (
 .ins (.pr (.bz) [.k (.bool false)])<|
 .ret [.a 5]) (
 .loop [.k (.bool false),.k (.int .i64 0)] (
 .ins (.pr (.len) [.a 0])<|
 .ins (.pr (.bin .lss) [.a 6,.a 7])<|
 .ite 8 (
 .ins (.pr (.bW) [.a 0,.a 6])<|
 .ins (.pr (.cell 1 0) [.a 0,.a 6])<|
 .ins (.pr (.bW) [.a 1,.a 6])<|
 .ins (.pr (.cell 1 0) [.a 1,.a 6])<|
 .ins (.pr (.bin .neq) [.a 10,.a 12])<|
 .ite 13 (
 .ins (.pr (.bz) [.k (.bool false)])<|
 .ret [.a 14]) (
 .ins (.pr (.bin .add) [.a 6,.k (.int .i64 1)])<|
 .go 0 [.a 5,.a 14])) (
 .ins (.pr (.bz) [.k (.bool true)])<|
 .ret [.a 9])))
def ZD:Nat->af:=pick []
def yP:af:=λts=>uj.den ZD rounds [] ts
def ZE:=gh.dB dj 128 ⟨[.v false 1,.v false 1],[(false,[.s])]⟩ uj yP [] Tryz.func128 (by kernel_rfl) (by kernel_rfl) (by kernel_rfl)
def p_:PL:=
 .ins (.pr (.bin .neq) [.a 0,.a 2])<|
 .ite 4 (
 .ins (.pr (.bz) [.k (.bool false)])<|
 .ret [.a 5]) (
 .ins (.pr (.bin .neq) [.a 1,.a 3])<|
 .ite 5 (
 .ins (.pr (.bz) [.k (.bool false)])<|
 .ret [.a 6]) (
 .ins (.pr (.bz) [.k (.bool true)])<|
 .ret [.a 6]))
def anl:Nat->af:=pick []
def FW:af:=λts=>p_.den anl rounds [] ts
def anm:=gh.dB dj 241 ⟨[.v true 2,.v true 2],[(false,[.s])]⟩ p_ FW [] Tryz.func241 (by kernel_rfl) (by kernel_rfl) (by kernel_rfl)
def rb:PL:=
 .ins (.pr (.len) [.a 0])<|
 .ins (.pr (.len) [.a 1])<|
 .ins (.pr (.bin .neq) [.a 2,.a 3])<|
 .ite 4 (
 .ins (.pr (.bz) [.k (.bool false)])<|
 .ret [.a 5]) (
 .loop [.k (.bool false),.k (.int .i64 0)] (
 .ins (.pr (.len) [.a 0])<|
 .ins (.pr (.bin .lss) [.a 6,.a 7])<|
 .ite 8 (
 .ins (.pr (.bW) [.a 0,.a 6])<|
 .ins (.pr (.cell 2 0) [.a 0,.a 6])<|
 .ins (.pr (.cell 2 1) [.a 0,.a 6])<|
 .ins (.pr (.bW) [.a 1,.a 6])<|
 .ins (.pr (.cell 2 0) [.a 1,.a 6])<|
 .ins (.pr (.cell 2 1) [.a 1,.a 6])<|
 .ins (.cl 241 [.a 10,.a 11,.a 13,.a 14] 1)<|
 .ins (.pr (.un .not) [.a 15])<|
 .ite 16 (
 .ins (.pr (.bz) [.k (.bool false)])<|
 .ret [.a 17]) (
 .ins (.pr (.bin .add) [.a 6,.k (.int .i64 1)])<|
 .go 0 [.a 5,.a 17])) (
 .ins (.pr (.bz) [.k (.bool true)])<|
 .ret [.a 9])))
def ZF:Nat->af:=pick [(241,FW)]
def FX:af:=λts=>rb.den ZF rounds [] ts
def ann:=gh.dB dj 232 ⟨[.v false 1,.v false 1],[(false,[.s])]⟩ rb FX [anm] Tryz.func232 (by kernel_rfl) (by kernel_rfl) (by kernel_rfl)
def mr:PL:=
 .ins (.pr (.bin .neq) [.a 0,.a 8])<|
 .ite 16 (
 .ins (.pr (.bz) [.k (.bool false)])<|
 .ret [.a 17]) (
 .ins (.pr (.bin .neq) [.a 1,.a 9])<|
 .ite 17 (
 .ins (.pr (.bz) [.k (.bool false)])<|
 .ret [.a 18]) (
 .ins (.pr (.bin .neq) [.a 2,.a 10])<|
 .ite 18 (
 .ins (.pr (.bz) [.k (.bool false)])<|
 .ret [.a 19]) (
 .ins (.pr (.bin .neq) [.a 3,.a 11])<|
 .ite 19 (
 .ins (.pr (.bz) [.k (.bool false)])<|
 .ret [.a 20]) (
 .ins (.pr (.bin .neq) [.a 4,.a 12])<|
 .ite 20 (
 .ins (.pr (.bz) [.k (.bool false)])<|
 .ret [.a 21]) (
 .ins (.cl 232 [.a 5,.a 13] 1)<|
 .ins (.pr (.un .not) [.a 21])<|
 .ite 22 (
 .ins (.pr (.bz) [.k (.bool false)])<|
 .ret [.a 23]) (
 .ins (.pr (.bin .neq) [.a 6,.a 14])<|
 .ite 23 (
 .ins (.pr (.bz) [.k (.bool false)])<|
 .ret [.a 24]) (
 .ins (.pr (.bb .neq) [.a 7,.a 15])<|
 .ite 24 (
 .ins (.pr (.bz) [.k (.bool false)])<|
 .ret [.a 25]) (
 .ins (.pr (.bz) [.k (.bool true)])<|
 .ret [.a 25]))))))))
def ZG:Nat->af:=pick [(232,FX)]
def FY:af:=λts=>mr.den ZG rounds [] ts
def ano:=gh.dB dj 202 ⟨[.v true 8,.v true 8],[(false,[.s])]⟩ mr FY [ann] Tryz.func202 (by kernel_rfl) (by kernel_rfl) (by kernel_rfl)
def oR:PL:=
 .ins (.pr (.len) [.a 0])<|
 .ins (.pr (.len) [.a 1])<|
 .ins (.pr (.bin .neq) [.a 2,.a 3])<|
 .ite 4 (
 .ins (.pr (.bz) [.k (.bool false)])<|
 .ret [.a 5]) (
 .loop [.k (.bool false),.k (.int .i64 0)] (
 .ins (.pr (.len) [.a 0])<|
 .ins (.pr (.bin .lss) [.a 6,.a 7])<|
 .ite 8 (
 .ins (.pr (.bW) [.a 0,.a 6])<|
 .ins (.pr (.cell 8 0) [.a 0,.a 6])<|
 .ins (.pr (.cell 8 1) [.a 0,.a 6])<|
 .ins (.pr (.cell 8 2) [.a 0,.a 6])<|
 .ins (.pr (.cell 8 3) [.a 0,.a 6])<|
 .ins (.pr (.cell 8 4) [.a 0,.a 6])<|
 .ins (.pr (.cell 8 5) [.a 0,.a 6])<|
 .ins (.pr (.cell 8 6) [.a 0,.a 6])<|
 .ins (.pr (.cell 8 7) [.a 0,.a 6])<|
 .ins (.pr (.bW) [.a 1,.a 6])<|
 .ins (.pr (.cell 8 0) [.a 1,.a 6])<|
 .ins (.pr (.cell 8 1) [.a 1,.a 6])<|
 .ins (.pr (.cell 8 2) [.a 1,.a 6])<|
 .ins (.pr (.cell 8 3) [.a 1,.a 6])<|
 .ins (.pr (.cell 8 4) [.a 1,.a 6])<|
 .ins (.pr (.cell 8 5) [.a 1,.a 6])<|
 .ins (.pr (.cell 8 6) [.a 1,.a 6])<|
 .ins (.pr (.cell 8 7) [.a 1,.a 6])<|
 .ins (.cl 202 [.a 10,.a 11,.a 12,.a 13,.a 14,.a 15,.a 16,.a 17,.a 19,.a 20,.a 21,.a 22,.a 23,.a 24,.a 25,.a 26] 1)<|
 .ins (.pr (.un .not) [.a 27])<|
 .ite 28 (
 .ins (.pr (.bz) [.k (.bool false)])<|
 .ret [.a 29]) (
 .ins (.pr (.bin .add) [.a 6,.k (.int .i64 1)])<|
 .go 0 [.a 5,.a 29])) (
 .ins (.pr (.bz) [.k (.bool true)])<|
 .ret [.a 9])))
def ZH:Nat->af:=pick [(202,FY)]
def Pw:af:=λts=>oR.den ZH rounds [] ts
def ZI:=gh.dB dj 129 ⟨[.v false 1,.v false 1],[(false,[.s])]⟩ oR Pw [ano] Tryz.func129 (by kernel_rfl) (by kernel_rfl) (by kernel_rfl)
def qa:PL:=
 .ins (.pr (.bin .neq) [.a 0,.a 7])<|
 .ite 14 (
 .ins (.pr (.bz) [.k (.bool false)])<|
 .ret [.a 15]) (
 .ins (.pr (.bin .neq) [.a 1,.a 8])<|
 .ite 15 (
 .ins (.pr (.bz) [.k (.bool false)])<|
 .ret [.a 16]) (
 .ins (.cl 48 [.a 2,.a 3,.a 4,.a 9,.a 10,.a 11] 1)<|
 .ins (.pr (.un .not) [.a 16])<|
 .ite 17 (
 .ins (.pr (.bz) [.k (.bool false)])<|
 .ret [.a 18]) (
 .ins (.cl 128 [.a 5,.a 12] 1)<|
 .ins (.pr (.un .not) [.a 18])<|
 .ite 19 (
 .ins (.pr (.bz) [.k (.bool false)])<|
 .ret [.a 20]) (
 .ins (.cl 129 [.a 6,.a 13] 1)<|
 .ins (.pr (.un .not) [.a 20])<|
 .ite 21 (
 .ins (.pr (.bz) [.k (.bool false)])<|
 .ret [.a 22]) (
 .ins (.pr (.bz) [.k (.bool true)])<|
 .ret [.a 22])))))
def FZ:Nat->af:=pick [(48,BR),(128,yP),(129,Pw)]
def BS:af:=λts=>qa.den FZ rounds [] ts
def anp:=gh.dB dj 114 ⟨[.v true 7,.v true 7],[(false,[.s])]⟩ qa BS [ank,ZE,ZI] Tryz.func114 (by kernel_rfl) (by kernel_rfl) (by kernel_rfl)
def sb:PL:=
 .ins (.pr (.bin .neq) [.a 0,.a 4])<|
 .ite 8 (
 .ins (.pr (.bz) [.k (.bool false)])<|
 .ret [.a 9]) (
 .ins (.pr (.bin .neq) [.a 1,.a 5])<|
 .ite 9 (
 .ins (.pr (.bz) [.k (.bool false)])<|
 .ret [.a 10]) (
 .ins (.pr (.bin .neq) [.a 2,.a 6])<|
 .ite 10 (
 .ins (.pr (.bz) [.k (.bool false)])<|
 .ret [.a 11]) (
 .ins (.pr (.bb .neq) [.a 3,.a 7])<|
 .ite 11 (
 .ins (.pr (.bz) [.k (.bool false)])<|
 .ret [.a 12]) (
 .ins (.pr (.bz) [.k (.bool true)])<|
 .ret [.a 12]))))
def anq:Nat->af:=pick []
def F0:af:=λts=>sb.den anq rounds [] ts
def anr:=gh.dB dj 197 ⟨[.v true 4,.v true 4],[(false,[.s])]⟩ sb F0 [] Tryz.func197 (by kernel_rfl) (by kernel_rfl) (by kernel_rfl)
def uk:PL:=
 .ins (.pr (.len) [.a 0])<|
 .ins (.pr (.len) [.a 1])<|
 .ins (.pr (.bin .neq) [.a 2,.a 3])<|
 .ite 4 (
 .ins (.pr (.bz) [.k (.bool false)])<|
 .ret [.a 5]) (
 .loop [.k (.bool false),.k (.int .i64 0)] (
 .ins (.pr (.len) [.a 0])<|
 .ins (.pr (.bin .lss) [.a 6,.a 7])<|
 .ite 8 (
 .ins (.pr (.bW) [.a 0,.a 6])<|
 .ins (.pr (.cell 4 0) [.a 0,.a 6])<|
 .ins (.pr (.cell 4 1) [.a 0,.a 6])<|
 .ins (.pr (.cell 4 2) [.a 0,.a 6])<|
 .ins (.pr (.cell 4 3) [.a 0,.a 6])<|
 .ins (.pr (.bW) [.a 1,.a 6])<|
 .ins (.pr (.cell 4 0) [.a 1,.a 6])<|
 .ins (.pr (.cell 4 1) [.a 1,.a 6])<|
 .ins (.pr (.cell 4 2) [.a 1,.a 6])<|
 .ins (.pr (.cell 4 3) [.a 1,.a 6])<|
 .ins (.cl 197 [.a 10,.a 11,.a 12,.a 13,.a 15,.a 16,.a 17,.a 18] 1)<|
 .ins (.pr (.un .not) [.a 19])<|
 .ite 20 (
 .ins (.pr (.bz) [.k (.bool false)])<|
 .ret [.a 21]) (
 .ins (.pr (.bin .add) [.a 6,.k (.int .i64 1)])<|
 .go 0 [.a 5,.a 21])) (
 .ins (.pr (.bz) [.k (.bool true)])<|
 .ret [.a 9])))
def ZJ:Nat->af:=pick [(197,F0)]
def F1:af:=λts=>uk.den ZJ rounds [] ts
def ans:=gh.dB dj 115 ⟨[.v false 1,.v false 1],[(false,[.s])]⟩ uk F1 [anr] Tryz.func115 (by kernel_rfl) (by kernel_rfl) (by kernel_rfl)
def qb:PL:=
 .ins (.cl 114 [.a 0,.a 1,.a 2,.a 3,.a 4,.a 5,.a 6,.a 8,.a 9,.a 10,.a 11,.a 12,.a 13,.a 14] 1)<|
 .ins (.pr (.un .not) [.a 16])<|
 .ite 17 (
 .ins (.pr (.bz) [.k (.bool false)])<|
 .ret [.a 18]) (
 .ins (.cl 115 [.a 7,.a 15] 1)<|
 .ins (.pr (.un .not) [.a 18])<|
 .ite 19 (
 .ins (.pr (.bz) [.k (.bool false)])<|
 .ret [.a 20]) (
 .ins (.pr (.bz) [.k (.bool true)])<|
 .ret [.a 20]))
def LA:Nat->af:=pick [(114,BS),(115,F1)]
def BT:af:=λts=>qb.den LA rounds [] ts
def ant:=gh.dB dj 33 ⟨[.v true 8,.v true 8],[(false,[.s])]⟩ qb BT [anp,ans] Tryz.func33 (by kernel_rfl) (by kernel_rfl) (by kernel_rfl)
def mu:PL:=
 .ins (.pr (.bin .neq) [.a 0,.a 6])<|
 .ite 12 (
 .ins (.pr (.bz) [.k (.bool false)])<|
 .ret [.a 13]) (
 .ins (.pr (.bin .neq) [.a 1,.a 7])<|
 .ite 13 (
 .ins (.pr (.bz) [.k (.bool false)])<|
 .ret [.a 14]) (
 .ins (.pr (.bin .neq) [.a 2,.a 8])<|
 .ite 14 (
 .ins (.pr (.bz) [.k (.bool false)])<|
 .ret [.a 15]) (
 .ins (.pr (.bin .neq) [.a 3,.a 9])<|
 .ite 15 (
 .ins (.pr (.bz) [.k (.bool false)])<|
 .ret [.a 16]) (
 .ins (.cl 128 [.a 4,.a 10] 1)<|
 .ins (.pr (.un .not) [.a 16])<|
 .ite 17 (
 .ins (.pr (.bz) [.k (.bool false)])<|
 .ret [.a 18]) (
 .ins (.cl 129 [.a 5,.a 11] 1)<|
 .ins (.pr (.un .not) [.a 18])<|
 .ite 19 (
 .ins (.pr (.bz) [.k (.bool false)])<|
 .ret [.a 20]) (
 .ins (.pr (.bz) [.k (.bool true)])<|
 .ret [.a 20]))))))
def LB:Nat->af:=pick [(128,yP),(129,Pw)]
def F2:af:=λts=>mu.den LB rounds [] ts
def anu:=gh.dB dj 41 ⟨[.v true 6,.v true 6],[(false,[.s])]⟩ mu F2 [ZE,ZI] Tryz.func41 (by kernel_rfl) (by kernel_rfl) (by kernel_rfl)
def oS:PL:=
 .ins (.pr (.len) [.a 0])<|
 .ins (.pr (.len) [.a 1])<|
 .ins (.pr (.bin .neq) [.a 2,.a 3])<|
 .ite 4 (
 .ins (.pr (.bz) [.k (.bool false)])<|
 .ret [.a 5]) (
 .loop [.k (.bool false),.k (.int .i64 0)] (
 .ins (.pr (.len) [.a 0])<|
 .ins (.pr (.bin .lss) [.a 6,.a 7])<|
 .ite 8 (
 .ins (.pr (.bW) [.a 0,.a 6])<|
 .ins (.pr (.cell 6 0) [.a 0,.a 6])<|
 .ins (.pr (.cell 6 1) [.a 0,.a 6])<|
 .ins (.pr (.cell 6 2) [.a 0,.a 6])<|
 .ins (.pr (.cell 6 3) [.a 0,.a 6])<|
 .ins (.pr (.cell 6 4) [.a 0,.a 6])<|
 .ins (.pr (.cell 6 5) [.a 0,.a 6])<|
 .ins (.pr (.bW) [.a 1,.a 6])<|
 .ins (.pr (.cell 6 0) [.a 1,.a 6])<|
 .ins (.pr (.cell 6 1) [.a 1,.a 6])<|
 .ins (.pr (.cell 6 2) [.a 1,.a 6])<|
 .ins (.pr (.cell 6 3) [.a 1,.a 6])<|
 .ins (.pr (.cell 6 4) [.a 1,.a 6])<|
 .ins (.pr (.cell 6 5) [.a 1,.a 6])<|
 .ins (.cl 41 [.a 10,.a 11,.a 12,.a 13,.a 14,.a 15,.a 17,.a 18,.a 19,.a 20,.a 21,.a 22] 1)<|
 .ins (.pr (.un .not) [.a 23])<|
 .ite 24 (
 .ins (.pr (.bz) [.k (.bool false)])<|
 .ret [.a 25]) (
 .ins (.pr (.bin .add) [.a 6,.k (.int .i64 1)])<|
 .go 0 [.a 5,.a 25])) (
 .ins (.pr (.bz) [.k (.bool true)])<|
 .ret [.a 9])))
def ZK:Nat->af:=pick [(41,F2)]
def F3:af:=λts=>oS.den ZK rounds [] ts
def anv:=gh.dB dj 34 ⟨[.v false 1,.v false 1],[(false,[.s])]⟩ oS F3 [anu] Tryz.func34 (by kernel_rfl) (by kernel_rfl) (by kernel_rfl)
def oT:PL:=
 .loop [.a 1,.k (.int .i64 0),.k (.int .i64 0)] (
 .ins (.pr (.len) [.a 0])<|
 .ins (.pr (.bin .lss) [.a 4,.a 5])<|
 .ite 6 (
 .ins (.pr (.bW) [.a 0,.a 4])<|
 .ins (.pr (.cell 4 0) [.a 0,.a 4])<|
 .ins (.pr (.bin .neq) [.a 8,.a 2])<|
 .ite 9 (
 .ins (.pr (.bz) [.k (.int .i64 (-1))])<|
 .ret [.a 10]) (
 .ins (.pr (.bin .add) [.a 2,.k (.int .i64 1)])<|
 .ins (.pr (.bW) [.a 0,.a 4])<|
 .ins (.pr (.cell 4 1) [.a 0,.a 4])<|
 .ins (.pr (.bin .neq) [.a 12,.a 10])<|
 .ite 13 (
 .ins (.pr (.bz) [.k (.int .i64 (-1))])<|
 .ret [.a 14]) (
 .ins (.pr (.bin .add) [.a 10,.k (.int .i64 1)])<|
 .ins (.pr (.bW) [.a 0,.a 4])<|
 .ins (.pr (.cell 4 2) [.a 0,.a 4])<|
 .ins (.pr (.bin .neq) [.a 16,.a 14])<|
 .ite 17 (
 .ins (.pr (.bz) [.k (.int .i64 (-1))])<|
 .ret [.a 18]) (
 .ins (.pr (.bin .add) [.a 14,.k (.int .i64 1)])<|
 .ins (.pr (.bW) [.a 0,.a 4])<|
 .ins (.pr (.cell 4 3) [.a 0,.a 4])<|
 .ins (.pr (.bin .neq) [.a 20,.a 18])<|
 .ite 21 (
 .ins (.pr (.bz) [.k (.int .i64 (-1))])<|
 .ret [.a 22]) (
 .ins (.pr (.bin .add) [.a 18,.k (.int .i64 1)])<|
 .ins (.pr (.bin .add) [.a 4,.k (.int .i64 1)])<|
 .go 0 [.a 22,.a 3,.a 23]))))) (
 .ins (.pr (.bz) [.a 2])<|
 .ret [.a 7]))
def ZL:Nat->af:=pick []
def F4:af:=λts=>oT.den ZL rounds [] ts
def anw:=gh.dB dj 210 ⟨[.v false 1,.v false 1],[(false,[.s])]⟩ oT F4 [] Tryz.func210 (by kernel_rfl) (by kernel_rfl) (by kernel_rfl)
def nj:PL:=
 .loop [.a 1,.k (.int .i64 0),.k (.int .i64 0)] (
 .ins (.pr (.len) [.a 0])<|
 .ins (.pr (.bin .lss) [.a 4,.a 5])<|
 .ite 6 (
 .ins (.pr (.bW) [.a 0,.a 4])<|
 .ins (.pr (.cell 4 0) [.a 0,.a 4])<|
 .ins (.pr (.bin .neq) [.a 8,.a 2])<|
 .ite 9 (
 .ins (.pr (.bz) [.k (.int .i64 (-1))])<|
 .ret [.a 10]) (
 .ins (.pr (.bin .add) [.a 2,.k (.int .i64 1)])<|
 .ins (.pr (.bW) [.a 0,.a 4])<|
 .ins (.pr (.cell 4 1) [.a 0,.a 4])<|
 .ins (.pr (.bin .neq) [.a 12,.a 10])<|
 .ite 13 (
 .ins (.pr (.bz) [.k (.int .i64 (-1))])<|
 .ret [.a 14]) (
 .ins (.pr (.bin .add) [.a 10,.k (.int .i64 1)])<|
 .ins (.pr (.bW) [.a 0,.a 4])<|
 .ins (.pr (.cell 4 2) [.a 0,.a 4])<|
 .ins (.pr (.bin .neq) [.a 16,.a 14])<|
 .ite 17 (
 .ins (.pr (.bz) [.k (.int .i64 (-1))])<|
 .ret [.a 18]) (
 .ins (.pr (.bin .add) [.a 14,.k (.int .i64 1)])<|
 .ins (.pr (.bW) [.a 0,.a 4])<|
 .ins (.pr (.cell 4 3) [.a 0,.a 4])<|
 .ins (.pr (.bin .rem) [.a 18,.k (.int .i64 3)])<|
 .ins (.pr (.bin .eql) [.a 21,.k (.int .i64 0)])<|
 .ins (.pr (.bb .neq) [.a 20,.a 22])<|
 .ite 23 (
 .ins (.pr (.bz) [.k (.int .i64 (-1))])<|
 .ret [.a 24]) (
 .ins (.pr (.bin .add) [.a 18,.k (.int .i64 1)])<|
 .ins (.pr (.bin .add) [.a 4,.k (.int .i64 1)])<|
 .go 0 [.a 24,.a 3,.a 25]))))) (
 .ins (.pr (.bz) [.a 2])<|
 .ret [.a 7]))
def ZM:Nat->af:=pick []
def kW_:af:=λts=>nj.den ZM rounds [] ts
def anx:=gh.dB dj 211 ⟨[.v false 1,.v false 1],[(false,[.s])]⟩ nj kW_ [] Tryz.func211 (by kernel_rfl) (by kernel_rfl) (by kernel_rfl)
def nX:PL:=
 .ins (.cl 210 [.a 1,.a 3] 1)<|
 .ins (.pr (.bin .lss) [.a 4,.k (.int .i64 0)])<|
 .ite 5 (
 .ins (.pr (.bz) [.k (.int .i64 (-1))])<|
 .ret [.a 6]) (
 .ins (.cl 211 [.a 2,.a 4] 1)<|
 .ins (.pr (.bin .lss) [.a 6,.k (.int .i64 0)])<|
 .ite 7 (
 .ins (.pr (.bz) [.k (.int .i64 (-1))])<|
 .ret [.a 8]) (
 .ins (.pr (.bz) [.a 6])<|
 .ret [.a 8]))
def LC:Nat->af:=pick [(210,F4),(211,kW_)]
def BU:af:=λts=>nX.den LC rounds [] ts
def anz:=gh.dB dj 145 ⟨[.v true 3,.v false 1],[(false,[.s])]⟩ nX BU [anw,anx] Tryz.func145 (by kernel_rfl) (by kernel_rfl) (by kernel_rfl)
def qc:PL:=
 .loop [.a 1,.k (.int .i64 0),.k (.int .i64 0)] (
 .ins (.pr (.len) [.a 0])<|
 .ins (.pr (.bin .lss) [.a 4,.a 5])<|
 .ite 6 (
 .ins (.pr (.bW) [.a 0,.a 4])<|
 .ins (.pr (.cell 1 0) [.a 0,.a 4])<|
 .ins (.pr (.bin .neq) [.a 8,.a 2])<|
 .ite 9 (
 .ins (.pr (.bz) [.k (.int .i64 (-1))])<|
 .ret [.a 10]) (
 .ins (.pr (.bin .add) [.a 2,.k (.int .i64 1)])<|
 .ins (.pr (.bin .add) [.a 4,.k (.int .i64 1)])<|
 .go 0 [.a 10,.a 3,.a 11])) (
 .ins (.pr (.bz) [.a 2])<|
 .ret [.a 7]))
def ZN:Nat->af:=pick []
def ZO:af:=λts=>qc.den ZN rounds [] ts
def ZP:=gh.dB dj 122 ⟨[.v false 1,.v false 1],[(false,[.s])]⟩ qc ZO [] Tryz.func122 (by kernel_rfl) (by kernel_rfl) (by kernel_rfl)
def oU:PL:=
 .loop [.a 1,.k (.int .i64 0),.k (.int .i64 0)] (
 .ins (.pr (.len) [.a 0])<|
 .ins (.pr (.bin .lss) [.a 4,.a 5])<|
 .ite 6 (
 .ins (.pr (.bW) [.a 0,.a 4])<|
 .ins (.pr (.cell 2 0) [.a 0,.a 4])<|
 .ins (.pr (.bin .neq) [.a 8,.a 2])<|
 .ite 9 (
 .ins (.pr (.bz) [.k (.int .i64 (-1))])<|
 .ret [.a 10]) (
 .ins (.pr (.bin .add) [.a 2,.k (.int .i64 1)])<|
 .ins (.pr (.bW) [.a 0,.a 4])<|
 .ins (.pr (.cell 2 1) [.a 0,.a 4])<|
 .ins (.pr (.bin .neq) [.a 12,.a 10])<|
 .ite 13 (
 .ins (.pr (.bz) [.k (.int .i64 (-1))])<|
 .ret [.a 14]) (
 .ins (.pr (.bin .add) [.a 10,.k (.int .i64 1)])<|
 .ins (.pr (.bin .add) [.a 4,.k (.int .i64 1)])<|
 .go 0 [.a 14,.a 3,.a 15]))) (
 .ins (.pr (.bz) [.a 2])<|
 .ret [.a 7]))
def ZQ:Nat->af:=pick []
def LD:af:=λts=>oU.den ZQ rounds [] ts
def anA:=gh.dB dj 199 ⟨[.v false 1,.v false 1],[(false,[.s])]⟩ oU LD [] Tryz.func199 (by kernel_rfl) (by kernel_rfl) (by kernel_rfl)
def mc:PL:=
 .loop [.a 1,.k (.int .i64 0),.k (.int .i64 0)] (
 .ins (.pr (.len) [.a 0])<|
 .ins (.pr (.bin .lss) [.a 4,.a 5])<|
 .ite 6 (
 .ins (.pr (.bW) [.a 0,.a 4])<|
 .ins (.pr (.cell 8 0) [.a 0,.a 4])<|
 .ins (.pr (.bin .neq) [.a 8,.a 2])<|
 .ite 9 (
 .ins (.pr (.bz) [.k (.int .i64 (-1))])<|
 .ret [.a 10]) (
 .ins (.pr (.bin .add) [.a 2,.k (.int .i64 1)])<|
 .ins (.pr (.bW) [.a 0,.a 4])<|
 .ins (.pr (.cell 8 1) [.a 0,.a 4])<|
 .ins (.pr (.bin .neq) [.a 12,.a 10])<|
 .ite 13 (
 .ins (.pr (.bz) [.k (.int .i64 (-1))])<|
 .ret [.a 14]) (
 .ins (.pr (.bin .add) [.a 10,.k (.int .i64 1)])<|
 .ins (.pr (.bW) [.a 0,.a 4])<|
 .ins (.pr (.cell 8 2) [.a 0,.a 4])<|
 .ins (.pr (.bin .neq) [.a 16,.a 14])<|
 .ite 17 (
 .ins (.pr (.bz) [.k (.int .i64 (-1))])<|
 .ret [.a 18]) (
 .ins (.pr (.bin .add) [.a 14,.k (.int .i64 1)])<|
 .ins (.pr (.bW) [.a 0,.a 4])<|
 .ins (.pr (.cell 8 3) [.a 0,.a 4])<|
 .ins (.pr (.bin .neq) [.a 20,.a 18])<|
 .ite 21 (
 .ins (.pr (.bz) [.k (.int .i64 (-1))])<|
 .ret [.a 22]) (
 .ins (.pr (.bin .add) [.a 18,.k (.int .i64 1)])<|
 .ins (.pr (.bW) [.a 0,.a 4])<|
 .ins (.pr (.cell 8 4) [.a 0,.a 4])<|
 .ins (.pr (.bin .neq) [.a 24,.a 22])<|
 .ite 25 (
 .ins (.pr (.bz) [.k (.int .i64 (-1))])<|
 .ret [.a 26]) (
 .ins (.pr (.bin .add) [.a 22,.k (.int .i64 1)])<|
 .ins (.pr (.bW) [.a 0,.a 4])<|
 .ins (.pr (.cell 8 5) [.a 0,.a 4])<|
 .ins (.cl 199 [.a 28,.a 26] 1)<|
 .ins (.pr (.bin .lss) [.a 29,.k (.int .i64 0)])<|
 .ite 30 (
 .ins (.pr (.bz) [.k (.int .i64 (-1))])<|
 .ret [.a 31]) (
 .ins (.pr (.bW) [.a 0,.a 4])<|
 .ins (.pr (.cell 8 6) [.a 0,.a 4])<|
 .ins (.pr (.bin .neq) [.a 32,.a 29])<|
 .ite 33 (
 .ins (.pr (.bz) [.k (.int .i64 (-1))])<|
 .ret [.a 34]) (
 .ins (.pr (.bin .add) [.a 29,.k (.int .i64 1)])<|
 .ins (.pr (.bW) [.a 0,.a 4])<|
 .ins (.pr (.cell 8 7) [.a 0,.a 4])<|
 .ins (.pr (.bin .rem) [.a 34,.k (.int .i64 3)])<|
 .ins (.pr (.bin .eql) [.a 37,.k (.int .i64 0)])<|
 .ins (.pr (.bb .neq) [.a 36,.a 38])<|
 .ite 39 (
 .ins (.pr (.bz) [.k (.int .i64 (-1))])<|
 .ret [.a 40]) (
 .ins (.pr (.bin .add) [.a 34,.k (.int .i64 1)])<|
 .ins (.pr (.bin .add) [.a 4,.k (.int .i64 1)])<|
 .go 0 [.a 40,.a 3,.a 41]))))))))) (
 .ins (.pr (.bz) [.a 2])<|
 .ret [.a 7]))
def ZR:Nat->af:=pick [(199,LD)]
def ZS:af:=λts=>mc.den ZR rounds [] ts
def ZT:=gh.dB dj 123 ⟨[.v false 1,.v false 1],[(false,[.s])]⟩ mc ZS [anA] Tryz.func123 (by kernel_rfl) (by kernel_rfl) (by kernel_rfl)
def mw:PL:=
 .ins (.cl 145 [.a 2,.a 3,.a 4,.a 7] 1)<|
 .ins (.pr (.bin .lss) [.a 8,.k (.int .i64 0)])<|
 .ite 9 (
 .ins (.pr (.bz) [.k (.int .i64 (-1))])<|
 .ret [.a 10]) (
 .ins (.cl 122 [.a 5,.a 8] 1)<|
 .ins (.pr (.bin .lss) [.a 10,.k (.int .i64 0)])<|
 .ite 11 (
 .ins (.pr (.bz) [.k (.int .i64 (-1))])<|
 .ret [.a 12]) (
 .ins (.cl 123 [.a 6,.a 10] 1)<|
 .ins (.pr (.bin .lss) [.a 12,.k (.int .i64 0)])<|
 .ite 13 (
 .ins (.pr (.bz) [.k (.int .i64 (-1))])<|
 .ret [.a 14]) (
 .ins (.pr (.bz) [.a 12])<|
 .ret [.a 14])))
def F5:Nat->af:=pick [(122,ZO),(123,ZS),(145,BU)]
def ZU:af:=λts=>mw.den F5 rounds [] ts
def anB:=gh.dB dj 120 ⟨[.v true 7,.v false 1],[(false,[.s])]⟩ mw ZU [ZP,ZT,anz] Tryz.func120 (by kernel_rfl) (by kernel_rfl) (by kernel_rfl)
def qd:PL:=
 .loop [.a 1,.k (.int .i64 0),.k (.int .i64 0)] (
 .ins (.pr (.len) [.a 0])<|
 .ins (.pr (.bin .lss) [.a 4,.a 5])<|
 .ite 6 (
 .ins (.pr (.bW) [.a 0,.a 4])<|
 .ins (.pr (.cell 4 0) [.a 0,.a 4])<|
 .ins (.pr (.bin .neq) [.a 8,.a 2])<|
 .ite 9 (
 .ins (.pr (.bz) [.k (.int .i64 (-1))])<|
 .ret [.a 10]) (
 .ins (.pr (.bin .add) [.a 2,.k (.int .i64 1)])<|
 .ins (.pr (.bW) [.a 0,.a 4])<|
 .ins (.pr (.cell 4 1) [.a 0,.a 4])<|
 .ins (.pr (.bin .neq) [.a 12,.a 10])<|
 .ite 13 (
 .ins (.pr (.bz) [.k (.int .i64 (-1))])<|
 .ret [.a 14]) (
 .ins (.pr (.bin .add) [.a 10,.k (.int .i64 1)])<|
 .ins (.pr (.bW) [.a 0,.a 4])<|
 .ins (.pr (.cell 4 2) [.a 0,.a 4])<|
 .ins (.pr (.bin .neq) [.a 16,.a 14])<|
 .ite 17 (
 .ins (.pr (.bz) [.k (.int .i64 (-1))])<|
 .ret [.a 18]) (
 .ins (.pr (.bin .add) [.a 14,.k (.int .i64 1)])<|
 .ins (.pr (.bW) [.a 0,.a 4])<|
 .ins (.pr (.cell 4 3) [.a 0,.a 4])<|
 .ins (.pr (.bin .rem) [.a 18,.k (.int .i64 3)])<|
 .ins (.pr (.bin .eql) [.a 21,.k (.int .i64 0)])<|
 .ins (.pr (.bb .neq) [.a 20,.a 22])<|
 .ite 23 (
 .ins (.pr (.bz) [.k (.int .i64 (-1))])<|
 .ret [.a 24]) (
 .ins (.pr (.bin .add) [.a 18,.k (.int .i64 1)])<|
 .ins (.pr (.bin .add) [.a 4,.k (.int .i64 1)])<|
 .go 0 [.a 24,.a 3,.a 25]))))) (
 .ins (.pr (.bz) [.a 2])<|
 .ret [.a 7]))
def ZV:Nat->af:=pick []
def F6:af:=λts=>qd.den ZV rounds [] ts
def anC:=gh.dB dj 121 ⟨[.v false 1,.v false 1],[(false,[.s])]⟩ qd F6 [] Tryz.func121 (by kernel_rfl) (by kernel_rfl) (by kernel_rfl)
def my:PL:=
 .ins (.cl 120 [.a 0,.a 1,.a 2,.a 3,.a 4,.a 5,.a 6,.a 8] 1)<|
 .ins (.pr (.bin .lss) [.a 9,.k (.int .i64 0)])<|
 .ite 10 (
 .ins (.pr (.bz) [.k (.int .i64 (-1))])<|
 .ret [.a 11]) (
 .ins (.cl 121 [.a 7,.a 9] 1)<|
 .ins (.pr (.bin .lss) [.a 11,.k (.int .i64 0)])<|
 .ite 12 (
 .ins (.pr (.bz) [.k (.int .i64 (-1))])<|
 .ret [.a 13]) (
 .ins (.pr (.bz) [.a 11])<|
 .ret [.a 13]))
def LF:Nat->af:=pick [(120,ZU),(121,F6)]
def Px:af:=λts=>my.den LF rounds [] ts
def anD:=gh.dB dj 37 ⟨[.v true 8,.v false 1],[(false,[.s])]⟩ my Px [anB,anC] Tryz.func37 (by kernel_rfl) (by kernel_rfl) (by kernel_rfl)
def me:PL:=
 .loop [.a 1,.k (.int .i64 0),.k (.int .i64 0)] (
 .ins (.pr (.len) [.a 0])<|
 .ins (.pr (.bin .lss) [.a 4,.a 5])<|
 .ite 6 (
 .ins (.pr (.bW) [.a 0,.a 4])<|
 .ins (.pr (.cell 6 0) [.a 0,.a 4])<|
 .ins (.pr (.bin .neq) [.a 8,.a 2])<|
 .ite 9 (
 .ins (.pr (.bz) [.k (.int .i64 (-1))])<|
 .ret [.a 10]) (
 .ins (.pr (.bin .add) [.a 2,.k (.int .i64 1)])<|
 .ins (.pr (.bW) [.a 0,.a 4])<|
 .ins (.pr (.cell 6 1) [.a 0,.a 4])<|
 .ins (.pr (.bin .neq) [.a 12,.a 10])<|
 .ite 13 (
 .ins (.pr (.bz) [.k (.int .i64 (-1))])<|
 .ret [.a 14]) (
 .ins (.pr (.bin .add) [.a 10,.k (.int .i64 1)])<|
 .ins (.pr (.bW) [.a 0,.a 4])<|
 .ins (.pr (.cell 6 2) [.a 0,.a 4])<|
 .ins (.pr (.bin .neq) [.a 16,.a 14])<|
 .ite 17 (
 .ins (.pr (.bz) [.k (.int .i64 (-1))])<|
 .ret [.a 18]) (
 .ins (.pr (.bin .add) [.a 14,.k (.int .i64 1)])<|
 .ins (.pr (.bW) [.a 0,.a 4])<|
 .ins (.pr (.cell 6 3) [.a 0,.a 4])<|
 .ins (.pr (.bin .neq) [.a 20,.a 18])<|
 .ite 21 (
 .ins (.pr (.bz) [.k (.int .i64 (-1))])<|
 .ret [.a 22]) (
 .ins (.pr (.bin .add) [.a 18,.k (.int .i64 1)])<|
 .ins (.pr (.bW) [.a 0,.a 4])<|
 .ins (.pr (.cell 6 4) [.a 0,.a 4])<|
 .ins (.cl 122 [.a 24,.a 22] 1)<|
 .ins (.pr (.bin .lss) [.a 25,.k (.int .i64 0)])<|
 .ite 26 (
 .ins (.pr (.bz) [.k (.int .i64 (-1))])<|
 .ret [.a 27]) (
 .ins (.pr (.bW) [.a 0,.a 4])<|
 .ins (.pr (.cell 6 5) [.a 0,.a 4])<|
 .ins (.cl 123 [.a 28,.a 25] 1)<|
 .ins (.pr (.bin .lss) [.a 29,.k (.int .i64 0)])<|
 .ite 30 (
 .ins (.pr (.bz) [.k (.int .i64 (-1))])<|
 .ret [.a 31]) (
 .ins (.pr (.bin .add) [.a 4,.k (.int .i64 1)])<|
 .go 0 [.a 29,.a 3,.a 31]))))))) (
 .ins (.pr (.bz) [.a 2])<|
 .ret [.a 7]))
def ZW:Nat->af:=pick [(122,ZO),(123,ZS)]
def jU_:af:=λts=>me.den ZW rounds [] ts
def anE:=gh.dB dj 38 ⟨[.v false 1,.v false 1],[(false,[.s])]⟩ me jU_ [ZP,ZT] Tryz.func38 (by kernel_rfl) (by kernel_rfl) (by kernel_rfl)
def eS:PL:=
 .ins (.cl 30 [.a 0,.a 1,.a 2,.a 3,.a 4,.a 5,.a 6,.a 7,.k (.int .i64 1048576)] 1)<|
 .ins (.pr (.bin .lss) [.a 8,.k (.int .i64 0)])<|
 .ite 9 (
 .ins (.pr (.bz) [.k (.bool true)])<|
 .ret [.a 10]) (
 .ins (.cl 32 [.a 0,.a 1,.a 2,.a 3,.a 4,.a 5,.a 6,.a 7] 8)<|
 .ins (.cl 31 [.a 10,.a 11,.a 12,.a 13,.a 14,.a 15,.a 16,.a 17] 9)<|
 .ins (.cl 32 [.a 0,.a 1,.a 2,.a 3,.a 4,.a 5,.a 6,.a 7] 8)<|
 .ins (.cl 22 [.a 27,.a 28,.a 29,.a 30,.a 31,.a 32,.a 33,.a 34] 9)<|
 .ins (.cl 33 [.a 35,.a 36,.a 37,.a 38,.a 39,.a 40,.a 41,.a 42,.a 18,.a 19,.a 20,.a 21,.a 22,.a 23,.a 24,.a 25] 1)<|
 .ins (.pr (.un .not) [.a 44])<|
 .ite 45 (
 .ins (.pr (.bz) [.k (.bool false)])<|
 .ret [.a 46]) (
 .ins (.cl 34 [.a 43,.a 26] 1)<|
 .ins (.pr (.un .not) [.a 46])<|
 .ite 47 (
 .ins (.pr (.bz) [.k (.bool false)])<|
 .ret [.a 48]) (
 .ins (.cl 32 [.a 0,.a 1,.a 2,.a 3,.a 4,.a 5,.a 6,.a 7] 8)<|
 .ins (.cl 33 [.a 27,.a 28,.a 29,.a 30,.a 31,.a 32,.a 33,.a 34,.a 48,.a 49,.a 50,.a 51,.a 52,.a 53,.a 54,.a 55] 1)<|
 .ins (.pr (.un .not) [.a 56])<|
 .ite 57 (
 .ins (.pr (.bz) [.k (.bool false)])<|
 .ret [.a 58]) (
 .join (
 .loop [.a 58,.k (.int .i64 0),.a 30] (
 .ins (.pr (.len) [.a 61])<|
 .ins (.pr (.bin .lss) [.a 60,.a 62])<|
 .ite 63 (
 .ins (.pr (.bW) [.a 61,.a 60])<|
 .ins (.pr (.put true 4 0 1) [.a 61,.a 60,.a 59])<|
 .ins (.pr (.bin .add) [.a 59,.k (.int .i64 1)])<|
 .ins (.pr (.bW) [.a 65,.a 60])<|
 .ins (.pr (.put true 4 1 1) [.a 65,.a 60,.a 66])<|
 .ins (.pr (.bin .add) [.a 66,.k (.int .i64 1)])<|
 .ins (.pr (.bW) [.a 68,.a 60])<|
 .ins (.pr (.put true 4 2 1) [.a 68,.a 60,.a 69])<|
 .ins (.pr (.bin .add) [.a 69,.k (.int .i64 1)])<|
 .ins (.pr (.bW) [.a 71,.a 60])<|
 .ins (.pr (.put true 4 3 1) [.a 71,.a 60,.a 72])<|
 .ins (.pr (.bin .add) [.a 72,.k (.int .i64 1)])<|
 .ins (.pr (.bin .add) [.a 60,.k (.int .i64 1)])<|
 .go 0 [.a 75,.a 76,.a 74]) (
 .loop [.a 59,.k (.int .i64 0),.a 31] (
 .ins (.pr (.len) [.a 66])<|
 .ins (.pr (.bin .lss) [.a 65,.a 67])<|
 .ite 68 (
 .ins (.pr (.bW) [.a 66,.a 65])<|
 .ins (.pr (.put true 4 0 1) [.a 66,.a 65,.a 64])<|
 .ins (.pr (.bin .add) [.a 64,.k (.int .i64 1)])<|
 .ins (.pr (.bW) [.a 70,.a 65])<|
 .ins (.pr (.put true 4 1 1) [.a 70,.a 65,.a 71])<|
 .ins (.pr (.bin .add) [.a 71,.k (.int .i64 1)])<|
 .ins (.pr (.bW) [.a 73,.a 65])<|
 .ins (.pr (.put true 4 2 1) [.a 73,.a 65,.a 74])<|
 .ins (.pr (.bin .add) [.a 74,.k (.int .i64 1)])<|
 .ins (.pr (.bin .rem) [.a 77,.k (.int .i64 3)])<|
 .ins (.pr (.bin .eql) [.a 78,.k (.int .i64 0)])<|
 .ins (.pr (.bW) [.a 76,.a 65])<|
 .ins (.pr (.put true 4 3 1) [.a 76,.a 65,.a 79])<|
 .ins (.pr (.bin .add) [.a 77,.k (.int .i64 1)])<|
 .ins (.pr (.bin .add) [.a 65,.k (.int .i64 1)])<|
 .go 0 [.a 82,.a 83,.a 81]) (
 .loop [.a 64,.k (.int .i64 0),.a 32] (
 .ins (.pr (.len) [.a 71])<|
 .ins (.pr (.bin .lss) [.a 70,.a 72])<|
 .ite 73 (
 .ins (.pr (.bW) [.a 71,.a 70])<|
 .ins (.pr (.put true 1 0 1) [.a 71,.a 70,.a 69])<|
 .ins (.pr (.bin .add) [.a 69,.k (.int .i64 1)])<|
 .ins (.pr (.bin .add) [.a 70,.k (.int .i64 1)])<|
 .go 0 [.a 76,.a 77,.a 75]) (
 .loop [.a 69,.k (.int .i64 0),.a 33] (
 .ins (.pr (.len) [.a 76])<|
 .ins (.pr (.bin .lss) [.a 75,.a 77])<|
 .ite 78 (
 .ins (.pr (.bW) [.a 76,.a 75])<|
 .ins (.pr (.put true 8 0 1) [.a 76,.a 75,.a 74])<|
 .ins (.pr (.bin .add) [.a 74,.k (.int .i64 1)])<|
 .ins (.pr (.bW) [.a 80,.a 75])<|
 .ins (.pr (.put true 8 1 1) [.a 80,.a 75,.a 81])<|
 .ins (.pr (.bin .add) [.a 81,.k (.int .i64 1)])<|
 .ins (.pr (.bW) [.a 83,.a 75])<|
 .ins (.pr (.put true 8 2 1) [.a 83,.a 75,.a 84])<|
 .ins (.pr (.bin .add) [.a 84,.k (.int .i64 1)])<|
 .ins (.pr (.bW) [.a 86,.a 75])<|
 .ins (.pr (.put true 8 3 1) [.a 86,.a 75,.a 87])<|
 .ins (.pr (.bin .add) [.a 87,.k (.int .i64 1)])<|
 .ins (.pr (.bW) [.a 89,.a 75])<|
 .ins (.pr (.put true 8 4 1) [.a 89,.a 75,.a 90])<|
 .ins (.pr (.bin .add) [.a 90,.k (.int .i64 1)])<|
 .ins (.pr (.bW) [.a 92,.a 75])<|
 .ins (.pr (.dJ 8 5) [.a 92,.a 75])<|
 .loop [.a 93,.k (.int .i64 0),.a 92] (
 .ins (.pr (.dJ 8 5) [.a 98,.a 75])<|
 .ins (.pr (.len) [.a 99])<|
 .ins (.pr (.bin .lss) [.a 97,.a 100])<|
 .ite 101 (
 .ins (.pr (.dJ 8 5) [.a 98,.a 75])<|
 .ins (.pr (.bW) [.a 102,.a 97])<|
 .ins (.pr (.dJ 8 5) [.a 98,.a 75])<|
 .ins (.pr (.put true 2 0 1) [.a 104,.a 97,.a 96])<|
 .ins (.pr (.dJ 8 5) [.a 98,.a 75])<|
 .ins (.pr (.jd 8 5) [.a 98,.a 75,.a 105])<|
 .ins (.pr (.bin .add) [.a 96,.k (.int .i64 1)])<|
 .ins (.pr (.dJ 8 5) [.a 107,.a 75])<|
 .ins (.pr (.bW) [.a 109,.a 97])<|
 .ins (.pr (.dJ 8 5) [.a 107,.a 75])<|
 .ins (.pr (.put true 2 1 1) [.a 111,.a 97,.a 108])<|
 .ins (.pr (.dJ 8 5) [.a 107,.a 75])<|
 .ins (.pr (.jd 8 5) [.a 107,.a 75,.a 112])<|
 .ins (.pr (.bin .add) [.a 108,.k (.int .i64 1)])<|
 .ins (.pr (.bin .add) [.a 97,.k (.int .i64 1)])<|
 .go 0 [.a 115,.a 116,.a 114]) (
 .ins (.pr (.bW) [.a 98,.a 75])<|
 .ins (.pr (.put true 8 6 1) [.a 98,.a 75,.a 96])<|
 .ins (.pr (.bin .add) [.a 96,.k (.int .i64 1)])<|
 .ins (.pr (.bin .rem) [.a 104,.k (.int .i64 3)])<|
 .ins (.pr (.bin .eql) [.a 105,.k (.int .i64 0)])<|
 .ins (.pr (.bW) [.a 103,.a 75])<|
 .ins (.pr (.put true 8 7 1) [.a 103,.a 75,.a 106])<|
 .ins (.pr (.bin .add) [.a 104,.k (.int .i64 1)])<|
 .ins (.pr (.bin .add) [.a 75,.k (.int .i64 1)])<|
 .go 1 [.a 109,.a 110,.a 108]))) (
 .loop [.a 74,.k (.int .i64 0),.a 34] (
 .ins (.pr (.len) [.a 81])<|
 .ins (.pr (.bin .lss) [.a 80,.a 82])<|
 .ite 83 (
 .ins (.pr (.bW) [.a 81,.a 80])<|
 .ins (.pr (.put true 4 0 1) [.a 81,.a 80,.a 79])<|
 .ins (.pr (.bin .add) [.a 79,.k (.int .i64 1)])<|
 .ins (.pr (.bW) [.a 85,.a 80])<|
 .ins (.pr (.put true 4 1 1) [.a 85,.a 80,.a 86])<|
 .ins (.pr (.bin .add) [.a 86,.k (.int .i64 1)])<|
 .ins (.pr (.bW) [.a 88,.a 80])<|
 .ins (.pr (.put true 4 2 1) [.a 88,.a 80,.a 89])<|
 .ins (.pr (.bin .add) [.a 89,.k (.int .i64 1)])<|
 .ins (.pr (.bin .rem) [.a 92,.k (.int .i64 3)])<|
 .ins (.pr (.bin .eql) [.a 93,.k (.int .i64 0)])<|
 .ins (.pr (.bW) [.a 91,.a 80])<|
 .ins (.pr (.put true 4 3 1) [.a 91,.a 80,.a 94])<|
 .ins (.pr (.bin .add) [.a 92,.k (.int .i64 1)])<|
 .ins (.pr (.bin .add) [.a 80,.k (.int .i64 1)])<|
 .go 0 [.a 97,.a 98,.a 96]) (
 .ins (.pr (.bin .lss) [.a 79,.k (.int .i64 0)])<|
 .ite 84 (
 .ins (.pr (.bz) [.k (.bool false)])<|
 .ret [.a 85]) (
 .ins (.cl 33 [.a 35,.a 36,.a 37,.a 38,.a 39,.a 40,.a 41,.a 42,.a 18,.a 19,.a 20,.a 21,.a 22,.a 23,.a 24,.a 25] 1)<|
 .ins (.pr (.un .not) [.a 85])<|
 .ite 86 (
 .ins (.pr (.bz) [.k (.bool false)])<|
 .ret [.a 87]) (
 .ins (.cl 34 [.a 43,.a 26] 1)<|
 .ins (.pr (.un .not) [.a 87])<|
 .ite 88 (
 .ins (.pr (.bz) [.k (.bool false)])<|
 .ret [.a 89]) (
 .join (
 .loop [.a 89,.k (.int .i64 0),.a 38] (
 .ins (.pr (.len) [.a 92])<|
 .ins (.pr (.bin .lss) [.a 91,.a 93])<|
 .ite 94 (
 .ins (.pr (.bW) [.a 92,.a 91])<|
 .ins (.pr (.put true 4 0 1) [.a 92,.a 91,.a 90])<|
 .ins (.pr (.bin .add) [.a 90,.k (.int .i64 1)])<|
 .ins (.pr (.bW) [.a 96,.a 91])<|
 .ins (.pr (.put true 4 1 1) [.a 96,.a 91,.a 97])<|
 .ins (.pr (.bin .add) [.a 97,.k (.int .i64 1)])<|
 .ins (.pr (.bW) [.a 99,.a 91])<|
 .ins (.pr (.put true 4 2 1) [.a 99,.a 91,.a 100])<|
 .ins (.pr (.bin .add) [.a 100,.k (.int .i64 1)])<|
 .ins (.pr (.bW) [.a 102,.a 91])<|
 .ins (.pr (.put true 4 3 1) [.a 102,.a 91,.a 103])<|
 .ins (.pr (.bin .add) [.a 103,.k (.int .i64 1)])<|
 .ins (.pr (.bin .add) [.a 91,.k (.int .i64 1)])<|
 .go 0 [.a 106,.a 107,.a 105]) (
 .loop [.a 90,.k (.int .i64 0),.a 39] (
 .ins (.pr (.len) [.a 97])<|
 .ins (.pr (.bin .lss) [.a 96,.a 98])<|
 .ite 99 (
 .ins (.pr (.bW) [.a 97,.a 96])<|
 .ins (.pr (.put true 4 0 1) [.a 97,.a 96,.a 95])<|
 .ins (.pr (.bin .add) [.a 95,.k (.int .i64 1)])<|
 .ins (.pr (.bW) [.a 101,.a 96])<|
 .ins (.pr (.put true 4 1 1) [.a 101,.a 96,.a 102])<|
 .ins (.pr (.bin .add) [.a 102,.k (.int .i64 1)])<|
 .ins (.pr (.bW) [.a 104,.a 96])<|
 .ins (.pr (.put true 4 2 1) [.a 104,.a 96,.a 105])<|
 .ins (.pr (.bin .add) [.a 105,.k (.int .i64 1)])<|
 .ins (.pr (.bin .rem) [.a 108,.k (.int .i64 3)])<|
 .ins (.pr (.bin .eql) [.a 109,.k (.int .i64 0)])<|
 .ins (.pr (.bW) [.a 107,.a 96])<|
 .ins (.pr (.put true 4 3 1) [.a 107,.a 96,.a 110])<|
 .ins (.pr (.bin .add) [.a 108,.k (.int .i64 1)])<|
 .ins (.pr (.bin .add) [.a 96,.k (.int .i64 1)])<|
 .go 0 [.a 113,.a 114,.a 112]) (
 .loop [.a 95,.k (.int .i64 0),.a 40] (
 .ins (.pr (.len) [.a 102])<|
 .ins (.pr (.bin .lss) [.a 101,.a 103])<|
 .ite 104 (
 .ins (.pr (.bW) [.a 102,.a 101])<|
 .ins (.pr (.put true 1 0 1) [.a 102,.a 101,.a 100])<|
 .ins (.pr (.bin .add) [.a 100,.k (.int .i64 1)])<|
 .ins (.pr (.bin .add) [.a 101,.k (.int .i64 1)])<|
 .go 0 [.a 107,.a 108,.a 106]) (
 .loop [.a 100,.k (.int .i64 0),.a 41] (
 .ins (.pr (.len) [.a 107])<|
 .ins (.pr (.bin .lss) [.a 106,.a 108])<|
 .ite 109 (
 .ins (.pr (.bW) [.a 107,.a 106])<|
 .ins (.pr (.put true 8 0 1) [.a 107,.a 106,.a 105])<|
 .ins (.pr (.bin .add) [.a 105,.k (.int .i64 1)])<|
 .ins (.pr (.bW) [.a 111,.a 106])<|
 .ins (.pr (.put true 8 1 1) [.a 111,.a 106,.a 112])<|
 .ins (.pr (.bin .add) [.a 112,.k (.int .i64 1)])<|
 .ins (.pr (.bW) [.a 114,.a 106])<|
 .ins (.pr (.put true 8 2 1) [.a 114,.a 106,.a 115])<|
 .ins (.pr (.bin .add) [.a 115,.k (.int .i64 1)])<|
 .ins (.pr (.bW) [.a 117,.a 106])<|
 .ins (.pr (.put true 8 3 1) [.a 117,.a 106,.a 118])<|
 .ins (.pr (.bin .add) [.a 118,.k (.int .i64 1)])<|
 .ins (.pr (.bW) [.a 120,.a 106])<|
 .ins (.pr (.put true 8 4 1) [.a 120,.a 106,.a 121])<|
 .ins (.pr (.bin .add) [.a 121,.k (.int .i64 1)])<|
 .ins (.pr (.bW) [.a 123,.a 106])<|
 .ins (.pr (.dJ 8 5) [.a 123,.a 106])<|
 .loop [.a 124,.k (.int .i64 0),.a 123] (
 .ins (.pr (.dJ 8 5) [.a 129,.a 106])<|
 .ins (.pr (.len) [.a 130])<|
 .ins (.pr (.bin .lss) [.a 128,.a 131])<|
 .ite 132 (
 .ins (.pr (.dJ 8 5) [.a 129,.a 106])<|
 .ins (.pr (.bW) [.a 133,.a 128])<|
 .ins (.pr (.dJ 8 5) [.a 129,.a 106])<|
 .ins (.pr (.put true 2 0 1) [.a 135,.a 128,.a 127])<|
 .ins (.pr (.dJ 8 5) [.a 129,.a 106])<|
 .ins (.pr (.jd 8 5) [.a 129,.a 106,.a 136])<|
 .ins (.pr (.bin .add) [.a 127,.k (.int .i64 1)])<|
 .ins (.pr (.dJ 8 5) [.a 138,.a 106])<|
 .ins (.pr (.bW) [.a 140,.a 128])<|
 .ins (.pr (.dJ 8 5) [.a 138,.a 106])<|
 .ins (.pr (.put true 2 1 1) [.a 142,.a 128,.a 139])<|
 .ins (.pr (.dJ 8 5) [.a 138,.a 106])<|
 .ins (.pr (.jd 8 5) [.a 138,.a 106,.a 143])<|
 .ins (.pr (.bin .add) [.a 139,.k (.int .i64 1)])<|
 .ins (.pr (.bin .add) [.a 128,.k (.int .i64 1)])<|
 .go 0 [.a 146,.a 147,.a 145]) (
 .ins (.pr (.bW) [.a 129,.a 106])<|
 .ins (.pr (.put true 8 6 1) [.a 129,.a 106,.a 127])<|
 .ins (.pr (.bin .add) [.a 127,.k (.int .i64 1)])<|
 .ins (.pr (.bin .rem) [.a 135,.k (.int .i64 3)])<|
 .ins (.pr (.bin .eql) [.a 136,.k (.int .i64 0)])<|
 .ins (.pr (.bW) [.a 134,.a 106])<|
 .ins (.pr (.put true 8 7 1) [.a 134,.a 106,.a 137])<|
 .ins (.pr (.bin .add) [.a 135,.k (.int .i64 1)])<|
 .ins (.pr (.bin .add) [.a 106,.k (.int .i64 1)])<|
 .go 1 [.a 140,.a 141,.a 139]))) (
 .loop [.a 105,.k (.int .i64 0),.a 42] (
 .ins (.pr (.len) [.a 112])<|
 .ins (.pr (.bin .lss) [.a 111,.a 113])<|
 .ite 114 (
 .ins (.pr (.bW) [.a 112,.a 111])<|
 .ins (.pr (.put true 4 0 1) [.a 112,.a 111,.a 110])<|
 .ins (.pr (.bin .add) [.a 110,.k (.int .i64 1)])<|
 .ins (.pr (.bW) [.a 116,.a 111])<|
 .ins (.pr (.put true 4 1 1) [.a 116,.a 111,.a 117])<|
 .ins (.pr (.bin .add) [.a 117,.k (.int .i64 1)])<|
 .ins (.pr (.bW) [.a 119,.a 111])<|
 .ins (.pr (.put true 4 2 1) [.a 119,.a 111,.a 120])<|
 .ins (.pr (.bin .add) [.a 120,.k (.int .i64 1)])<|
 .ins (.pr (.bin .rem) [.a 123,.k (.int .i64 3)])<|
 .ins (.pr (.bin .eql) [.a 124,.k (.int .i64 0)])<|
 .ins (.pr (.bW) [.a 122,.a 111])<|
 .ins (.pr (.put true 4 3 1) [.a 122,.a 111,.a 125])<|
 .ins (.pr (.bin .add) [.a 123,.k (.int .i64 1)])<|
 .ins (.pr (.bin .add) [.a 111,.k (.int .i64 1)])<|
 .go 0 [.a 128,.a 129,.a 127]) (
 .loop [.a 110,.k (.int .i64 0),.a 43] (
 .ins (.pr (.len) [.a 117])<|
 .ins (.pr (.bin .lss) [.a 116,.a 118])<|
 .ite 119 (
 .ins (.pr (.bW) [.a 117,.a 116])<|
 .ins (.pr (.put true 6 0 1) [.a 117,.a 116,.a 115])<|
 .ins (.pr (.bin .add) [.a 115,.k (.int .i64 1)])<|
 .ins (.pr (.bW) [.a 121,.a 116])<|
 .ins (.pr (.put true 6 1 1) [.a 121,.a 116,.a 122])<|
 .ins (.pr (.bin .add) [.a 122,.k (.int .i64 1)])<|
 .ins (.pr (.bW) [.a 124,.a 116])<|
 .ins (.pr (.put true 6 2 1) [.a 124,.a 116,.a 125])<|
 .ins (.pr (.bin .add) [.a 125,.k (.int .i64 1)])<|
 .ins (.pr (.bW) [.a 127,.a 116])<|
 .ins (.pr (.put true 6 3 1) [.a 127,.a 116,.a 128])<|
 .ins (.pr (.bin .add) [.a 128,.k (.int .i64 1)])<|
 .ins (.pr (.bW) [.a 130,.a 116])<|
 .ins (.pr (.dJ 6 4) [.a 130,.a 116])<|
 .loop [.a 131,.k (.int .i64 0),.a 130] (
 .ins (.pr (.dJ 6 4) [.a 136,.a 116])<|
 .ins (.pr (.len) [.a 137])<|
 .ins (.pr (.bin .lss) [.a 135,.a 138])<|
 .ite 139 (
 .ins (.pr (.dJ 6 4) [.a 136,.a 116])<|
 .ins (.pr (.bW) [.a 140,.a 135])<|
 .ins (.pr (.dJ 6 4) [.a 136,.a 116])<|
 .ins (.pr (.put true 1 0 1) [.a 142,.a 135,.a 134])<|
 .ins (.pr (.dJ 6 4) [.a 136,.a 116])<|
 .ins (.pr (.jd 6 4) [.a 136,.a 116,.a 143])<|
 .ins (.pr (.bin .add) [.a 134,.k (.int .i64 1)])<|
 .ins (.pr (.bin .add) [.a 135,.k (.int .i64 1)])<|
 .go 0 [.a 146,.a 147,.a 145]) (
 .ins (.pr (.bW) [.a 136,.a 116])<|
 .ins (.pr (.dJ 6 5) [.a 136,.a 116])<|
 .loop [.a 134,.k (.int .i64 0),.a 136] (
 .ins (.pr (.dJ 6 5) [.a 144,.a 116])<|
 .ins (.pr (.len) [.a 145])<|
 .ins (.pr (.bin .lss) [.a 143,.a 146])<|
 .ite 147 (
 .ins (.pr (.dJ 6 5) [.a 144,.a 116])<|
 .ins (.pr (.bW) [.a 148,.a 143])<|
 .ins (.pr (.dJ 6 5) [.a 144,.a 116])<|
 .ins (.pr (.put true 8 0 1) [.a 150,.a 143,.a 142])<|
 .ins (.pr (.dJ 6 5) [.a 144,.a 116])<|
 .ins (.pr (.jd 6 5) [.a 144,.a 116,.a 151])<|
 .ins (.pr (.bin .add) [.a 142,.k (.int .i64 1)])<|
 .ins (.pr (.dJ 6 5) [.a 153,.a 116])<|
 .ins (.pr (.bW) [.a 155,.a 143])<|
 .ins (.pr (.dJ 6 5) [.a 153,.a 116])<|
 .ins (.pr (.put true 8 1 1) [.a 157,.a 143,.a 154])<|
 .ins (.pr (.dJ 6 5) [.a 153,.a 116])<|
 .ins (.pr (.jd 6 5) [.a 153,.a 116,.a 158])<|
 .ins (.pr (.bin .add) [.a 154,.k (.int .i64 1)])<|
 .ins (.pr (.dJ 6 5) [.a 160,.a 116])<|
 .ins (.pr (.bW) [.a 162,.a 143])<|
 .ins (.pr (.dJ 6 5) [.a 160,.a 116])<|
 .ins (.pr (.put true 8 2 1) [.a 164,.a 143,.a 161])<|
 .ins (.pr (.dJ 6 5) [.a 160,.a 116])<|
 .ins (.pr (.jd 6 5) [.a 160,.a 116,.a 165])<|
 .ins (.pr (.bin .add) [.a 161,.k (.int .i64 1)])<|
 .ins (.pr (.dJ 6 5) [.a 167,.a 116])<|
 .ins (.pr (.bW) [.a 169,.a 143])<|
 .ins (.pr (.dJ 6 5) [.a 167,.a 116])<|
 .ins (.pr (.put true 8 3 1) [.a 171,.a 143,.a 168])<|
 .ins (.pr (.dJ 6 5) [.a 167,.a 116])<|
 .ins (.pr (.jd 6 5) [.a 167,.a 116,.a 172])<|
 .ins (.pr (.bin .add) [.a 168,.k (.int .i64 1)])<|
 .ins (.pr (.dJ 6 5) [.a 174,.a 116])<|
 .ins (.pr (.bW) [.a 176,.a 143])<|
 .ins (.pr (.dJ 6 5) [.a 174,.a 116])<|
 .ins (.pr (.put true 8 4 1) [.a 178,.a 143,.a 175])<|
 .ins (.pr (.dJ 6 5) [.a 174,.a 116])<|
 .ins (.pr (.jd 6 5) [.a 174,.a 116,.a 179])<|
 .ins (.pr (.bin .add) [.a 175,.k (.int .i64 1)])<|
 .ins (.pr (.dJ 6 5) [.a 181,.a 116])<|
 .ins (.pr (.bW) [.a 183,.a 143])<|
 .ins (.pr (.dJ 6 5) [.a 181,.a 116])<|
 .ins (.pr (.dJ 8 5) [.a 185,.a 143])<|
 .loop [.a 182,.k (.int .i64 0),.a 181] (
 .ins (.pr (.dJ 6 5) [.a 189,.a 116])<|
 .ins (.pr (.dJ 8 5) [.a 190,.a 143])<|
 .ins (.pr (.len) [.a 191])<|
 .ins (.pr (.bin .lss) [.a 188,.a 192])<|
 .ite 193 (
 .ins (.pr (.dJ 6 5) [.a 189,.a 116])<|
 .ins (.pr (.dJ 8 5) [.a 194,.a 143])<|
 .ins (.pr (.bW) [.a 195,.a 188])<|
 .ins (.pr (.dJ 6 5) [.a 189,.a 116])<|
 .ins (.pr (.dJ 8 5) [.a 197,.a 143])<|
 .ins (.pr (.put true 2 0 1) [.a 198,.a 188,.a 187])<|
 .ins (.pr (.dJ 6 5) [.a 189,.a 116])<|
 .ins (.pr (.dJ 8 5) [.a 200,.a 143])<|
 .ins (.pr (.jd 8 5) [.a 200,.a 143,.a 199])<|
 .ins (.pr (.jd 6 5) [.a 189,.a 116,.a 202])<|
 .ins (.pr (.bin .add) [.a 187,.k (.int .i64 1)])<|
 .ins (.pr (.dJ 6 5) [.a 203,.a 116])<|
 .ins (.pr (.dJ 8 5) [.a 205,.a 143])<|
 .ins (.pr (.bW) [.a 206,.a 188])<|
 .ins (.pr (.dJ 6 5) [.a 203,.a 116])<|
 .ins (.pr (.dJ 8 5) [.a 208,.a 143])<|
 .ins (.pr (.put true 2 1 1) [.a 209,.a 188,.a 204])<|
 .ins (.pr (.dJ 6 5) [.a 203,.a 116])<|
 .ins (.pr (.dJ 8 5) [.a 211,.a 143])<|
 .ins (.pr (.jd 8 5) [.a 211,.a 143,.a 210])<|
 .ins (.pr (.jd 6 5) [.a 203,.a 116,.a 213])<|
 .ins (.pr (.bin .add) [.a 204,.k (.int .i64 1)])<|
 .ins (.pr (.bin .add) [.a 188,.k (.int .i64 1)])<|
 .go 0 [.a 215,.a 216,.a 214]) (
 .ins (.pr (.dJ 6 5) [.a 189,.a 116])<|
 .ins (.pr (.bW) [.a 194,.a 143])<|
 .ins (.pr (.dJ 6 5) [.a 189,.a 116])<|
 .ins (.pr (.put true 8 6 1) [.a 196,.a 143,.a 187])<|
 .ins (.pr (.dJ 6 5) [.a 189,.a 116])<|
 .ins (.pr (.jd 6 5) [.a 189,.a 116,.a 197])<|
 .ins (.pr (.bin .add) [.a 187,.k (.int .i64 1)])<|
 .ins (.pr (.bin .rem) [.a 200,.k (.int .i64 3)])<|
 .ins (.pr (.bin .eql) [.a 201,.k (.int .i64 0)])<|
 .ins (.pr (.dJ 6 5) [.a 199,.a 116])<|
 .ins (.pr (.bW) [.a 203,.a 143])<|
 .ins (.pr (.dJ 6 5) [.a 199,.a 116])<|
 .ins (.pr (.put true 8 7 1) [.a 205,.a 143,.a 202])<|
 .ins (.pr (.dJ 6 5) [.a 199,.a 116])<|
 .ins (.pr (.jd 6 5) [.a 199,.a 116,.a 206])<|
 .ins (.pr (.bin .add) [.a 200,.k (.int .i64 1)])<|
 .ins (.pr (.bin .add) [.a 143,.k (.int .i64 1)])<|
 .go 1 [.a 209,.a 210,.a 208]))) (
 .ins (.pr (.bin .add) [.a 116,.k (.int .i64 1)])<|
 .go 2 [.a 142,.a 148,.a 144]))))) (
 .join (
 .ins (.cl 37 [.a 35,.a 36,.a 37,.a 92,.a 97,.a 102,.a 107,.a 112,.a 120] 1)<|
 .ins (.pr (.bin .lss) [.a 121,.k (.int .i64 0)])<|
 .ite 122 (
 .ins (.pr (.bz) [.k (.bool false)])<|
 .ret [.a 123]) (
 .ins (.cl 38 [.a 117,.a 121] 1)<|
 .ins (.pr (.bin .lss) [.a 123,.k (.int .i64 0)])<|
 .ite 124 (
 .ins (.pr (.bz) [.k (.bool false)])<|
 .ret [.a 125]) (
 .ins (.pr (.bin .neq) [.a 123,.a 115])<|
 .ite 125 (
 .ins (.pr (.bz) [.k (.bool false)])<|
 .ret [.a 126]) (
 .ins (.cl 32 [.a 0,.a 1,.a 2,.a 3,.a 4,.a 5,.a 6,.a 7] 8)<|
 .ins (.cl 22 [.a 126,.a 127,.a 128,.a 129,.a 130,.a 131,.a 132,.a 133] 9)<|
 .ins (.cl 33 [.a 134,.a 135,.a 136,.a 137,.a 138,.a 139,.a 140,.a 141,.a 18,.a 19,.a 20,.a 21,.a 22,.a 23,.a 24,.a 25] 1)<|
 .ins (.pr (.un .not) [.a 143])<|
 .ite 144 (
 .ins (.pr (.bz) [.k (.bool false)])<|
 .ret [.a 145]) (
 .ins (.cl 34 [.a 142,.a 26] 1)<|
 .ins (.pr (.un .not) [.a 145])<|
 .ite 146 (
 .ins (.pr (.bz) [.k (.bool false)])<|
 .ret [.a 147]) (
 .join (
 .ins (.cl 37 [.a 35,.a 36,.a 37,.a 92,.a 97,.a 102,.a 107,.a 112,.a 147] 1)<|
 .ins (.pr (.bin .lss) [.a 148,.k (.int .i64 0)])<|
 .ite 149 (
 .ins (.pr (.bz) [.k (.bool false)])<|
 .ret [.a 150]) (
 .ins (.cl 38 [.a 117,.a 148] 1)<|
 .ins (.pr (.bin .lss) [.a 150,.k (.int .i64 0)])<|
 .ite 151 (
 .ins (.pr (.bz) [.k (.bool false)])<|
 .ret [.a 152]) (
 .ins (.pr (.bin .neq) [.a 150,.a 115])<|
 .ite 152 (
 .ins (.pr (.bz) [.k (.bool false)])<|
 .ret [.a 153]) (
 .ins (.pr (.bz) [.k (.bool true)])<|
 .ret [.a 153])))) (
 .go 0 [.k (.int .i64 1)]))))))) (
 .go 0 [.k (.int .i64 1)])))))))))))))) (
 .go 0 [.k (.int .i64 1)]))))))))))))))) (
 .go 0 [.k (.int .i64 1)])))))
def F7:Nat->af:=pick [(22,ZA),(30,K3),(31,Xd),(32,Bu),(33,BT),(34,F3),(37,Px),(38,jU_)]
def ZX:af:=λts=>eS.den F7 rounds [] ts
def jq:=gh.dB dj 6 ⟨[.v true 8],[(false,[.s])]⟩ eS ZX [anc,alW,amJ,amc,ant,anv,anD,anE] Tryz.func6 (by kernel_rfl) (by kernel_rfl) (by kernel_rfl)
end
end Go.Proofs.YtjimmglpkndemaaGreatC

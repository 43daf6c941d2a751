/- The walk: each function does as its plain program says (printed by a program). Conditions: none. -/
import Derived.Test.YtjimmglpkndemaaGreatChecked
import Derived.Test.YtjimmglpkndemaaGreatKe
import Derived.Test.YtjimmglpkndemaaGreatXPE
namespace Go.Proofs.YtjimmglpkndemaaGreatWE
open Go.Proofs.YtjimmglpkndemaaGreatC
theorem fc{α:Type}{p:α->Prop}{a:α}{l:List α}(h:p a∧∀x∈l,p x):∀x∈a::l,p x:=List.forall_mem_cons.2 h
theorem f0{α:Type}{p:α->Prop}:∀x∈([]:List α),p x:=λ_ h=>nomatch h
def lty:List (Nat×TI):=[
 (3,⟨1,8,false,[.p (.k (.int .i64 0))],0,[],1⟩),
 (4,⟨1,1,false,[.p (.k (.bool false))],0,[],4⟩),
 (5,⟨1,1,false,[.p (.k (.int .u8 0))],0,[],1⟩),
 (22,⟨1,24,false,[.n],5,[],3⟩),
 (24,⟨1,24,false,[.n],185,[],3⟩),
 (25,⟨1,24,false,[.n],122,[],3⟩),
 (27,⟨3,56,true,[.p (.k (.int .i64 0)),.n,.n],0,[(0,1),(1,1),(2,1)],0⟩),
 (28,⟨1,24,false,[.n],3,[],3⟩),
 (29,⟨1,24,false,[.n],39,[],3⟩),
 (31,⟨7,120,true,[.p (.k (.int .i64 0)),.p (.k (.int .i64 0)),.p (.k (.int .i64 0)),.n,.n,.n,.n],0,[(0,1),(1,1),(2,3),(5,1),(6,1)],0⟩),
 (37,⟨1,24,false,[.n],117,[],3⟩),
 (39,⟨8,80,true,[.p (.k (.int .i64 0)),.p (.k (.int .i64 0)),.p (.k (.int .i64 0)),.p (.k (.int .i64 0)),.p (.k (.int .i64 0)),.n,.p (.k (.int .i64 0)),.p (.k (.bool false))],0,[(0,1),(1,1),(2,1),(3,1),(4,1),(5,1),(6,1),(7,1)],0⟩),
 (46,⟨1,24,false,[.n],58,[],3⟩),
 (48,⟨8,144,true,[.p (.k (.int .i64 0)),.p (.k (.int .i64 0)),.p (.k (.int .i64 0)),.n,.n,.n,.n,.n],0,[(0,7),(7,1)],0⟩),
 (50,⟨6,80,true,[.p (.k (.int .i64 0)),.p (.k (.int .i64 0)),.p (.k (.int .i64 0)),.p (.k (.int .i64 0)),.n,.n],0,[(0,1),(1,1),(2,1),(3,1),(4,1),(5,1)],0⟩),
 (53,⟨1,24,false,[.n],50,[],3⟩),
 (58,⟨4,32,true,[.p (.k (.int .i64 0)),.p (.k (.int .i64 0)),.p (.k (.int .i64 0)),.p (.k (.bool false))],0,[(0,1),(1,1),(2,1),(3,1)],5⟩),
 (59,⟨1,24,false,[.n],62,[],3⟩),
 (62,⟨6,64,true,[.p (.k (.bool false)),.p (.k (.int .i64 0)),.p (.k (.int .i64 0)),.p (.k (.int .i64 0)),.p (.k (.int .i64 0)),.n],0,[(0,1),(1,1),(2,1),(3,1),(4,1),(5,1)],0⟩),
 (93,⟨1,24,false,[.n],4,[],3⟩),
 (117,⟨2,16,true,[.p (.k (.int .i64 0)),.p (.k (.int .i64 0))],0,[(0,1),(1,1)],5⟩),
 (122,⟨4,32,true,[.p (.k (.int .i64 0)),.p (.k (.int .i64 0)),.p (.k (.int .i64 0)),.p (.k (.bool false))],0,[(0,1),(1,1),(2,1),(3,1)],5⟩),
 (181,⟨3,40,true,[.n,.p (.k (.int .i64 0)),.p (.k (.int .i64 0))],0,[(0,1),(1,1),(2,1)],0⟩),
 (185,⟨4,32,true,[.p (.k (.int .i64 0)),.p (.k (.int .i64 0)),.p (.k (.int .i64 0)),.p (.k (.int .i64 0))],0,[(0,1),(1,1),(2,1),(3,1)],5⟩),
 (190,⟨1,24,false,[.n],193,[],3⟩),
 (193,⟨3,40,true,[.p (.k (.int .i64 0)),.p (.k (.int .i64 0)),.n],0,[(0,1),(1,1),(2,1)],0⟩),
 (236,⟨1,24,false,[.n],28,[],3⟩),
 (238,⟨1,24,false,[.n],190,[],3⟩)]
def aiD:List ((Nat×Nat×Nat)×Js):=[
 ((53,0,0),[(3,false,.aI false [.p]),(4,false,.aI false [.p])]),
 ((215,2,34),[(0,true,.aI true [.k,.p,.k]),(3,false,.aI false [.p])]),
 ((213,0,0),[(5,false,.aI false [.o true]),(6,false,.aI false [.p])]),
 ((213,0,2),[(5,false,.aI false [.o true]),(7,false,.aI false [.p])]),
 ((213,2,20),[(5,false,.aI false [.o true])]),
 ((213,2,43),[(5,false,.aI false [.o true])]),
 ((214,0,0),[(5,false,.aI false [.o true]),(6,false,.aI false [.p])]),
 ((214,0,2),[(5,false,.aI false [.o true]),(7,false,.aI false [.p])]),
 ((214,2,20),[(5,false,.aI false [.o true])]),
 ((214,2,43),[(5,false,.aI false [.o true])]),
 ((148,0,0),[(4,false,.aI false [.p]),(0,true,.aI true [.p,.p,.p]),(3,true,.aI true [.k,.o true,.k])]),
 ((148,0,2),[(8,false,.aI false [.p]),(0,true,.aI true [.p,.p,.p]),(3,true,.aI true [.k,.k,.o true])]),
 ((148,2,36),[(5,false,.aI false [.p]),(6,false,.aI false [.p])]),
 ((148,2,43),[(6,false,.aI false [.p])]),
 ((148,2,51),[(5,false,.aI false [.p]),(6,false,.aI false [.p])]),
 ((148,2,66),[(3,true,.aI true [.k,.o true,.k])]),
 ((150,0,0),[(8,false,.aI false [.p]),(9,false,.aI false [.p])]),
 ((132,0,0),[(2,false,.aI false [.p]),(3,false,.aI false [.p])]),
 ((132,0,2),[(2,false,.aI false [.p]),(4,false,.aI false [.p])]),
 ((78,0,0),[(7,false,.aI false [.o true]),(8,false,.aI false [.p])]),
 ((78,2,19),[(7,false,.aI false [.o true])]),
 ((20,0,0),[(5,false,.aI false [.o true]),(6,false,.aI false [.p])]),
 ((20,2,17),[(5,false,.aI false [.o true])]),
 ((216,0,0),[(10,false,.aI false [.p]),(11,false,.aI false [.p])]),
 ((62,0,0),[(5,false,.aI false [.o false]),(6,false,.aI false [.p])]),
 ((62,0,2),[(5,false,.aI false [.o false]),(7,false,.aI false [.p])]),
 ((62,2,20),[(5,false,.aI false [.o false])]),
 ((62,2,43),[(5,false,.aI false [.o false])]),
 ((229,0,0),[(2,false,.aI false [.p]),(3,false,.aI false [.p])]),
 ((106,0,0),[(2,false,.aI false [.p]),(3,false,.aI false [.p])]),
 ((63,0,0),[(4,false,.aI false [.p]),(5,false,.aI false [.p])]),
 ((242,0,0),[(8,false,.aI false [.p]),(11,false,.aI false [.p])]),
 ((234,0,0),[(6,false,.aI false [.p]),(10,false,.rows [(0,true)])]),
 ((234,0,2),[(9,false,.aI false [.p]),(10,false,.rows [(0,true)])]),
 ((234,2,48),[(10,false,.rows [(0,true)])]),
 ((100,0,0),[(4,false,.aI false [.p]),(5,false,.aI false [.p])]),
 ((235,0,0),[(5,false,.aI false [.o true]),(6,false,.aI false [.p])]),
 ((235,2,19),[(5,false,.aI false [.o true])]),
 ((218,0,0),[(14,false,.aI false [.p]),(47,false,.rows [(0,true)])]),
 ((218,0,2),[(15,false,.aI false [.p]),(48,false,.rows [(0,false)]),(49,false,.rows [(0,true)]),(47,false,.rows [(0,true)])]),
 ((218,0,4),[(16,false,.aI false [.p]),(17,false,.aI false [.p])]),
 ((218,0,6),[(18,false,.aI false [.p]),(48,false,.rows [(0,false)]),(47,false,.rows [(0,true)])]),
 ((218,0,8),[(7,false,.aI false [.o true]),(22,false,.aI false [.p])]),
 ((218,2,126),[(20,false,.aI false [.p])]),
 ((218,2,147),[(48,false,.rows [(0,false)]),(47,false,.rows [(0,true)])]),
 ((218,2,163),[(48,false,.rows [(0,false)])]),
 ((218,2,180),[(7,false,.aI false [.o true])]),
 ((218,2,94),[(16,false,.aI false [.p])]),
 ((221,0,0),[(5,false,.aI false [.p]),(6,false,.aI false [.p])]),
 ((219,0,0),[(8,false,.aI false [.o false]),(9,false,.aI false [.p])]),
 ((219,0,2),[(7,false,.aI false [.o false]),(10,false,.aI false [.p])]),
 ((219,0,4),[(12,false,.aI false [.p]),(13,false,.aI false [.p]),(11,true,.aI true [.p,.p,.p])]),
 ((219,2,56),[(14,true,.aI true [.p,.p,.p])]),
 ((219,2,61),[(7,false,.aI false [.o false])]),
 ((237,0,0),[(6,false,.aI false [.p]),(16,false,.aI false [.p]),(12,true,.aI true [.p,.p,.p])]),
 ((237,2,81),[(18,true,.aI true [.p,.p,.p])]),
 ((220,0,0),[(11,false,.aI false [.o false]),(12,false,.aI false [.p])]),
 ((220,0,2),[(9,false,.aI false [.o false]),(13,false,.aI false [.p])]),
 ((220,0,4),[(17,false,.aI false [.p]),(18,false,.aI false [.p]),(16,true,.aI true [.p,.p,.p])]),
 ((220,2,88),[(9,false,.aI false [.o false])]),
 ((167,0,0),[(10,false,.aI false [.o true]),(11,false,.aI false [.p])]),
 ((167,0,2),[(9,false,.aI false [.o true]),(15,false,.aI false [.p])]),
 ((167,2,37),[(10,false,.aI false [.o true])]),
 ((167,2,84),[(18,true,.aI true [.p,.p,.p]),(19,false,.aI false [.p])]),
 ((167,2,91),[(9,false,.aI false [.o true])]),
 ((67,0,0),[(5,false,.aI false [.p]),(6,false,.aI false [.p])]),
 ((67,2,21),[(7,true,.aI true [.k,.k,.k,.k,.p,.k,.k,.k])]),
 ((217,0,0),[(7,false,.aI false [.o false]),(8,false,.aI false [.p])]),
 ((217,0,2),[(9,false,.aI false [.o false]),(10,false,.aI false [.p])]),
 ((217,2,49),[(9,false,.aI false [.o false])]),
 ((66,0,0),[(3,false,.aI false [.o true]),(4,false,.aI false [.p])]),
 ((152,0,0),[(8,false,.aI false [.p]),(9,false,.aI false [.p])]),
 ((152,0,10),[(8,false,.aI false [.p]),(18,false,.aI false [.p])]),
 ((152,0,2),[(8,false,.aI false [.p]),(11,false,.aI false [.p])]),
 ((152,0,4),[(13,false,.aI false [.p]),(12,true,.aI true [.k,.k,.k,.k,.k,.o true,.k,.k])]),
 ((152,0,6),[(8,false,.aI false [.p]),(15,false,.aI false [.p])]),
 ((152,0,8),[(8,false,.aI false [.p]),(17,false,.aI false [.p])]),
 ((152,2,119),[(8,false,.aI false [.p])]),
 ((152,2,150),[(8,false,.aI false [.p])]),
 ((152,2,90),[(12,true,.aI true [.k,.k,.k,.k,.k,.o true,.k,.k])]),
 ((155,0,1),[(4,false,.aI false [.p]),(0,true,.aI true [.p,.p,.p]),(3,true,.aI true [.k,.k,.k,.k,.k,.o true,.k,.k])]),
 ((155,2,19),[(0,true,.aI true [.p,.p,.p]),(3,true,.aI true [.p,.k,.k,.p,.k,.o true,.p,.p])]),
 ((155,2,32),[(0,true,.aI true [.p,.p,.p]),(3,true,.aI true [.k,.k,.k,.k,.k,.o true,.k,.k])]),
 ((155,2,43),[(0,true,.aI true [.p,.p,.p]),(3,true,.aI true [.p,.k,.k,.p,.k,.k,.p,.p])]),
 ((155,2,53),[(0,true,.aI true [.p,.p,.p]),(3,true,.aI true [.p,.k,.k,.p,.k,.k,.p,.p])]),
 ((153,0,0),[(3,false,.aI false [.p]),(4,false,.aI false [.p]),(0,true,.aI true [.p,.p,.p])]),
 ((52,0,0),[(4,false,.aI false [.p]),(0,true,.aI true [.p,.p,.p]),(3,true,.aI true [.k,.k,.k,.k,.k,.o true,.k])]),
 ((52,0,2),[(5,false,.aI false [.p]),(0,true,.aI true [.p,.p,.p]),(3,true,.aI true [.k,.k,.k,.k,.k,.o true,.k])]),
 ((52,0,4),[(8,false,.aI false [.p]),(0,true,.aI true [.p,.p,.p]),(60,false,.rows [(0,true)])]),
 ((52,0,6),[(9,false,.aI false [.p]),(0,true,.aI true [.p,.p,.p]),(64,false,.rows [(0,true)])]),
 ((52,0,8),[(12,false,.aI false [.p]),(3,true,.aI true [.k,.k,.k,.k,.k,.k,.p]),(0,true,.aI true [.p,.p,.p])]),
 ((52,2,100),[(3,true,.aI true [.k,.k,.k,.k,.k,.k,.p]),(0,true,.aI true [.p,.p,.p])]),
 ((52,2,48),[(3,true,.aI true [.k,.k,.k,.k,.k,.o true,.k])]),
 ((164,0,0),[(2,false,.aI false [.p]),(3,false,.aI false [.p])]),
 ((165,0,0),[(6,false,.aI false [.p]),(5,true,.aI true [.k,.k,.k,.k,.k,.o true,.k,.k])]),
 ((165,2,25),[(5,true,.aI true [.k,.k,.k,.k,.k,.o true,.k,.k])]),
 ((60,0,0),[(5,false,.aI false [.o false]),(6,false,.aI false [.p])]),
 ((60,0,2),[(7,false,.aI false [.o false]),(9,false,.aI false [.p])]),
 ((60,0,4),[(7,false,.aI false [.o false]),(10,false,.aI false [.p])]),
 ((60,0,6),[(3,false,.aI false [.p]),(12,false,.aI false [.p])]),
 ((60,2,46),[(7,false,.aI false [.o false]),(5,false,.aI false [.p]),(40,false,.aI false [.p]),(41,false,.aI false [.d])]),
 ((60,2,86),[(7,false,.aI false [.o false])]),
 ((19,0,0),[(4,false,.aI false [.p]),(5,false,.aI false [.p])]),
 ((12,0,0),[(5,false,.aI false [.p]),(6,false,.aI false [.p])]),
 ((12,0,2),[(5,false,.aI false [.p]),(10,false,.aI false [.p])]),
 ((12,0,4),[(3,false,.aI false [.o true]),(13,false,.aI false [.p])]),
 ((133,0,0),[(9,false,.aI false [.p]),(8,true,.aI true [.k,.k,.k,.k,.k,.k,.k,.o true])]),
 ((133,0,2),[(10,false,.aI false [.p]),(8,true,.aI true [.k,.k,.k,.k,.k,.k,.k,.o true])]),
 ((133,2,38),[(8,true,.aI true [.k,.k,.k,.k,.k,.k,.k,.o true])]),
 ((101,0,0),[(3,false,.aI false [.o true]),(4,false,.aI false [.p])]),
 ((101,2,16),[(3,false,.aI false [.o true])]),
 ((79,0,0),[(6,false,.aI false [.p]),(0,true,.aI true [.p,.p,.p]),(17,false,.rows [(7,true)])]),
 ((79,2,61),[(4,true,.aI true [.p,.p,.p,.o true,.o true,.p,.p,.k])]),
 ((184,0,0),[(5,false,.aI false [.o true]),(6,false,.aI false [.p])]),
 ((184,2,28),[(5,false,.aI false [.o true])]),
 ((107,2,8),[(1,true,.aI true [.k,.k,.k,.k,.k,.k,.p,.k])]),
 ((185,0,0),[(6,false,.aI false [.p]),(9,false,.rows [(0,false)])]),
 ((182,0,0),[(4,false,.aI false [.p]),(0,true,.aI true [.p,.p,.p]),(3,true,.aI true [.k,.k,.k,.k,.o true,.k])]),
 ((182,2,28),[(3,true,.aI true [.k,.k,.k,.k,.o true,.k])]),
 ((182,2,45),[(3,true,.aI true [.k,.k,.k,.k,.k,.p])]),
 ((226,2,14),[(0,true,.aI true [.p,.p,.p]),(3,true,.aI true [.k,.p,.p,.p,.p,.o false,.p,.p]),(5,false,.aI true [.k,.k,.k,.k,.k,.d,.k,.k])]),
 ((226,2,20),[(0,true,.aI true [.p,.p,.p]),(3,true,.aI true [.k,.k,.p,.p,.p,.o false,.p,.p]),(5,false,.aI true [.k,.k,.k,.k,.k,.d,.k,.k])]),
 ((226,2,26),[(0,true,.aI true [.p,.p,.p]),(3,true,.aI true [.k,.k,.k,.p,.p,.o false,.p,.p]),(5,false,.aI true [.k,.k,.k,.k,.k,.d,.k,.k])]),
 ((226,2,32),[(0,true,.aI true [.p,.p,.p]),(3,true,.aI true [.k,.k,.k,.k,.p,.o false,.p,.p]),(5,false,.aI true [.k,.k,.k,.k,.k,.d,.k,.k])]),
 ((226,2,38),[(0,true,.aI true [.p,.p,.p]),(3,true,.aI true [.k,.k,.k,.k,.k,.o false,.p,.p]),(5,false,.aI true [.k,.k,.k,.k,.k,.d,.k,.k])]),
 ((226,2,51),[(0,true,.aI true [.p,.p,.p]),(3,true,.aI true [.k,.k,.k,.k,.k,.k,.p,.p])]),
 ((226,2,57),[(3,true,.aI true [.k,.k,.k,.k,.k,.k,.k,.p])]),
 ((226,2,8),[(0,true,.aI true [.p,.p,.p]),(3,true,.aI true [.p,.p,.p,.p,.p,.o false,.p,.p]),(5,false,.aI true [.k,.k,.k,.k,.k,.d,.k,.k])]),
 ((183,2,15),[(0,true,.aI true [.p,.p,.p]),(3,true,.aI true [.k,.p,.k,.p,.o true,.o false]),(6,false,.aI true [.k,.k,.k,.k,.d,.d])]),
 ((183,2,23),[(0,true,.aI true [.p,.p,.p]),(3,true,.aI true [.k,.k,.k,.p,.o true,.o false]),(6,false,.aI true [.k,.k,.k,.k,.d,.d])]),
 ((183,2,29),[(0,true,.aI true [.p,.p,.p]),(3,true,.aI true [.k,.k,.k,.k,.o true,.o false]),(6,false,.aI true [.k,.k,.k,.k,.d,.d])]),
 ((183,2,38),[(0,true,.aI true [.p,.p,.p]),(3,true,.aI true [.k,.k,.k,.k,.k,.o false]),(6,false,.aI true [.k,.k,.k,.k,.k,.d])]),
 ((183,2,9),[(0,true,.aI true [.p,.p,.p]),(3,true,.aI true [.p,.p,.k,.p,.o true,.o false]),(6,false,.aI true [.k,.k,.k,.k,.d,.d])]),
 ((80,0,0),[(8,false,.aI false [.p]),(0,true,.aI true [.p,.p,.p]),(7,false,.rows [(0,true)])]),
 ((80,2,44),[(0,true,.aI true [.p,.p,.p]),(7,false,.aI false [.p])]),
 ((80,2,76),[(0,true,.aI true [.p,.p,.p]),(7,false,.rows [(0,true)])]),
 ((80,2,85),[(5,true,.aI true [.k,.k,.k,.k,.k,.p])]),
 ((80,2,92),[(5,true,.aI true [.k,.k,.k,.k,.k,.p])]),
 ((56,0,0),[(3,false,.aI false [.o true]),(8,false,.aI false [.p])]),
 ((68,0,0),[(2,false,.aI false [.p]),(26,false,.aI false [.p])]),
 ((68,0,2),[(2,false,.aI false [.p]),(55,false,.aI false [.p])]),
 ((172,0,0),[(8,false,.aI false [.p]),(14,false,.aI false [.p])]),
 ((70,0,0),[(2,false,.aI false [.p]),(3,false,.aI false [.p])]),
 ((222,0,0),[(2,false,.aI false [.p]),(8,false,.aI false [.p])]),
 ((71,0,0),[(2,false,.aI false [.p]),(7,false,.aI false [.p])]),
 ((87,0,0),[(5,false,.aI false [.o true]),(6,false,.aI false [.p])]),
 ((87,0,2),[(5,false,.aI false [.o true]),(7,false,.aI false [.p])]),
 ((87,2,23),[(5,false,.aI false [.o true])]),
 ((82,0,0),[(3,false,.aI false [.o true]),(8,false,.aI false [.p])]),
 ((82,2,13),[(3,false,.aI false [.o true])]),
 ((88,0,0),[(4,false,.aI false [.p]),(13,false,.aI false [.p])]),
 ((23,0,0),[(2,false,.aI false [.p]),(26,false,.aI false [.p])]),
 ((84,0,0),[(5,false,.aI false [.p])]),
 ((84,4,6),[(0,false,.rows [(0,true)])]),
 ((74,0,0),[(5,false,.aI false [.o true]),(11,false,.aI false [.p])]),
 ((74,2,24),[(5,false,.aI false [.o true])]),
 ((73,0,0),[(3,false,.aI false [.o true]),(14,false,.aI false [.p])]),
 ((73,0,2),[(7,false,.aI false [.p]),(6,true,.aI true [.k,.k,.k,.k,.k,.o true,.k,.k])]),
 ((73,2,36),[(6,true,.aI true [.k,.k,.k,.k,.k,.o true,.k,.k])]),
 ((57,0,0),[(5,false,.aI false [.p])]),
 ((57,2,40),[(5,false,.aI false [.p])]),
 ((175,0,0),[(4,false,.aI false [.p]),(9,false,.aI false [.p])]),
 ((76,0,0),[(7,false,.aI false [.o false]),(14,false,.aI false [.p])]),
 ((76,0,2),[(7,false,.aI false [.o false]),(34,false,.aI false [.p])]),
 ((76,2,26),[(7,false,.aI false [.o false])]),
 ((157,0,0),[(4,false,.aI false [.p]),(9,false,.aI false [.p])]),
 ((244,0,0),[(8,false,.aI false [.p]),(25,false,.aI false [.p])]),
 ((227,0,1),[(34,false,.aI false [.p]),(5,true,.aI true [.k,.k,.o true])]),
 ((227,0,3),[(47,false,.aI false [.p]),(5,true,.aI true [.k,.k,.o true])]),
 ((223,0,0),[(10,false,.aI false [.p]),(3,false,.rows [(0,true)])]),
 ((223,2,47),[(12,true,.aI true [.k,.k,.o true])]),
 ((223,2,55),[(3,false,.rows [(0,true)]),(12,true,.aI true [.k,.k,.d])]),
 ((223,2,70),[(3,false,.rows [(0,true)])]),
 ((176,0,0),[(8,false,.aI false [.o true]),(30,false,.rows [(0,true)])]),
 ((176,0,2),[(9,false,.aI false [.p]),(10,false,.aI false [.p])]),
 ((176,0,4),[(11,false,.aI false [.o true]),(84,false,.aI false [.p]),(30,false,.rows [(0,true)])]),
 ((176,2,68),[(9,false,.aI false [.p])]),
 ((176,2,90),[(11,false,.aI false [.o true]),(87,false,.aI true [.k,.k,.d]),(13,true,.aI true [.k,.k,.d])]),
 ((176,5,16),[(7,false,.rows [(0,true)])]),
 ((178,0,0),[(5,false,.aI false [.p]),(10,false,.aI false [.p])]),
 ((177,2,36),[(4,true,.aI false [.o true])]),
 ((225,0,0),[(5,false,.aI false [.p])]),
 ((225,5,7),[(0,false,.rows [(0,true)])]),
 ((179,0,0),[(7,false,.aI false [.o true]),(14,false,.aI false [.p])]),
 ((179,0,2),[(7,false,.aI false [.o true]),(23,false,.aI false [.p]),(21,false,.rows [(0,false)])]),
 ((180,0,0),[(10,false,.aI false [.o true]),(23,false,.aI false [.p])]),
 ((77,0,0),[(9,false,.aI false [.o true]),(21,false,.aI false [.p])]),
 ((77,0,2),[(43,false,.aI false [.p]),(13,true,.aI false [.o true]),(41,false,.rows [(0,false)])]),
 ((77,0,4),[(58,false,.aI false [.p]),(13,true,.aI false [.o true]),(56,false,.rows [(0,false)])]),
 ((77,2,27),[(9,false,.aI false [.o true])]),
 ((77,2,52),[(13,true,.aI false [.o true])]),
 ((18,0,0),[(3,false,.aI false [.o true]),(22,false,.aI false [.p]),(19,false,.rows [(0,false)])]),
 ((18,0,2),[(3,false,.aI false [.o true]),(48,false,.aI false [.p])]),
 ((18,0,4),[(3,false,.aI false [.o true]),(59,false,.aI false [.p]),(57,false,.rows [(0,false)])]),
 ((18,0,6),[(3,false,.aI false [.o true]),(72,false,.aI false [.p])]),
 ((18,2,39),[(3,false,.aI false [.o true]),(19,false,.aI false [.p]),(4,false,.aI false [.p]),(20,false,.aI false [.p])]),
 ((18,2,80),[(3,false,.aI false [.o true])]),
 ((158,0,0),[(4,false,.aI false [.p]),(36,false,.aI false [.p])]),
 ((159,2,12),[(5,false,.aI false [.p])]),
 ((160,2,8),[(3,true,.aI true [.k,.k,.k,.k,.k,.k,.p,.k])]),
 ((55,0,0),[(3,false,.aI false [.o true]),(15,false,.aI false [.p]),(12,false,.rows [(0,false)])]),
 ((55,0,2),[(3,false,.aI false [.o true]),(46,false,.aI false [.p])]),
 ((55,2,34),[(3,false,.aI false [.o true]),(6,true,.aI true [.k,.k,.k,.k,.p,.k,.k,.k])]),
 ((55,2,66),[(3,false,.aI false [.o true]),(10,true,.aI true [.k,.k,.k,.k,.p,.k,.k,.k])]),
 ((11,0,0),[(3,false,.aI false [.o true]),(6,false,.aI false [.o true]),(22,false,.aI false [.p])]),
 ((186,0,0),[(5,false,.aI false [.o true]),(10,false,.aI false [.p])]),
 ((186,2,22),[(5,false,.aI false [.o true])]),
 ((187,2,17),[(3,true,.aI true [.k,.k,.k,.k,.k,.k,.p,.k])]),
 ((86,0,0),[(5,false,.aI false [.o true]),(12,false,.aI false [.p]),(10,false,.rows [(0,false)])]),
 ((22,0,0),[(22,false,.aI false [.p]),(14,false,.rows [(7,true)])]),
 ((22,0,2),[(7,false,.aI false [.o false]),(62,false,.aI false [.p]),(4,true,.aI true [.p,.p,.p,.p,.p,.p,.p,.p]),(14,false,.aI true [.k,.k,.k,.k,.k,.k,.k,.p]),(20,false,.aI false [.p]),(54,false,.aI false [.p]),(60,false,.aI false [.p])]),
 ((22,0,4),[(10,false,.aI false [.o true]),(69,false,.aI false [.p])]),
 ((22,2,82),[(10,false,.aI false [.o true])]),
 ((22,2,95),[(4,true,.aI true [.p,.p,.p,.p,.p,.p,.p,.p]),(7,false,.aI false [.o false]),(93,false,.aI false [.d])]),
 ((188,0,0),[(12,false,.aI false [.p]),(13,false,.aI false [.p]),(14,false,.aI false [.p]),(21,false,.aI false [.p]),(10,true,.aI true [.p,.p,.o true]),(11,true,.aI true [.p,.p,.o true])]),
 ((188,2,49),[(17,true,.aI true [.p,.p,.o true]),(18,false,.aI false [.p])]),
 ((188,2,64),[(17,true,.aI true [.p,.p,.o true])]),
 ((188,2,75),[(17,true,.aI true [.p,.p,.o true])]),
 ((188,2,86),[(11,true,.aI true [.p,.p,.o true]),(13,false,.aI false [.p]),(14,false,.aI false [.p]),(17,true,.aI true [.k,.k,.d])]),
 ((89,0,0),[(9,false,.aI false [.o true]),(35,false,.aI false [.p]),(27,false,.rows [(0,false)])]),
 ((89,0,2),[(9,false,.aI false [.o true]),(57,false,.aI false [.p]),(32,false,.rows [(0,false)])]),
 ((89,0,4),[(16,false,.aI false [.o true]),(75,false,.aI false [.p])]),
 ((89,0,6),[(9,false,.aI false [.o true]),(98,false,.aI false [.p])]),
 ((89,2,110),[(9,false,.aI false [.o true]),(108,false,.aI true [.k,.k,.k,.k,.k,.d]),(22,true,.aI true [.k,.k,.k,.k,.k,.d])]),
 ((89,2,42),[(9,false,.aI false [.o true])]),
 ((89,2,86),[(16,false,.aI false [.o true])]),
 ((4,0,0),[(5,false,.aI false [.p]),(3,true,.aI true [.p,.p,.p,.p,.p,.p,.p,.p]),(18,false,.aI true [.k,.k,.k,.p,.p,.p,.p,.p])]),
 ((4,0,2),[(2,false,.aI false [.p]),(6,false,.aI false [.p])]),
 ((4,0,4),[(2,false,.aI false [.p]),(10,false,.aI false [.p])])]
def lfz:List (Nat×Nat×Nat):=[(176,18,1)]
def aiE:List Nat:=[11,4]
noncomputable def lfn:List (Nat×Func):=[(53,Tryz.f53),(84,Tryz.f84),(223,Tryz.f223),(177,Tryz.f177),(225,Tryz.f225),(83,Tryz.f83)]
noncomputable def cx:Cx:={ty:=Dq lty,sg:=λ_=>none,fn:=Gs lfn,tN:=U' aiD,fz:=Va lfz,nest:=Vb aiE}
theorem aiF:kq Tryz.prog 53:=.mk Tryz.func53 (by kernel_rfl) (by kernel_rfl)
theorem aiG:kq Tryz.prog 84:=.mk Tryz.func84 (by kernel_rfl) (by kernel_rfl)
theorem aiH:kq Tryz.prog 223:=.mk Tryz.func223 (by kernel_rfl) (by kernel_rfl)
theorem aiI:kq Tryz.prog 177:=.mk Tryz.func177 (by kernel_rfl) (by kernel_rfl)
theorem aiJ:kq Tryz.prog 225:=.mk Tryz.func225 (by kernel_rfl) (by kernel_rfl)
theorem aiK:kq Tryz.prog 83:=.mk Tryz.func83 (by kernel_rfl) (by kernel_rfl)
theorem bz:LF Tryz.prog cx:=⟨aef (l:=lty) (by kernel_rfl) rfl,aeg (l:=lfn) (fc ⟨⟨Tryz.func53,aiF⟩,fc ⟨⟨Tryz.func84,aiG⟩,fc ⟨⟨Tryz.func223,aiH⟩,fc ⟨⟨Tryz.func177,aiI⟩,fc ⟨⟨Tryz.func225,aiJ⟩,fc ⟨⟨Tryz.func83,aiK⟩,f0⟩⟩⟩⟩⟩⟩) rfl,by kernel_rfl⟩
noncomputable def aiL:=cJ.bY bz 9 ⟨[.v false 1],[(false,[.s])]⟩ Dy Av [] Tryz.func9 (by kernel_rfl) (by kernel_rfl) (by kernel_rfl)
noncomputable def aiM:=cJ.bY bz 215 ⟨[.x 3],[(false,[.s])]⟩ mc QA [] Tryz.func215 (by kernel_rfl) (by kernel_rfl) (by kernel_rfl)
noncomputable def DB:=cJ.bY bz 149 ⟨[.x 3,.v false 1],[(false,[.s])]⟩ kt ku [aiM] Tryz.func149 (by kernel_rfl) (by kernel_rfl) (by kernel_rfl)
noncomputable def jS_:=cJ.bY bz 212 ⟨[.x 3,.v false 1],[(false,[.s])]⟩ jy xX [DB] Tryz.func212 (by kernel_rfl) (by kernel_rfl) (by kernel_rfl)
noncomputable def Wi:=cJ.bY bz 204 ⟨[.v true 4,.v true 4],[(false,[.s])]⟩ kC GD [] Tryz.func204 (by kernel_rfl) (by kernel_rfl) (by kernel_rfl)
noncomputable def aiN:=cJ.bY bz 213 ⟨[.v false 1,.v true 4],[(false,[.o true])]⟩ nN QB [Wi] Tryz.func213 (by kernel_rfl) (by kernel_rfl) (by kernel_rfl)
noncomputable def Ro:=cJ.bY bz 151 ⟨[.x 3,.v false 1],[(false,[.s])]⟩ me r7 [DB] Tryz.func151 (by kernel_rfl) (by kernel_rfl) (by kernel_rfl)
noncomputable def Wj:=cJ.bY bz 205 ⟨[.v true 4,.v true 4],[(false,[.s])]⟩ kE GF [] Tryz.func205 (by kernel_rfl) (by kernel_rfl) (by kernel_rfl)
noncomputable def aiO:=cJ.bY bz 214 ⟨[.v false 1,.v true 4],[(false,[.o true])]⟩ iR QC [Wj] Tryz.func214 (by kernel_rfl) (by kernel_rfl) (by kernel_rfl)
noncomputable def aiP:=cJ.bY bz 148 ⟨[.x 3],[(true,[.s,.o false,.o false])]⟩ nO QD [DB,Ro,jS_,aiN,aiO] Tryz.func148 (by kernel_rfl) (by kernel_rfl) (by kernel_rfl)
noncomputable def DC:=cJ.bY bz 150 ⟨[.v true 3,.v false 1,.v false 1,.v false 1],[(false,[.s])]⟩ nP u0 [] Tryz.func150 (by kernel_rfl) (by kernel_rfl) (by kernel_rfl)
noncomputable def LZ:=cJ.bY bz 105 ⟨[.v false 1,.v false 1,.v false 1],[(false,[.s])]⟩ pR rA [] Tryz.func105 (by kernel_rfl) (by kernel_rfl) (by kernel_rfl)
noncomputable def aiQ:=cJ.bY bz 203 ⟨[.v false 1,.v true 4],[(false,[.s])]⟩ nQ QE [LZ] Tryz.func203 (by kernel_rfl) (by kernel_rfl) (by kernel_rfl)
noncomputable def Wl:=cJ.bY bz 132 ⟨[.v true 3],[(false,[.s])]⟩ pS GH [LZ,aiQ,Wi,Wj] Tryz.func132 (by kernel_rfl) (by kernel_rfl) (by kernel_rfl)
noncomputable def aiR:=cJ.bY bz 78 ⟨[.v true 3,.v false 1,.v false 1],[(false,[.p])]⟩ nR QF [DC] Tryz.func78 (by kernel_rfl) (by kernel_rfl) (by kernel_rfl)
noncomputable def L0:=cJ.bY bz 20 ⟨[.v true 3,.v false 1],[(false,[.p])]⟩ mf BD [aiR] Tryz.func20 (by kernel_rfl) (by kernel_rfl) (by kernel_rfl)
noncomputable def aiS:=cJ.bY bz 216 ⟨[.v true 3,.v false 1,.v false 1,.v false 1,.v false 1],[(false,[.s])]⟩ mg QG [] Tryz.func216 (by kernel_rfl) (by kernel_rfl) (by kernel_rfl)
noncomputable def Wm:=cJ.bY bz 168 ⟨[.v true 8,.v true 8],[(false,[.s])]⟩ nS GI [] Tryz.func168 (by kernel_rfl) (by kernel_rfl) (by kernel_rfl)
noncomputable def DD:=cJ.bY bz 62 ⟨[.v false 1,.v true 8],[(false,[.p])]⟩ nT uu [Wm] Tryz.func62 (by kernel_rfl) (by kernel_rfl) (by kernel_rfl)
noncomputable def Wn:=cJ.bY bz 166 ⟨[.v true 3,.v false 1],[(false,[.s])]⟩ nU GJ [L0] Tryz.func166 (by kernel_rfl) (by kernel_rfl) (by kernel_rfl)
noncomputable def aiT:=cJ.bY bz 229 ⟨[.v true 8],[(false,[.s])]⟩ mh QH [LZ] Tryz.func229 (by kernel_rfl) (by kernel_rfl) (by kernel_rfl)
noncomputable def Wo:=cJ.bY bz 195 ⟨[.v true 8],[(false,[.s])]⟩ kF GK [LZ,aiT] Tryz.func195 (by kernel_rfl) (by kernel_rfl) (by kernel_rfl)
noncomputable def G8:=cJ.bY bz 106 ⟨[.v false 1],[(false,[.s])]⟩ mi xY [Wm,Wo] Tryz.func106 (by kernel_rfl) (by kernel_rfl) (by kernel_rfl)
noncomputable def Wp:=cJ.bY bz 72 ⟨[.v true 8,.v true 8],[(false,[.s])]⟩ mj GL [] Tryz.func72 (by kernel_rfl) (by kernel_rfl) (by kernel_rfl)
noncomputable def G9:=cJ.bY bz 63 ⟨[.v false 1,.v true 8],[(false,[.s])]⟩ pT xZ [Wp] Tryz.func63 (by kernel_rfl) (by kernel_rfl) (by kernel_rfl)
noncomputable def L1:=cJ.bY bz 233 ⟨[.v false 1,.v false 1,.v false 1],[(true,[.s,.s,.s,.s,.s,.p,.s,.s]),(false,[.s])]⟩ ml Aw [G9] Tryz.func233 (by kernel_rfl) (by kernel_rfl) (by kernel_rfl)
noncomputable def aiU:=cJ.bY bz 242 ⟨[.v false 1,.v false 1,.v false 1,.v false 1],[(false,[.s])]⟩ kG QI [L1] Tryz.func242 (by kernel_rfl) (by kernel_rfl) (by kernel_rfl)
noncomputable def aiV:=cJ.bY bz 234 ⟨[.v false 1,.v false 1],[(false,[.p])]⟩ kH QJ [LZ,L1,aiU] Tryz.func234 (by kernel_rfl) (by kernel_rfl) (by kernel_rfl)
noncomputable def aiW:=cJ.bY bz 100 ⟨[.v false 1,.v false 1],[(false,[.s])]⟩ pU QK [] Tryz.func100 (by kernel_rfl) (by kernel_rfl) (by kernel_rfl)
noncomputable def Wq:=cJ.bY bz 235 ⟨[.v false 1,.v false 1],[(false,[.o true])]⟩ nV Dz [aiW] Tryz.func235 (by kernel_rfl) (by kernel_rfl) (by kernel_rfl)
noncomputable def L3:=cJ.bY bz 218 ⟨[.v false 1,.v false 1,.v false 1],[(false,[.p])]⟩ nW BE [LZ,G8,L1,aiV,Wq] Tryz.func218 (by kernel_rfl) (by kernel_rfl) (by kernel_rfl)
noncomputable def Wr:=cJ.bY bz 238 ⟨[.v true 3],[(true,[.s,.s,.p])]⟩ mm GM [] Tryz.func238 (by kernel_rfl) (by kernel_rfl) (by kernel_rfl)
noncomputable def G_:=cJ.bY bz 221 ⟨[.v false 1,.v false 1],[(true,[.s,.s,.p]),(false,[.s])]⟩ pV wZ [Wr] Tryz.func221 (by kernel_rfl) (by kernel_rfl) (by kernel_rfl)
noncomputable def aiX:=cJ.bY bz 243 ⟨[.v true 3,.v true 3],[(false,[.s])]⟩ nX QL [] Tryz.func243 (by kernel_rfl) (by kernel_rfl) (by kernel_rfl)
noncomputable def Ws:=cJ.bY bz 236 ⟨[.v true 3,.v true 3],[(true,[.s,.s,.p])]⟩ kJ GN [Wq,Wr,aiX] Tryz.func236 (by kernel_rfl) (by kernel_rfl) (by kernel_rfl)
noncomputable def Wt:=cJ.bY bz 219 ⟨[.v false 1,.v false 1,.v false 1],[(false,[.p])]⟩ ib GP [L3,G_,Ws] Tryz.func219 (by kernel_rfl) (by kernel_rfl) (by kernel_rfl)
noncomputable def aiY:=cJ.bY bz 237 ⟨[.v false 1,.v false 1,.v false 1,.v false 1,.v false 1,.v true 3,.v false 1],[(true,[.s,.s,.p]),(false,[.s])]⟩ jU QM [G_,Ws] Tryz.func237 (by kernel_rfl) (by kernel_rfl) (by kernel_rfl)
noncomputable def aiZ:=cJ.bY bz 220 ⟨[.v false 1,.v false 1,.v false 1,.v false 1],[(false,[.p])]⟩ ic QN [G8,L3,Wt,G_,aiY] Tryz.func220 (by kernel_rfl) (by kernel_rfl) (by kernel_rfl)
noncomputable def Wu:=cJ.bY bz 167 ⟨[.v false 1,.v false 1,.v false 1,.v false 1],[(false,[.p])]⟩ nY GQ [G8,L3,Wt,aiZ,G_] Tryz.func167 (by kernel_rfl) (by kernel_rfl) (by kernel_rfl)
noncomputable def L4:=cJ.bY bz 67 ⟨[.v false 1,.v false 1],[(false,[.p])]⟩ mo BF [DD] Tryz.func67 (by kernel_rfl) (by kernel_rfl) (by kernel_rfl)
noncomputable def ai0:=cJ.bY bz 217 ⟨[.v false 1,.v false 1,.v false 1],[(false,[.p])]⟩ jV QO [L4,Wu] Tryz.func217 (by kernel_rfl) (by kernel_rfl) (by kernel_rfl)
noncomputable def Ha:=cJ.bY bz 65 ⟨[.v true 8],[(true,[.s,.s,.s,.s,.s,.o true,.s,.s])]⟩ mq x_ [] Tryz.func65 (by kernel_rfl) (by kernel_rfl) (by kernel_rfl)
noncomputable def Rp:=cJ.bY bz 66 ⟨[.v false 1],[(false,[.o true])]⟩ iS sJ [Ha] Tryz.func66 (by kernel_rfl) (by kernel_rfl) (by kernel_rfl)
noncomputable def ai1:=cJ.bY bz 152 ⟨[.v true 3,.v false 1,.v false 1],[(false,[.p]),(false,[.s])]⟩ pW Jd [L0,DD,Rp,Wl,Wn,aiS,ai0] Tryz.func152 (by kernel_rfl) (by kernel_rfl) (by kernel_rfl)
noncomputable def L5:=cJ.bY bz 155 ⟨[.x 3],[(true,[.s,.s,.s,.s,.s,.o false,.s,.s])]⟩ jW ya [DB,Ro,jS_] Tryz.func155 (by kernel_rfl) (by kernel_rfl) (by kernel_rfl)
noncomputable def Wv:=cJ.bY bz 154 ⟨[.v false 1,.v true 8],[(false,[.p]),(false,[.s])]⟩ jz BG [DD,G9,Wo] Tryz.func154 (by kernel_rfl) (by kernel_rfl) (by kernel_rfl)
noncomputable def L6:=cJ.bY bz 153 ⟨[.x 3],[(false,[.p])]⟩ kK zd [DB,Wv,L5] Tryz.func153 (by kernel_rfl) (by kernel_rfl) (by kernel_rfl)
noncomputable def ai2:=cJ.bY bz 52 ⟨[.x 3],[(true,[.s,.s,.s,.p,.p,.p,.p])]⟩ mr QP [aiP,DB,DC,Ro,ai1,L6,Wv,L5] Tryz.func52 (by kernel_rfl) (by kernel_rfl) (by kernel_rfl)
noncomputable def ai3:=cJ.bY bz 164 ⟨[.v true 7],[(false,[.s])]⟩ kL QQ [DC] Tryz.func164 (by kernel_rfl) (by kernel_rfl) (by kernel_rfl)
noncomputable def L7:=cJ.bY bz 58 ⟨[.v true 7],[(false,[.s])]⟩ nZ BH [LZ,G8,Wl,ai3] Tryz.func58 (by kernel_rfl) (by kernel_rfl) (by kernel_rfl)
noncomputable def ai4:=cJ.bY bz 59 ⟨[.v true 7],[(true,[.s,.s,.s,.o true,.o true,.o true,.o true])]⟩ mu QR [Rp] Tryz.func59 (by kernel_rfl) (by kernel_rfl) (by kernel_rfl)
noncomputable def ai5:=cJ.bY bz 165 ⟨[.v true 7,.v false 1],[(true,[.s,.s,.s,.s,.s,.p,.s,.s])]⟩ mw QS [DC] Tryz.func165 (by kernel_rfl) (by kernel_rfl) (by kernel_rfl)
noncomputable def ai6:=cJ.bY bz 60 ⟨[.v true 7],[(false,[.p])]⟩ n3 QT [L0,L7,DD,Rp,L4,ai5,Wn,Wu] Tryz.func60 (by kernel_rfl) (by kernel_rfl) (by kernel_rfl)
noncomputable def Ww:=cJ.bY bz 15 ⟨[.v false 1,.v true 8],[(true,[.s,.s,.s,.s,.s,.o true,.s,.s]),(false,[.s])]⟩ r8 DA [G9,Ha] Tryz.func15 (by kernel_rfl) (by kernel_rfl) (by kernel_rfl)
noncomputable def ai7:=cJ.bY bz 19 ⟨[.v true 8,.v true 8],[(false,[.s])]⟩ kM QU [Wp] Tryz.func19 (by kernel_rfl) (by kernel_rfl) (by kernel_rfl)
noncomputable def ai8:=cJ.bY bz 61 ⟨[.v true 7,.v false 1],[(false,[.s])]⟩ n4 QV [] Tryz.func61 (by kernel_rfl) (by kernel_rfl) (by kernel_rfl)
noncomputable def ai9:=cJ.bY bz 64 ⟨[.v true 8],[(true,[.s,.s,.s,.s,.s,.p,.s,.s])]⟩ my QW [] Tryz.func64 (by kernel_rfl) (by kernel_rfl) (by kernel_rfl)
noncomputable def Wx:=cJ.bY bz 12 ⟨[.v true 7],[(true,[.s,.s,.s,.o true,.o true,.o true,.o true]),(false,[.o true])]⟩ pX GR [Ww,ai7,L7,ai4,ai6,ai8,DD,G9,ai9,Ha,Rp,L4] Tryz.func12 (by kernel_rfl) (by kernel_rfl) (by kernel_rfl)
noncomputable def ai_:=cJ.bY bz 133 ⟨[.v true 3,.v false 1,.v false 1],[(true,[.s,.s,.s,.o true,.o true,.o true,.o true,.o true]),(false,[.s])]⟩ mz QX [Wx,L7,DC] Tryz.func133 (by kernel_rfl) (by kernel_rfl) (by kernel_rfl)
noncomputable def ai':=cJ.bY bz 101 ⟨[.v false 1],[(false,[.p])]⟩ kN QY [] Tryz.func101 (by kernel_rfl) (by kernel_rfl) (by kernel_rfl)
noncomputable def aja:=cJ.bY bz 79 ⟨[.x 3],[(true,[.s,.s,.s,.p,.p,.p,.p,.p])]⟩ kO QZ [Wx,ai2,ai',ai_,DB,Ro] Tryz.func79 (by kernel_rfl) (by kernel_rfl) (by kernel_rfl)
noncomputable def L8:=cJ.bY bz 184 ⟨[.v false 1,.v false 1],[(false,[.o true])]⟩ pY BI [Ha] Tryz.func184 (by kernel_rfl) (by kernel_rfl) (by kernel_rfl)
noncomputable def ajb:=cJ.bY bz 107 ⟨[.v true 8],[(true,[.s,.s,.s,.s,.s,.p,.s,.s])]⟩ mA Q0 [] Tryz.func107 (by kernel_rfl) (by kernel_rfl) (by kernel_rfl)
noncomputable def Wy:=cJ.bY bz 185 ⟨[.v false 1,.v false 1],[(false,[.p])]⟩ mB GS [ajb,L8] Tryz.func185 (by kernel_rfl) (by kernel_rfl) (by kernel_rfl)
noncomputable def Wz:=cJ.bY bz 182 ⟨[.x 3],[(true,[.s,.s,.s,.s,.p,.p])]⟩ jX GU [DB,Ro,L6,L8,Wy] Tryz.func182 (by kernel_rfl) (by kernel_rfl) (by kernel_rfl)
noncomputable def WC:=cJ.bY bz 181 ⟨[.v true 6],[(true,[.s,.s,.s,.s,.o true,.o true])]⟩ mC GV [Rp] Tryz.func181 (by kernel_rfl) (by kernel_rfl) (by kernel_rfl)
noncomputable def ajc:=cJ.bY bz 226 ⟨[.x 3],[(true,[.s,.s,.s,.s,.s,.o false,.s,.s])]⟩ n5 Q5 [DB,L5,jS_] Tryz.func226 (by kernel_rfl) (by kernel_rfl) (by kernel_rfl)
noncomputable def ajd:=cJ.bY bz 183 ⟨[.x 3],[(true,[.s,.s,.s,.s,.o false,.o false])]⟩ n6 Q6 [DB,WC,Wz,jS_,ajc] Tryz.func183 (by kernel_rfl) (by kernel_rfl) (by kernel_rfl)
noncomputable def aje:=cJ.bY bz 80 ⟨[.x 3,.v true 8],[(true,[.s,.s,.s,.s,.p,.p])]⟩ mD Q7 [Rp,DB,Ro,L6,WC,Wz,ajd,L8,Wy] Tryz.func80 (by kernel_rfl) (by kernel_rfl) (by kernel_rfl)
noncomputable def ajf:=cJ.bY bz 21 ⟨[.v false 1],[(true,[.s,.s,.s,.p,.p,.p,.p,.p]),(true,[.s,.s,.s,.s,.p,.p])]⟩ gH Q9 [aja,aje] Tryz.func21 (by kernel_rfl) (by kernel_rfl) (by kernel_rfl)
noncomputable def WD:=cJ.bY bz 90 ⟨[.v true 3],[(true,[.s,.o true,.o true])]⟩ mE EO [] Tryz.func90 (by kernel_rfl) (by kernel_rfl) (by kernel_rfl)
noncomputable def L9:=cJ.bY bz 156 ⟨[.v false 1],[(false,[.o true])]⟩ kQ o8 [] Tryz.func156 (by kernel_rfl) (by kernel_rfl) (by kernel_rfl)
noncomputable def L_:=cJ.bY bz 161 ⟨[.v true 8],[(true,[.s,.s,.s,.s,.s,.o true,.s,.s])]⟩ jA BJ [] Tryz.func161 (by kernel_rfl) (by kernel_rfl) (by kernel_rfl)
noncomputable def L':=cJ.bY bz 56 ⟨[.v false 1],[(false,[.o true])]⟩ iT BK [L_] Tryz.func56 (by kernel_rfl) (by kernel_rfl) (by kernel_rfl)
noncomputable def WE:=cJ.bY bz 54 ⟨[.v true 7],[(true,[.s,.s,.s,.o true,.o true,.o true,.o true])]⟩ kR GW [L',WD,L9] Tryz.func54 (by kernel_rfl) (by kernel_rfl) (by kernel_rfl)
noncomputable def ajg:=cJ.bY bz 81 ⟨[.v true 8],[(true,[.s,.s,.s,.o true,.o true,.o true,.o true,.o true])]⟩ kU Q_ [WE] Tryz.func81 (by kernel_rfl) (by kernel_rfl) (by kernel_rfl)
noncomputable def yf:=cJ.bY bz 69 ⟨[.v false 1,.v false 1,.v false 1],[(false,[.s])]⟩ yb rB [] Tryz.func69 (by kernel_rfl) (by kernel_rfl) (by kernel_rfl)
noncomputable def ajh:=cJ.bY bz 169 ⟨[.v false 1,.v true 4],[(false,[.s])]⟩ n7 Q' [yf] Tryz.func169 (by kernel_rfl) (by kernel_rfl) (by kernel_rfl)
noncomputable def aji:=cJ.bY bz 170 ⟨[.v true 4,.v true 4],[(false,[.s])]⟩ pZ Ra [] Tryz.func170 (by kernel_rfl) (by kernel_rfl) (by kernel_rfl)
noncomputable def ajj:=cJ.bY bz 171 ⟨[.v true 4,.v true 4],[(false,[.s])]⟩ r9 Ax [] Tryz.func171 (by kernel_rfl) (by kernel_rfl) (by kernel_rfl)
noncomputable def ajk:=cJ.bY bz 68 ⟨[.v true 3],[(false,[.s])]⟩ p9 Rb [yf,ajh,aji,ajj] Tryz.func68 (by kernel_rfl) (by kernel_rfl) (by kernel_rfl)
noncomputable def Ma:=cJ.bY bz 172 ⟨[.v true 3,.v false 1,.v false 1,.v false 1],[(false,[.s])]⟩ n8 BL [] Tryz.func172 (by kernel_rfl) (by kernel_rfl) (by kernel_rfl)
noncomputable def ajl:=cJ.bY bz 70 ⟨[.v true 7],[(false,[.s])]⟩ mF Rc [Ma] Tryz.func70 (by kernel_rfl) (by kernel_rfl) (by kernel_rfl)
noncomputable def ajm:=cJ.bY bz 222 ⟨[.v true 8],[(false,[.s])]⟩ n9 Rd [yf] Tryz.func222 (by kernel_rfl) (by kernel_rfl) (by kernel_rfl)
noncomputable def ajn:=cJ.bY bz 173 ⟨[.v true 8],[(false,[.s])]⟩ kV Re [yf,ajm] Tryz.func173 (by kernel_rfl) (by kernel_rfl) (by kernel_rfl)
noncomputable def WG:=cJ.bY bz 162 ⟨[.v true 8,.v true 8],[(false,[.s])]⟩ n_ GX [] Tryz.func162 (by kernel_rfl) (by kernel_rfl) (by kernel_rfl)
noncomputable def WH:=cJ.bY bz 71 ⟨[.v false 1],[(false,[.s])]⟩ mG GY [WG,ajn] Tryz.func71 (by kernel_rfl) (by kernel_rfl) (by kernel_rfl)
noncomputable def Hb:=cJ.bY bz 13 ⟨[.v true 7],[(false,[.s])]⟩ oa yc [ajk,yf,ajl,WH] Tryz.func13 (by kernel_rfl) (by kernel_rfl) (by kernel_rfl)
noncomputable def WI:=cJ.bY bz 87 ⟨[.v true 3,.v false 1],[(false,[.o true])]⟩ od GZ [Ma] Tryz.func87 (by kernel_rfl) (by kernel_rfl) (by kernel_rfl)
noncomputable def WJ:=cJ.bY bz 82 ⟨[.v false 1],[(false,[.o true])]⟩ mH G0 [] Tryz.func82 (by kernel_rfl) (by kernel_rfl) (by kernel_rfl)
noncomputable def ajo:=cJ.bY bz 88 ⟨[.v false 1,.v false 1],[(false,[.s])]⟩ kW Rf [] Tryz.func88 (by kernel_rfl) (by kernel_rfl) (by kernel_rfl)
noncomputable def Mb:=cJ.bY bz 23 ⟨[.v true 8],[(false,[.s])]⟩ oe Ay [Hb,yf,WJ,WI,ajo] Tryz.func23 (by kernel_rfl) (by kernel_rfl) (by kernel_rfl)
noncomputable def Hc:=cJ.bY bz 74 ⟨[.v true 3,.v false 1],[(false,[.o true])]⟩ mI yd [L9] Tryz.func74 (by kernel_rfl) (by kernel_rfl) (by kernel_rfl)
noncomputable def ajp:=cJ.bY bz 174 ⟨[.v true 3,.v false 1,.v false 1,.v false 1],[(false,[.s])]⟩ og Rg [Ma] Tryz.func174 (by kernel_rfl) (by kernel_rfl) (by kernel_rfl)
noncomputable def ajq:=cJ.bY bz 73 ⟨[.v true 7],[(false,[.o true])]⟩ uv Az [Hc,ajp] Tryz.func73 (by kernel_rfl) (by kernel_rfl) (by kernel_rfl)
noncomputable def Mc:=cJ.bY bz 163 ⟨[.v true 8,.v true 8],[(false,[.s])]⟩ mJ BM [] Tryz.func163 (by kernel_rfl) (by kernel_rfl) (by kernel_rfl)
noncomputable def DE:=cJ.bY bz 57 ⟨[.v false 1,.v true 8],[(false,[.o true])]⟩ uw ux [L',L_,WG,Mc] Tryz.func57 (by kernel_rfl) (by kernel_rfl) (by kernel_rfl)
noncomputable def Md:=cJ.bY bz 175 ⟨[.v false 1,.v false 1],[(false,[.s])]⟩ oh BN [] Tryz.func175 (by kernel_rfl) (by kernel_rfl) (by kernel_rfl)
noncomputable def WK:=cJ.bY bz 75 ⟨[.v true 3,.v false 1],[(false,[.s])]⟩ ol G4 [Hc,Md] Tryz.func75 (by kernel_rfl) (by kernel_rfl) (by kernel_rfl)
noncomputable def ajr:=cJ.bY bz 76 ⟨[.v false 1,.v false 1,.v false 1],[(false,[.o false])]⟩ ye AA [DE] Tryz.func76 (by kernel_rfl) (by kernel_rfl) (by kernel_rfl)
noncomputable def DF:=cJ.bY bz 157 ⟨[.v false 1,.v true 8],[(false,[.s])]⟩ p_ u9 [Mc] Tryz.func157 (by kernel_rfl) (by kernel_rfl) (by kernel_rfl)
noncomputable def ajs:=cJ.bY bz 244 ⟨[.v false 1,.v false 1,.v false 1,.v false 1],[(false,[.s])]⟩ r_ AB [DF] Tryz.func244 (by kernel_rfl) (by kernel_rfl) (by kernel_rfl)
noncomputable def ajt:=cJ.bY bz 239 ⟨[.v false 1,.v false 1,.v false 1,.v false 1],[(false,[.s])]⟩ om Rh [ajs] Tryz.func239 (by kernel_rfl) (by kernel_rfl) (by kernel_rfl)
noncomputable def He:=cJ.bY bz 224 ⟨[.v true 3],[(true,[.s,.s,.o true])]⟩ mK u_ [L9] Tryz.func224 (by kernel_rfl) (by kernel_rfl) (by kernel_rfl)
noncomputable def Hf:=cJ.bY bz 227 ⟨[.v true 3,.v true 3],[(true,[.s,.s,.o true])]⟩ kX sa [L9,He] Tryz.func227 (by kernel_rfl) (by kernel_rfl) (by kernel_rfl)
noncomputable def Me:=cJ.bY bz 176 ⟨[.v false 1,.v false 1,.v false 1],[(false,[.o true])]⟩ oq BO [yf,WH,L9,DF,Md,Hf,ajt] Tryz.func176 (by kernel_rfl) (by kernel_rfl) (by kernel_rfl)
noncomputable def Mf:=cJ.bY bz 178 ⟨[.v false 1,.v false 1],[(true,[.s,.s,.o true]),(false,[.s])]⟩ qa AC [He] Tryz.func178 (by kernel_rfl) (by kernel_rfl) (by kernel_rfl)
noncomputable def kO_:=cJ.bY bz 179 ⟨[.v false 1,.v false 1,.v false 1],[(false,[.o true])]⟩ ie BP [Me,He,Hf] Tryz.func179 (by kernel_rfl) (by kernel_rfl) (by kernel_rfl)
noncomputable def WL:=cJ.bY bz 180 ⟨[.v false 1,.v false 1,.v false 1,.v false 1],[(false,[.o true])]⟩ ig G5 [Md,Me,Mf,kO_,He,Hf] Tryz.func180 (by kernel_rfl) (by kernel_rfl) (by kernel_rfl)
noncomputable def ajv:=cJ.bY bz 77 ⟨[.v false 1,.v false 1,.v false 1,.v false 1],[(false,[.o true])]⟩ ot Ri [DE,DF,Me,Mf,kO_,WL] Tryz.func77 (by kernel_rfl) (by kernel_rfl) (by kernel_rfl)
noncomputable def ajw:=cJ.bY bz 18 ⟨[.v true 7],[(false,[.o true])]⟩ ou LU [Hb,DE,ajq,Hc,WK,ajr,ajv] Tryz.func18 (by kernel_rfl) (by kernel_rfl) (by kernel_rfl)
noncomputable def ajx:=cJ.bY bz 158 ⟨[.v true 8,.v true 8],[(false,[.s])]⟩ kY Rk [Mc] Tryz.func158 (by kernel_rfl) (by kernel_rfl) (by kernel_rfl)
noncomputable def ajy:=cJ.bY bz 159 ⟨[.v true 7,.v true 8],[(false,[.s])]⟩ qb Rl [DF] Tryz.func159 (by kernel_rfl) (by kernel_rfl) (by kernel_rfl)
noncomputable def ajz:=cJ.bY bz 160 ⟨[.v true 8],[(true,[.s,.s,.s,.s,.s,.o true,.s,.s])]⟩ sb AD [] Tryz.func160 (by kernel_rfl) (by kernel_rfl) (by kernel_rfl)
noncomputable def ajA:=cJ.bY bz 55 ⟨[.v true 7],[(false,[.o true])]⟩ qc AE [ajw,DE,DF,ajx,ajy,ajz] Tryz.func55 (by kernel_rfl) (by kernel_rfl) (by kernel_rfl)
noncomputable def WM:=cJ.bY bz 11 ⟨[.v true 7],[(true,[.s,.s,.s,.o true,.o true,.o true,.o true]),(false,[.o true])]⟩ qd G6 [Hb,WE,ajA,L',DE] Tryz.func11 (by kernel_rfl) (by kernel_rfl) (by kernel_rfl)
noncomputable def ajB:=cJ.bY bz 85 ⟨[.x 8,.v false 1,.v true 4,.v false 1,.v false 1],[(true,[.s,.s,.s,.s,.p,.p])]⟩ kZ LV [] Tryz.func85 (by kernel_rfl) (by kernel_rfl) (by kernel_rfl)
noncomputable def ajC:=cJ.bY bz 186 ⟨[.v false 1,.v false 1],[(false,[.o true])]⟩ qe AF [L_] Tryz.func186 (by kernel_rfl) (by kernel_rfl) (by kernel_rfl)
noncomputable def ajD:=cJ.bY bz 187 ⟨[.v true 8],[(true,[.s,.s,.s,.s,.s,.o true,.s,.s])]⟩ ov Rm [] Tryz.func187 (by kernel_rfl) (by kernel_rfl) (by kernel_rfl)
noncomputable def ajE:=cJ.bY bz 86 ⟨[.v false 1,.v false 1],[(false,[.o true])]⟩ mL LW [ajC,ajD] Tryz.func86 (by kernel_rfl) (by kernel_rfl) (by kernel_rfl)
noncomputable def ajF:=cJ.bY bz 22 ⟨[.v true 8],[(true,[.s,.s,.s,.p,.p,.p,.p,.p]),(false,[.p])]⟩ k_ Je [WM,Mb,ajg,WJ,ajB,ajE,L9] Tryz.func22 (by kernel_rfl) (by kernel_rfl) (by kernel_rfl)
noncomputable def ajG:=cJ.bY bz 188 ⟨[.v false 1,.v false 1,.v false 1,.v false 1],[(true,[.s,.s,.s,.s,.s,.o true]),(false,[.s])]⟩ qg AG [Mf,Hf] Tryz.func188 (by kernel_rfl) (by kernel_rfl) (by kernel_rfl)
noncomputable def ajH:=cJ.bY bz 89 ⟨[.v false 1,.v false 1,.v false 1,.v false 1],[(false,[.o true])]⟩ lc Rn [L9,kO_,WL,ajG] Tryz.func89 (by kernel_rfl) (by kernel_rfl) (by kernel_rfl)
noncomputable def ajI:=cJ.bY bz 24 ⟨[.v true 8],[(false,[.o true])]⟩ oz LX [Mb,Hc,WK,ajH] Tryz.func24 (by kernel_rfl) (by kernel_rfl) (by kernel_rfl)
noncomputable def ajJ:=cJ.bY bz 25 ⟨[.v true 3,.v false 1,.v false 1],[(true,[.s,.s,.s,.o true,.o true,.o true,.o true,.o true]),(false,[.s])]⟩ mM LY [WM,Hb,WI,WD] Tryz.func25 (by kernel_rfl) (by kernel_rfl) (by kernel_rfl)
noncomputable def we:=cJ.bY bz 4 ⟨[.v false 1],[(false,[.s])]⟩ sd G7 [aiL,Ww,ajf,ajF,Mb,ajI,ajJ] Tryz.func4 (by kernel_rfl) (by kernel_rfl) (by kernel_rfl)
end Go.Proofs.YtjimmglpkndemaaGreatWE

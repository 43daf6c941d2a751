/- The walk: what each function does. Conditions: none. -/
import Derived.Test.YtjimmglpkndemaaGreatChecked
import Derived.Test.YtjimmglpkndemaaGreatKe
namespace Go.Proofs.YtjimmglpkndemaaGreatC
noncomputable section
theorem fc{α:Type}{p:α->Prop}{a:α}{l:List α}(h:p a∧∀x∈l,p x):∀x∈a::l,p x:=List.forall_mem_cons.2 h
theorem f0{α:Type}{p:α->Prop}:∀x∈([]:List α),p x:=λ_ h=>nomatch h
def lty:List (Nat×TI):=[
 (3,⟨1,8,false,[.p (.k (.int .i64 0))],0,[],1⟩),
 (4,⟨1,1,false,[.p (.k (.bool false))],0,[],4⟩),
 (5,⟨1,1,false,[.p (.k (.int .u8 0))],0,[],1⟩),
 (22,⟨1,24,false,[.n],5,[],3⟩),
 (24,⟨1,24,false,[.n],185,[],3⟩),
 (25,⟨1,24,false,[.n],122,[],3⟩),
 (27,⟨3,56,true,[.p (.k (.int .i64 0)),.n,.n],0,[(0,1),(1,1),(2,1)],0⟩),
 (28,⟨1,24,false,[.n],3,[],3⟩),
 (29,⟨1,24,false,[.n],39,[],3⟩),
 (31,⟨7,120,true,[.p (.k (.int .i64 0)),.p (.k (.int .i64 0)),.p (.k (.int .i64 0)),.n,.n,.n,.n],0,[(0,1),(1,1),(2,3),(5,1),(6,1)],0⟩),
 (37,⟨1,24,false,[.n],117,[],3⟩),
 (39,⟨8,80,true,[.p (.k (.int .i64 0)),.p (.k (.int .i64 0)),.p (.k (.int .i64 0)),.p (.k (.int .i64 0)),.p (.k (.int .i64 0)),.n,.p (.k (.int .i64 0)),.p (.k (.bool false))],0,[(0,1),(1,1),(2,1),(3,1),(4,1),(5,1),(6,1),(7,1)],0⟩),
 (46,⟨1,24,false,[.n],58,[],3⟩),
 (48,⟨8,144,true,[.p (.k (.int .i64 0)),.p (.k (.int .i64 0)),.p (.k (.int .i64 0)),.n,.n,.n,.n,.n],0,[(0,7),(7,1)],0⟩),
 (50,⟨6,80,true,[.p (.k (.int .i64 0)),.p (.k (.int .i64 0)),.p (.k (.int .i64 0)),.p (.k (.int .i64 0)),.n,.n],0,[(0,1),(1,1),(2,1),(3,1),(4,1),(5,1)],0⟩),
 (53,⟨1,24,false,[.n],50,[],3⟩),
 (58,⟨4,32,true,[.p (.k (.int .i64 0)),.p (.k (.int .i64 0)),.p (.k (.int .i64 0)),.p (.k (.bool false))],0,[(0,1),(1,1),(2,1),(3,1)],5⟩),
 (93,⟨1,24,false,[.n],4,[],3⟩),
 (117,⟨2,16,true,[.p (.k (.int .i64 0)),.p (.k (.int .i64 0))],0,[(0,1),(1,1)],5⟩),
 (122,⟨4,32,true,[.p (.k (.int .i64 0)),.p (.k (.int .i64 0)),.p (.k (.int .i64 0)),.p (.k (.bool false))],0,[(0,1),(1,1),(2,1),(3,1)],5⟩),
 (181,⟨3,40,true,[.n,.p (.k (.int .i64 0)),.p (.k (.int .i64 0))],0,[(0,1),(1,1),(2,1)],0⟩),
 (185,⟨4,32,true,[.p (.k (.int .i64 0)),.p (.k (.int .i64 0)),.p (.k (.int .i64 0)),.p (.k (.int .i64 0))],0,[(0,1),(1,1),(2,1),(3,1)],5⟩),
 (190,⟨1,24,false,[.n],193,[],3⟩),
 (193,⟨3,40,true,[.p (.k (.int .i64 0)),.p (.k (.int .i64 0)),.n],0,[(0,1),(1,1),(2,1)],0⟩),
 (236,⟨1,24,false,[.n],28,[],3⟩),
 (238,⟨1,24,false,[.n],190,[],3⟩)]
def amD:List ((Nat×Nat×Nat)×Js):=[
 ((53,0,0),[(3,false,.aH false [.p]),(4,false,.aH false [.p])]),
 ((215,2,34),[(0,true,.aH true [.k,.p,.k]),(3,false,.aH false [.p])]),
 ((213,0,0),[(5,false,.aH false [.o true]),(6,false,.aH false [.p])]),
 ((213,0,2),[(5,false,.aH false [.o true]),(7,false,.aH false [.p])]),
 ((213,2,20),[(5,false,.aH false [.o true])]),
 ((213,2,43),[(5,false,.aH false [.o true])]),
 ((214,0,0),[(5,false,.aH false [.o true]),(6,false,.aH false [.p])]),
 ((214,0,2),[(5,false,.aH false [.o true]),(7,false,.aH false [.p])]),
 ((214,2,20),[(5,false,.aH false [.o true])]),
 ((214,2,43),[(5,false,.aH false [.o true])]),
 ((148,0,0),[(4,false,.aH false [.p]),(0,true,.aH true [.p,.p,.p]),(3,true,.aH true [.k,.o true,.k])]),
 ((148,0,2),[(8,false,.aH false [.p]),(0,true,.aH true [.p,.p,.p]),(3,true,.aH true [.k,.k,.o true])]),
 ((148,2,36),[(5,false,.aH false [.p]),(6,false,.aH false [.p])]),
 ((148,2,43),[(6,false,.aH false [.p])]),
 ((148,2,51),[(5,false,.aH false [.p]),(6,false,.aH false [.p])]),
 ((148,2,66),[(3,true,.aH true [.k,.o true,.k])]),
 ((150,0,0),[(8,false,.aH false [.p]),(9,false,.aH false [.p])]),
 ((132,0,0),[(2,false,.aH false [.p]),(3,false,.aH false [.p])]),
 ((132,0,2),[(2,false,.aH false [.p]),(4,false,.aH false [.p])]),
 ((78,0,0),[(7,false,.aH false [.o true]),(8,false,.aH false [.p])]),
 ((78,2,19),[(7,false,.aH false [.o true])]),
 ((20,0,0),[(5,false,.aH false [.o true]),(6,false,.aH false [.p])]),
 ((20,2,17),[(5,false,.aH false [.o true])]),
 ((216,0,0),[(10,false,.aH false [.p]),(11,false,.aH false [.p])]),
 ((62,0,0),[(5,false,.aH false [.o false]),(6,false,.aH false [.p])]),
 ((62,0,2),[(5,false,.aH false [.o false]),(7,false,.aH false [.p])]),
 ((62,2,20),[(5,false,.aH false [.o false])]),
 ((62,2,43),[(5,false,.aH false [.o false])]),
 ((229,0,0),[(2,false,.aH false [.p]),(3,false,.aH false [.p])]),
 ((106,0,0),[(2,false,.aH false [.p]),(3,false,.aH false [.p])]),
 ((63,0,0),[(4,false,.aH false [.p]),(5,false,.aH false [.p])]),
 ((242,0,0),[(8,false,.aH false [.p]),(11,false,.aH false [.p])]),
 ((234,0,0),[(6,false,.aH false [.p]),(10,false,.rows [(0,true)])]),
 ((234,0,2),[(9,false,.aH false [.p]),(10,false,.rows [(0,true)])]),
 ((234,2,48),[(10,false,.rows [(0,true)])]),
 ((100,0,0),[(4,false,.aH false [.p]),(5,false,.aH false [.p])]),
 ((235,0,0),[(5,false,.aH false [.o true]),(6,false,.aH false [.p])]),
 ((235,2,19),[(5,false,.aH false [.o true])]),
 ((218,0,0),[(14,false,.aH false [.p]),(47,false,.rows [(0,true)])]),
 ((218,0,2),[(15,false,.aH false [.p]),(48,false,.rows [(0,false)]),(49,false,.rows [(0,true)]),(47,false,.rows [(0,true)])]),
 ((218,0,4),[(16,false,.aH false [.p]),(17,false,.aH false [.p])]),
 ((218,0,6),[(18,false,.aH false [.p]),(48,false,.rows [(0,false)]),(47,false,.rows [(0,true)])]),
 ((218,0,8),[(7,false,.aH false [.o true]),(22,false,.aH false [.p])]),
 ((218,2,126),[(20,false,.aH false [.p])]),
 ((218,2,147),[(48,false,.rows [(0,false)]),(47,false,.rows [(0,true)])]),
 ((218,2,163),[(48,false,.rows [(0,false)])]),
 ((218,2,180),[(7,false,.aH false [.o true])]),
 ((218,2,94),[(16,false,.aH false [.p])]),
 ((221,0,0),[(5,false,.aH false [.p]),(6,false,.aH false [.p])]),
 ((219,0,0),[(8,false,.aH false [.o false]),(9,false,.aH false [.p])]),
 ((219,0,2),[(7,false,.aH false [.o false]),(10,false,.aH false [.p])]),
 ((219,0,4),[(12,false,.aH false [.p]),(13,false,.aH false [.p]),(11,true,.aH true [.p,.p,.p])]),
 ((219,2,56),[(14,true,.aH true [.p,.p,.p])]),
 ((219,2,61),[(7,false,.aH false [.o false])]),
 ((237,0,0),[(6,false,.aH false [.p]),(16,false,.aH false [.p]),(12,true,.aH true [.p,.p,.p])]),
 ((237,2,81),[(18,true,.aH true [.p,.p,.p])]),
 ((220,0,0),[(11,false,.aH false [.o false]),(12,false,.aH false [.p])]),
 ((220,0,2),[(9,false,.aH false [.o false]),(13,false,.aH false [.p])]),
 ((220,0,4),[(17,false,.aH false [.p]),(18,false,.aH false [.p]),(16,true,.aH true [.p,.p,.p])]),
 ((220,2,88),[(9,false,.aH false [.o false])]),
 ((167,0,0),[(10,false,.aH false [.o true]),(11,false,.aH false [.p])]),
 ((167,0,2),[(9,false,.aH false [.o true]),(15,false,.aH false [.p])]),
 ((167,2,37),[(10,false,.aH false [.o true])]),
 ((167,2,84),[(18,true,.aH true [.p,.p,.p]),(19,false,.aH false [.p])]),
 ((167,2,91),[(9,false,.aH false [.o true])]),
 ((67,0,0),[(5,false,.aH false [.p]),(6,false,.aH false [.p])]),
 ((67,2,21),[(7,true,.aH true [.k,.k,.k,.k,.p,.k,.k,.k])]),
 ((217,0,0),[(7,false,.aH false [.o false]),(8,false,.aH false [.p])]),
 ((217,0,2),[(9,false,.aH false [.o false]),(10,false,.aH false [.p])]),
 ((217,2,49),[(9,false,.aH false [.o false])]),
 ((66,0,0),[(3,false,.aH false [.o true]),(4,false,.aH false [.p])]),
 ((152,0,0),[(8,false,.aH false [.p]),(9,false,.aH false [.p])]),
 ((152,0,10),[(8,false,.aH false [.p]),(18,false,.aH false [.p])]),
 ((152,0,2),[(8,false,.aH false [.p]),(11,false,.aH false [.p])]),
 ((152,0,4),[(13,false,.aH false [.p]),(12,true,.aH true [.k,.k,.k,.k,.k,.o true,.k,.k])]),
 ((152,0,6),[(8,false,.aH false [.p]),(15,false,.aH false [.p])]),
 ((152,0,8),[(8,false,.aH false [.p]),(17,false,.aH false [.p])]),
 ((152,2,119),[(8,false,.aH false [.p])]),
 ((152,2,150),[(8,false,.aH false [.p])]),
 ((152,2,90),[(12,true,.aH true [.k,.k,.k,.k,.k,.o true,.k,.k])]),
 ((155,0,1),[(4,false,.aH false [.p]),(0,true,.aH true [.p,.p,.p]),(3,true,.aH true [.k,.k,.k,.k,.k,.o true,.k,.k])]),
 ((155,2,19),[(0,true,.aH true [.p,.p,.p]),(3,true,.aH true [.p,.k,.k,.p,.k,.o true,.p,.p])]),
 ((155,2,32),[(0,true,.aH true [.p,.p,.p]),(3,true,.aH true [.k,.k,.k,.k,.k,.o true,.k,.k])]),
 ((155,2,43),[(0,true,.aH true [.p,.p,.p]),(3,true,.aH true [.p,.k,.k,.p,.k,.k,.p,.p])]),
 ((155,2,53),[(0,true,.aH true [.p,.p,.p]),(3,true,.aH true [.p,.k,.k,.p,.k,.k,.p,.p])]),
 ((153,0,0),[(3,false,.aH false [.p]),(4,false,.aH false [.p]),(0,true,.aH true [.p,.p,.p])]),
 ((52,0,0),[(4,false,.aH false [.p]),(0,true,.aH true [.p,.p,.p]),(3,true,.aH true [.k,.k,.k,.k,.k,.o true,.k])]),
 ((52,0,2),[(5,false,.aH false [.p]),(0,true,.aH true [.p,.p,.p]),(3,true,.aH true [.k,.k,.k,.k,.k,.o true,.k])]),
 ((52,0,4),[(8,false,.aH false [.p]),(0,true,.aH true [.p,.p,.p]),(60,false,.rows [(0,true)])]),
 ((52,0,6),[(9,false,.aH false [.p]),(0,true,.aH true [.p,.p,.p]),(64,false,.rows [(0,true)])]),
 ((52,0,8),[(12,false,.aH false [.p]),(3,true,.aH true [.k,.k,.k,.k,.k,.k,.p]),(0,true,.aH true [.p,.p,.p])]),
 ((52,2,100),[(3,true,.aH true [.k,.k,.k,.k,.k,.k,.p]),(0,true,.aH true [.p,.p,.p])]),
 ((52,2,48),[(3,true,.aH true [.k,.k,.k,.k,.k,.o true,.k])]),
 ((164,0,0),[(2,false,.aH false [.p]),(3,false,.aH false [.p])]),
 ((165,0,0),[(6,false,.aH false [.p]),(5,true,.aH true [.k,.k,.k,.k,.k,.o true,.k,.k])]),
 ((165,2,25),[(5,true,.aH true [.k,.k,.k,.k,.k,.o true,.k,.k])]),
 ((60,0,0),[(5,false,.aH false [.o false]),(6,false,.aH false [.p])]),
 ((60,0,2),[(7,false,.aH false [.o false]),(9,false,.aH false [.p])]),
 ((60,0,4),[(7,false,.aH false [.o false]),(10,false,.aH false [.p])]),
 ((60,0,6),[(3,false,.aH false [.p]),(12,false,.aH false [.p])]),
 ((60,2,46),[(7,false,.aH false [.o false]),(5,false,.aH false [.p]),(40,false,.aH false [.p]),(41,false,.aH false [.d])]),
 ((60,2,86),[(7,false,.aH false [.o false])]),
 ((19,0,0),[(4,false,.aH false [.p]),(5,false,.aH false [.p])]),
 ((12,0,0),[(5,false,.aH false [.p]),(6,false,.aH false [.p])]),
 ((12,0,2),[(5,false,.aH false [.p]),(10,false,.aH false [.p])]),
 ((12,0,4),[(3,false,.aH false [.o true]),(13,false,.aH false [.p])]),
 ((133,0,0),[(9,false,.aH false [.p]),(8,true,.aH true [.k,.k,.k,.k,.k,.k,.k,.o true])]),
 ((133,0,2),[(10,false,.aH false [.p]),(8,true,.aH true [.k,.k,.k,.k,.k,.k,.k,.o true])]),
 ((133,2,38),[(8,true,.aH true [.k,.k,.k,.k,.k,.k,.k,.o true])]),
 ((101,0,0),[(3,false,.aH false [.o true]),(4,false,.aH false [.p])]),
 ((101,2,16),[(3,false,.aH false [.o true])]),
 ((79,0,0),[(6,false,.aH false [.p]),(0,true,.aH true [.p,.p,.p]),(17,false,.rows [(7,true)])]),
 ((79,2,61),[(4,true,.aH true [.p,.p,.p,.o true,.o true,.p,.p,.k])]),
 ((184,0,0),[(5,false,.aH false [.o true]),(6,false,.aH false [.p])]),
 ((184,2,28),[(5,false,.aH false [.o true])]),
 ((107,2,8),[(1,true,.aH true [.k,.k,.k,.k,.k,.k,.p,.k])]),
 ((185,0,0),[(6,false,.aH false [.p]),(9,false,.rows [(0,false)])]),
 ((182,0,0),[(4,false,.aH false [.p]),(0,true,.aH true [.p,.p,.p]),(3,true,.aH true [.k,.k,.k,.k,.o true,.k])]),
 ((182,2,28),[(3,true,.aH true [.k,.k,.k,.k,.o true,.k])]),
 ((182,2,45),[(3,true,.aH true [.k,.k,.k,.k,.k,.p])]),
 ((226,2,14),[(0,true,.aH true [.p,.p,.p]),(3,true,.aH true [.k,.p,.p,.p,.p,.o false,.p,.p]),(5,false,.aH true [.k,.k,.k,.k,.k,.d,.k,.k])]),
 ((226,2,20),[(0,true,.aH true [.p,.p,.p]),(3,true,.aH true [.k,.k,.p,.p,.p,.o false,.p,.p]),(5,false,.aH true [.k,.k,.k,.k,.k,.d,.k,.k])]),
 ((226,2,26),[(0,true,.aH true [.p,.p,.p]),(3,true,.aH true [.k,.k,.k,.p,.p,.o false,.p,.p]),(5,false,.aH true [.k,.k,.k,.k,.k,.d,.k,.k])]),
 ((226,2,32),[(0,true,.aH true [.p,.p,.p]),(3,true,.aH true [.k,.k,.k,.k,.p,.o false,.p,.p]),(5,false,.aH true [.k,.k,.k,.k,.k,.d,.k,.k])]),
 ((226,2,38),[(0,true,.aH true [.p,.p,.p]),(3,true,.aH true [.k,.k,.k,.k,.k,.o false,.p,.p]),(5,false,.aH true [.k,.k,.k,.k,.k,.d,.k,.k])]),
 ((226,2,51),[(0,true,.aH true [.p,.p,.p]),(3,true,.aH true [.k,.k,.k,.k,.k,.k,.p,.p])]),
 ((226,2,57),[(3,true,.aH true [.k,.k,.k,.k,.k,.k,.k,.p])]),
 ((226,2,8),[(0,true,.aH true [.p,.p,.p]),(3,true,.aH true [.p,.p,.p,.p,.p,.o false,.p,.p]),(5,false,.aH true [.k,.k,.k,.k,.k,.d,.k,.k])]),
 ((183,2,15),[(0,true,.aH true [.p,.p,.p]),(3,true,.aH true [.k,.p,.k,.p,.o true,.o false]),(6,false,.aH true [.k,.k,.k,.k,.d,.d])]),
 ((183,2,23),[(0,true,.aH true [.p,.p,.p]),(3,true,.aH true [.k,.k,.k,.p,.o true,.o false]),(6,false,.aH true [.k,.k,.k,.k,.d,.d])]),
 ((183,2,29),[(0,true,.aH true [.p,.p,.p]),(3,true,.aH true [.k,.k,.k,.k,.o true,.o false]),(6,false,.aH true [.k,.k,.k,.k,.d,.d])]),
 ((183,2,38),[(0,true,.aH true [.p,.p,.p]),(3,true,.aH true [.k,.k,.k,.k,.k,.o false]),(6,false,.aH true [.k,.k,.k,.k,.k,.d])]),
 ((183,2,9),[(0,true,.aH true [.p,.p,.p]),(3,true,.aH true [.p,.p,.k,.p,.o true,.o false]),(6,false,.aH true [.k,.k,.k,.k,.d,.d])]),
 ((80,0,0),[(8,false,.aH false [.p]),(0,true,.aH true [.p,.p,.p]),(7,false,.rows [(0,true)])]),
 ((80,2,44),[(0,true,.aH true [.p,.p,.p]),(7,false,.aH false [.p])]),
 ((80,2,76),[(0,true,.aH true [.p,.p,.p]),(7,false,.rows [(0,true)])]),
 ((80,2,85),[(5,true,.aH true [.k,.k,.k,.k,.k,.p])]),
 ((80,2,92),[(5,true,.aH true [.k,.k,.k,.k,.k,.p])]),
 ((68,0,0),[(2,false,.aH false [.p]),(26,false,.aH false [.p])]),
 ((68,0,2),[(2,false,.aH false [.p]),(55,false,.aH false [.p])]),
 ((172,0,0),[(8,false,.aH false [.p]),(14,false,.aH false [.p])]),
 ((70,0,0),[(2,false,.aH false [.p]),(3,false,.aH false [.p])]),
 ((222,0,0),[(2,false,.aH false [.p]),(8,false,.aH false [.p])]),
 ((71,0,0),[(2,false,.aH false [.p]),(7,false,.aH false [.p])]),
 ((87,0,0),[(5,false,.aH false [.o true]),(6,false,.aH false [.p])]),
 ((87,0,2),[(5,false,.aH false [.o true]),(7,false,.aH false [.p])]),
 ((87,2,23),[(5,false,.aH false [.o true])]),
 ((82,0,0),[(3,false,.aH false [.o true]),(8,false,.aH false [.p])]),
 ((82,2,13),[(3,false,.aH false [.o true])]),
 ((88,0,0),[(4,false,.aH false [.p]),(13,false,.aH false [.p])]),
 ((23,0,0),[(2,false,.aH false [.p]),(26,false,.aH false [.p])]),
 ((56,0,0),[(3,false,.aH false [.o true]),(8,false,.aH false [.p])]),
 ((91,0,0),[(6,false,.aH false [.p]),(12,false,.aH false [.p])]),
 ((189,0,0),[(2,false,.aH false [.p]),(7,false,.aH false [.p])]),
 ((187,2,17),[(3,true,.aH true [.k,.k,.k,.k,.k,.k,.p,.k])]),
 ((158,0,0),[(4,false,.aH false [.p]),(36,false,.aH false [.p])]),
 ((190,0,0),[(2,false,.aH false [.p]),(8,false,.aH false [.p])]),
 ((92,0,0),[(2,false,.aH false [.p]),(49,false,.aH false [.p])]),
 ((175,0,0),[(4,false,.aH false [.p]),(9,false,.aH false [.p])]),
 ((84,0,0),[(5,false,.aH false [.p])]),
 ((84,4,6),[(0,false,.rows [(0,true)])]),
 ((74,0,0),[(5,false,.aH false [.o true]),(11,false,.aH false [.p])]),
 ((74,2,24),[(5,false,.aH false [.o true])]),
 ((73,0,0),[(3,false,.aH false [.o true]),(14,false,.aH false [.p])]),
 ((73,0,2),[(7,false,.aH false [.p]),(6,true,.aH true [.k,.k,.k,.k,.k,.o true,.k,.k])]),
 ((73,2,36),[(6,true,.aH true [.k,.k,.k,.k,.k,.o true,.k,.k])]),
 ((57,0,0),[(5,false,.aH false [.p])]),
 ((57,2,40),[(5,false,.aH false [.p])]),
 ((76,0,0),[(7,false,.aH false [.o false]),(14,false,.aH false [.p])]),
 ((76,0,2),[(7,false,.aH false [.o false]),(34,false,.aH false [.p])]),
 ((76,2,26),[(7,false,.aH false [.o false])]),
 ((157,0,0),[(4,false,.aH false [.p]),(9,false,.aH false [.p])]),
 ((244,0,0),[(8,false,.aH false [.p]),(25,false,.aH false [.p])]),
 ((227,0,1),[(34,false,.aH false [.p]),(5,true,.aH true [.k,.k,.o true])]),
 ((227,0,3),[(47,false,.aH false [.p]),(5,true,.aH true [.k,.k,.o true])]),
 ((223,0,0),[(10,false,.aH false [.p]),(3,false,.rows [(0,true)])]),
 ((223,2,47),[(12,true,.aH true [.k,.k,.o true])]),
 ((223,2,55),[(3,false,.rows [(0,true)]),(12,true,.aH true [.k,.k,.d])]),
 ((223,2,70),[(3,false,.rows [(0,true)])]),
 ((176,0,0),[(8,false,.aH false [.o true]),(30,false,.rows [(0,true)])]),
 ((176,0,2),[(9,false,.aH false [.p]),(10,false,.aH false [.p])]),
 ((176,0,4),[(11,false,.aH false [.o true]),(84,false,.aH false [.p]),(30,false,.rows [(0,true)])]),
 ((176,2,68),[(9,false,.aH false [.p])]),
 ((176,2,90),[(11,false,.aH false [.o true]),(87,false,.aH true [.k,.k,.d]),(13,true,.aH true [.k,.k,.d])]),
 ((176,5,16),[(7,false,.rows [(0,true)])]),
 ((178,0,0),[(5,false,.aH false [.p]),(10,false,.aH false [.p])]),
 ((177,2,36),[(4,true,.aH false [.o true])]),
 ((225,0,0),[(5,false,.aH false [.p])]),
 ((225,5,7),[(0,false,.rows [(0,true)])]),
 ((179,0,0),[(7,false,.aH false [.o true]),(14,false,.aH false [.p])]),
 ((179,0,2),[(7,false,.aH false [.o true]),(23,false,.aH false [.p]),(21,false,.rows [(0,false)])]),
 ((180,0,0),[(10,false,.aH false [.o true]),(23,false,.aH false [.p])]),
 ((77,0,0),[(9,false,.aH false [.o true]),(21,false,.aH false [.p])]),
 ((77,0,2),[(43,false,.aH false [.p]),(13,true,.aH false [.o true]),(41,false,.rows [(0,false)])]),
 ((77,0,4),[(58,false,.aH false [.p]),(13,true,.aH false [.o true]),(56,false,.rows [(0,false)])]),
 ((77,2,27),[(9,false,.aH false [.o true])]),
 ((77,2,52),[(13,true,.aH false [.o true])]),
 ((18,0,0),[(3,false,.aH false [.o true]),(22,false,.aH false [.p]),(19,false,.rows [(0,false)])]),
 ((18,0,2),[(3,false,.aH false [.o true]),(48,false,.aH false [.p])]),
 ((18,0,4),[(3,false,.aH false [.o true]),(59,false,.aH false [.p]),(57,false,.rows [(0,false)])]),
 ((18,0,6),[(3,false,.aH false [.o true]),(72,false,.aH false [.p])]),
 ((18,2,39),[(3,false,.aH false [.o true]),(19,false,.aH false [.p]),(4,false,.aH false [.p]),(20,false,.aH false [.p])]),
 ((18,2,80),[(3,false,.aH false [.o true])]),
 ((159,2,12),[(5,false,.aH false [.p])]),
 ((160,2,8),[(3,true,.aH true [.k,.k,.k,.k,.k,.k,.p,.k])]),
 ((55,0,0),[(3,false,.aH false [.o true]),(15,false,.aH false [.p]),(12,false,.rows [(0,false)])]),
 ((55,0,2),[(3,false,.aH false [.o true]),(46,false,.aH false [.p])]),
 ((55,2,34),[(3,false,.aH false [.o true]),(6,true,.aH true [.k,.k,.k,.k,.p,.k,.k,.k])]),
 ((55,2,66),[(3,false,.aH false [.o true]),(10,true,.aH true [.k,.k,.k,.k,.p,.k,.k,.k])]),
 ((11,0,0),[(3,false,.aH false [.o true]),(6,false,.aH false [.o true]),(22,false,.aH false [.p])]),
 ((193,0,0),[(5,false,.aH false [.o true]),(13,false,.aH false [.p])]),
 ((193,0,2),[(5,false,.aH false [.o true]),(23,false,.aH false [.p])]),
 ((193,2,41),[(5,false,.aH false [.o true])]),
 ((186,0,0),[(5,false,.aH false [.o true]),(10,false,.aH false [.p])]),
 ((186,2,22),[(5,false,.aH false [.o true])]),
 ((96,0,0),[(9,false,.aH false [.o false]),(25,false,.aH false [.p]),(0,true,.aH true [.p,.p,.p,.p,.p,.p,.p,.p]),(23,false,.aH false [.p])]),
 ((96,2,36),[(14,false,.aH false [.o true])]),
 ((96,2,47),[(0,true,.aH true [.p,.p,.p,.p,.p,.p,.p,.p]),(9,false,.aH false [.o false]),(23,false,.aH false [.p]),(14,false,.aH false [.p]),(44,false,.drop)]),
 ((191,0,0),[(5,false,.aH false [.o true]),(11,false,.aH false [.p])]),
 ((191,2,29),[(5,false,.aH false [.o true])]),
 ((86,0,0),[(5,false,.aH false [.o true]),(12,false,.aH false [.p]),(10,false,.rows [(0,false)])]),
 ((94,2,32),[(0,true,.aH true [.p,.p,.p,.p,.p,.p,.p,.p]),(9,false,.aH false [.o false]),(14,false,.aH false [.p]),(22,false,.aH false [.p]),(29,false,.aH false [.p]),(10,false,.aH false [.p]),(30,false,.aH false [.p])]),
 ((94,2,45),[(0,true,.aH true [.p,.p,.p,.p,.p,.p,.p,.p]),(9,false,.aH false [.o false])]),
 ((192,0,0),[(6,false,.aH false [.o true]),(7,false,.aH false [.o true]),(16,false,.aH false [.p])]),
 ((192,2,26),[(6,false,.aH false [.o true]),(7,false,.aH false [.o true]),(10,false,.aH false [.d])]),
 ((22,0,0),[(22,false,.aH false [.p]),(14,false,.rows [(7,true)])]),
 ((22,0,2),[(7,false,.aH false [.o false]),(62,false,.aH false [.p]),(4,true,.aH true [.p,.p,.p,.p,.p,.p,.p,.p]),(14,false,.aH true [.k,.k,.k,.k,.k,.k,.k,.p]),(20,false,.aH false [.p]),(54,false,.aH false [.p]),(60,false,.aH false [.p])]),
 ((22,0,4),[(10,false,.aH false [.o true]),(69,false,.aH false [.p])]),
 ((22,2,82),[(10,false,.aH false [.o true])]),
 ((22,2,95),[(4,true,.aH true [.p,.p,.p,.p,.p,.p,.p,.p]),(7,false,.aH false [.o false]),(93,false,.aH false [.d])]),
 ((98,0,0),[(6,false,.aH false [.p]),(7,false,.aH false [.p])]),
 ((194,0,0),[(4,false,.aH false [.p]),(5,false,.aH false [.p])]),
 ((99,0,0),[(2,false,.aH false [.p]),(3,false,.aH false [.p]),(5,false,.aH false [.p])]),
 ((99,0,2),[(2,false,.aH false [.p]),(3,false,.aH false [.p]),(6,false,.aH false [.p])]),
 ((29,0,0),[(2,false,.aH false [.p]),(3,false,.aH false [.p])]),
 ((29,0,2),[(2,false,.aH false [.p]),(4,false,.aH false [.p])]),
 ((29,1,1),[(34,false,.aH false [.p])]),
 ((29,1,14),[(127,false,.aH false [.p])]),
 ((29,1,8),[(92,false,.aH false [.p])]),
 ((102,0,0),[(9,false,.aH false [.o true]),(10,false,.aH false [.p])]),
 ((102,0,2),[(12,false,.aH false [.p]),(13,false,.aH false [.p])]),
 ((102,0,4),[(12,false,.aH false [.p]),(14,false,.aH false [.p])]),
 ((102,2,34),[(12,false,.aH false [.p]),(31,false,.aH false [.d])]),
 ((102,2,65),[(9,false,.aH false [.o true]),(12,false,.aH false [.d]),(62,false,.aH false [.d]),(63,false,.aH false [.d])]),
 ((28,0,0),[(5,false,.aH false [.o true]),(6,false,.aH false [.p])]),
 ((28,2,35),[(5,false,.aH false [.o true])]),
 ((103,2,23),[(7,false,.aH false [.o false]),(10,false,.aH false [.d])]),
 ((103,2,41),[(7,false,.aH false [.o false])]),
 ((104,0,0),[(7,false,.aH false [.o true]),(8,false,.aH false [.p]),(6,true,.aH true [.k,.k,.k,.k,.k,.k,.p]),(12,false,.aH true [.k,.k,.k,.k,.k,.k,.p])]),
 ((104,2,35),[(6,true,.aH true [.k,.k,.k,.k,.k,.k,.p]),(7,false,.aH false [.o true])]),
 ((27,4,12),[(6,true,.rows [(3,true),(4,true),(5,true),(6,true),(7,true)]),(10,false,.rows [(0,true)])]),
 ((27,4,16),[(6,true,.rows [(3,true),(4,true),(5,true),(6,true),(7,true)])]),
 ((27,4,20),[(6,true,.rows [(3,true),(4,true),(5,true),(6,true),(7,true)]),(12,false,.rows [(0,true)]),(13,false,.rows [(0,true)])]),
 ((5,0,0),[(2,false,.aH false [.p]),(12,false,.aH false [.p])]),
 ((5,0,2),[(13,false,.aH false [.p]),(14,false,.aH false [.p])])]
def lfz:List (Nat×Nat×Nat):=[(176,18,1)]
def amE:List Nat:=[11,5]
def lfn:List (Nat×Func):=[(53,Tryz.f53),(84,Tryz.f84),(223,Tryz.f223),(177,Tryz.f177),(225,Tryz.f225),(83,Tryz.f83),(96,Tryz.f96),(93,Tryz.f93),(94,Tryz.f94)]
def cx:Cx:={ty:=BW lty,sg:=λ_=>none,fn:=FT lfn,rT:=Ur amD,fz:=Us lfz,nest:=Ut amE}
theorem amF:jK Tryz.prog 53:=.mk Tryz.func53 (by kernel_rfl) (by kernel_rfl)
theorem amG:jK Tryz.prog 84:=.mk Tryz.func84 (by kernel_rfl) (by kernel_rfl)
theorem amH:jK Tryz.prog 223:=.mk Tryz.func223 (by kernel_rfl) (by kernel_rfl)
theorem amI:jK Tryz.prog 177:=.mk Tryz.func177 (by kernel_rfl) (by kernel_rfl)
theorem amJ:jK Tryz.prog 225:=.mk Tryz.func225 (by kernel_rfl) (by kernel_rfl)
theorem amK:jK Tryz.prog 83:=.mk Tryz.func83 (by kernel_rfl) (by kernel_rfl)
theorem amL:jK Tryz.prog 96:=.mk Tryz.func96 (by kernel_rfl) (by kernel_rfl)
theorem amM:jK Tryz.prog 93:=.mk Tryz.func93 (by kernel_rfl) (by kernel_rfl)
theorem amN:jK Tryz.prog 94:=.mk Tryz.func94 (by kernel_rfl) (by kernel_rfl)
theorem LA:Ll Tryz.prog cx:=⟨aiI (l:=lty) (by kernel_rfl) rfl,aiJ (l:=lfn) (fc ⟨⟨Tryz.func53,amF⟩,fc ⟨⟨Tryz.func84,amG⟩,fc ⟨⟨Tryz.func223,amH⟩,fc ⟨⟨Tryz.func177,amI⟩,fc ⟨⟨Tryz.func225,amJ⟩,fc ⟨⟨Tryz.func83,amK⟩,fc ⟨⟨Tryz.func96,amL⟩,fc ⟨⟨Tryz.func93,amM⟩,fc ⟨⟨Tryz.func94,amN⟩,f0⟩⟩⟩⟩⟩⟩⟩⟩⟩) rfl,by kernel_rfl⟩
structure J where
 g:Nat
 sg:nU
 ks:List (BV Tryz.prog)
 fn:Func
def jo(j:J):Option PL:=AX (cx.on (Uu j.ks)) 8 j.g j.fn j.sg
def jp(j:J):PL:=(jo j).getD (.ret [])
theorem gs{o:Option PL}{d:PL}(h:o.isSome=true):o=some (o.getD d):=by cases o with|none=>cases h|some x=>rfl
def cK(j:J)(F:aA)(hf:Tryz.prog.funcs[j.g]?=some j.fn)(h:(jo j).isSome=true)(h1:((j.fn.name== "runtime.NumGoroutine")||j.fn.body.isNone)=false)(hF:F=Fs (jp j) (kS j.ks)):BV Tryz.prog:=BV.i_ LA j.g j.sg (jp j) F j.ks hf (gs h) h1 hF
def B_:PL:=
 .ins (.pr (.len) [.a 0])<|
 .ins (.pr (.bin .gtr) [.a 1,.k (.int .i64 1048576)])<|
 .ins (.pr (.rP) [.a 2])<|
 .ret [.a 3]
def amO:Nat->aA:=pick []
def Ca:aA:=λts=>B_.den amO rounds [] ts
def amP:=BV.i_ LA 9 ⟨[.v false 1],[(false,[.s])]⟩ B_ Ca [] Tryz.func9 (by kernel_rfl) (by kernel_rfl) (by kernel_rfl)
def VD:J:=⟨215,⟨[.x 3],[(false,[.s])]⟩,[],Tryz.f215⟩
def VE:PL:=jp VD
def VF:aA:=Fs VE []
def amQ:=cK VD VF Tryz.func215 (by kernel_rfl) (by kernel_rfl) (by kernel_rfl)
def VG:J:=⟨149,⟨[.x 3,.v false 1],[(false,[.s])]⟩,[amQ],Tryz.f149⟩
def VH:PL:=jp VG
def n4:aA:=Fs VH [(215,VF)]
def Cb:=cK VG n4 Tryz.func149 (by kernel_rfl) (by kernel_rfl) (by kernel_rfl)
def VI:J:=⟨212,⟨[.x 3,.v false 1],[(false,[.s])]⟩,[Cb],Tryz.f212⟩
def VJ:PL:=jp VI
def Cc:aA:=Fs VJ [(149,n4)]
def ks_:=cK VI Cc Tryz.func212 (by kernel_rfl) (by kernel_rfl) (by kernel_rfl)
def VK:J:=⟨204,⟨[.v true 4,.v true 4],[(false,[.s])]⟩,[],Tryz.f204⟩
def VL:PL:=jp VK
def LB:aA:=Fs VL []
def VM:=cK VK LB Tryz.func204 (by kernel_rfl) (by kernel_rfl) (by kernel_rfl)
def VN:J:=⟨213,⟨[.v false 1,.v true 4],[(false,[.o true])]⟩,[VM],Tryz.f213⟩
def VO:PL:=jp VN
def Cd:aA:=Fs VO [(204,LB)]
def amR:=cK VN Cd Tryz.func213 (by kernel_rfl) (by kernel_rfl) (by kernel_rfl)
def VP:J:=⟨151,⟨[.x 3,.v false 1],[(false,[.s])]⟩,[Cb],Tryz.f151⟩
def VQ:PL:=jp VP
def uD:aA:=Fs VQ [(149,n4)]
def Qv:=cK VP uD Tryz.func151 (by kernel_rfl) (by kernel_rfl) (by kernel_rfl)
def VR:J:=⟨205,⟨[.v true 4,.v true 4],[(false,[.s])]⟩,[],Tryz.f205⟩
def VS:PL:=jp VR
def LC:aA:=Fs VS []
def VT:=cK VR LC Tryz.func205 (by kernel_rfl) (by kernel_rfl) (by kernel_rfl)
def VU:J:=⟨214,⟨[.v false 1,.v true 4],[(false,[.o true])]⟩,[VT],Tryz.f214⟩
def VV:PL:=jp VU
def VW:aA:=Fs VV [(205,LC)]
def amS:=cK VU VW Tryz.func214 (by kernel_rfl) (by kernel_rfl) (by kernel_rfl)
def VX:J:=⟨148,⟨[.x 3],[(true,[.s,.o false,.o false])]⟩,[Cb,Qv,ks_,amR,amS],Tryz.f148⟩
def VY:PL:=jp VX
def Cf:aA:=Fs VY [(149,n4),(151,uD),(212,Cc),(213,Cd),(214,VW)]
def amT:=cK VX Cf Tryz.func148 (by kernel_rfl) (by kernel_rfl) (by kernel_rfl)
def VZ:J:=⟨150,⟨[.v true 3,.v false 1,.v false 1,.v false 1],[(false,[.s])]⟩,[],Tryz.f150⟩
def V0:PL:=jp VZ
def wH:aA:=Fs V0 []
def Qw:=cK VZ wH Tryz.func150 (by kernel_rfl) (by kernel_rfl) (by kernel_rfl)
def V1:J:=⟨105,⟨[.v false 1,.v false 1,.v false 1],[(false,[.s])]⟩,[],Tryz.f105⟩
def V2:PL:=jp V1
def ra:aA:=Fs V2 []
def F3:=cK V1 ra Tryz.func105 (by kernel_rfl) (by kernel_rfl) (by kernel_rfl)
def V3:J:=⟨203,⟨[.v false 1,.v true 4],[(false,[.s])]⟩,[F3],Tryz.f203⟩
def V4:PL:=jp V3
def Cg:aA:=Fs V4 [(105,ra)]
def amU:=cK V3 Cg Tryz.func203 (by kernel_rfl) (by kernel_rfl) (by kernel_rfl)
def V5:J:=⟨132,⟨[.v true 3],[(false,[.s])]⟩,[F3,amU,VM,VT],Tryz.f132⟩
def V6:PL:=jp V5
def LD:aA:=Fs V6 [(105,ra),(203,Cg),(204,LB),(205,LC)]
def V7:=cK V5 LD Tryz.func132 (by kernel_rfl) (by kernel_rfl) (by kernel_rfl)
def V8:J:=⟨78,⟨[.v true 3,.v false 1,.v false 1],[(false,[.p])]⟩,[Qw],Tryz.f78⟩
def V9:PL:=jp V8
def Ch:aA:=Fs V9 [(150,wH)]
def amV:=cK V8 Ch Tryz.func78 (by kernel_rfl) (by kernel_rfl) (by kernel_rfl)
def V_:J:=⟨20,⟨[.v true 3,.v false 1],[(false,[.p])]⟩,[amV],Tryz.f20⟩
def V':PL:=jp V_
def F4:aA:=Fs V' [(78,Ch)]
def LF:=cK V_ F4 Tryz.func20 (by kernel_rfl) (by kernel_rfl) (by kernel_rfl)
def Wa:J:=⟨216,⟨[.v true 3,.v false 1,.v false 1,.v false 1,.v false 1],[(false,[.s])]⟩,[],Tryz.f216⟩
def Wb:PL:=jp Wa
def Wc:aA:=Fs Wb []
def amW:=cK Wa Wc Tryz.func216 (by kernel_rfl) (by kernel_rfl) (by kernel_rfl)
def Wd:J:=⟨168,⟨[.v true 8,.v true 8],[(false,[.s])]⟩,[],Tryz.f168⟩
def We:PL:=jp Wd
def LG:aA:=Fs We []
def Wf:=cK Wd LG Tryz.func168 (by kernel_rfl) (by kernel_rfl) (by kernel_rfl)
def Wg:J:=⟨62,⟨[.v false 1,.v true 8],[(false,[.p])]⟩,[Wf],Tryz.f62⟩
def Wh:PL:=jp Wg
def rH:aA:=Fs Wh [(168,LG)]
def Qx:=cK Wg rH Tryz.func62 (by kernel_rfl) (by kernel_rfl) (by kernel_rfl)
def Wi:J:=⟨166,⟨[.v true 3,.v false 1],[(false,[.s])]⟩,[LF],Tryz.f166⟩
def Wj:PL:=jp Wi
def LH:aA:=Fs Wj [(20,F4)]
def Wl:=cK Wi LH Tryz.func166 (by kernel_rfl) (by kernel_rfl) (by kernel_rfl)
def Wm:J:=⟨229,⟨[.v true 8],[(false,[.s])]⟩,[F3],Tryz.f229⟩
def Wn:PL:=jp Wm
def Wo:aA:=Fs Wn [(105,ra)]
def amX:=cK Wm Wo Tryz.func229 (by kernel_rfl) (by kernel_rfl) (by kernel_rfl)
def Wp:J:=⟨195,⟨[.v true 8],[(false,[.s])]⟩,[F3,amX],Tryz.f195⟩
def Wq:PL:=jp Wp
def LI:aA:=Fs Wq [(105,ra),(229,Wo)]
def Wr:=cK Wp LI Tryz.func195 (by kernel_rfl) (by kernel_rfl) (by kernel_rfl)
def Ws:J:=⟨106,⟨[.v false 1],[(false,[.s])]⟩,[Wf,Wr],Tryz.f106⟩
def Wt:PL:=jp Ws
def y_:aA:=Fs Wt [(168,LG),(195,LI)]
def Wu:=cK Ws y_ Tryz.func106 (by kernel_rfl) (by kernel_rfl) (by kernel_rfl)
def Wv:J:=⟨72,⟨[.v true 8,.v true 8],[(false,[.s])]⟩,[],Tryz.f72⟩
def Ww:PL:=jp Wv
def LJ:aA:=Fs Ww []
def Wx:=cK Wv LJ Tryz.func72 (by kernel_rfl) (by kernel_rfl) (by kernel_rfl)
def Wy:J:=⟨63,⟨[.v false 1,.v true 8],[(false,[.s])]⟩,[Wx],Tryz.f63⟩
def Wz:PL:=jp Wy
def xB:aA:=Fs Wz [(72,LJ)]
def Ci:=cK Wy xB Tryz.func63 (by kernel_rfl) (by kernel_rfl) (by kernel_rfl)
def WC:J:=⟨233,⟨[.v false 1,.v false 1,.v false 1],[(true,[.s,.s,.s,.s,.s,.p,.s,.s]),(false,[.s])]⟩,[Ci],Tryz.f233⟩
def WD:PL:=jp WC
def D_:aA:=Fs WD [(63,xB)]
def LK:=cK WC D_ Tryz.func233 (by kernel_rfl) (by kernel_rfl) (by kernel_rfl)
def WE:J:=⟨242,⟨[.v false 1,.v false 1,.v false 1,.v false 1],[(false,[.s])]⟩,[LK],Tryz.f242⟩
def WG:PL:=jp WE
def WH:aA:=Fs WG [(233,D_)]
def amY:=cK WE WH Tryz.func242 (by kernel_rfl) (by kernel_rfl) (by kernel_rfl)
def WI:J:=⟨234,⟨[.v false 1,.v false 1],[(false,[.p])]⟩,[F3,LK,amY],Tryz.f234⟩
def WJ:PL:=jp WI
def WK:aA:=Fs WJ [(105,ra),(233,D_),(242,WH)]
def amZ:=cK WI WK Tryz.func234 (by kernel_rfl) (by kernel_rfl) (by kernel_rfl)
def WL:J:=⟨100,⟨[.v false 1,.v false 1],[(false,[.s])]⟩,[],Tryz.f100⟩
def WM:PL:=jp WL
def LL:aA:=Fs WM []
def WN:=cK WL LL Tryz.func100 (by kernel_rfl) (by kernel_rfl) (by kernel_rfl)
def WO:J:=⟨235,⟨[.v false 1,.v false 1],[(false,[.o true])]⟩,[WN],Tryz.f235⟩
def WQ:PL:=jp WO
def F5:aA:=Fs WQ [(100,LL)]
def WR:=cK WO F5 Tryz.func235 (by kernel_rfl) (by kernel_rfl) (by kernel_rfl)
def WS:J:=⟨218,⟨[.v false 1,.v false 1,.v false 1],[(false,[.p])]⟩,[F3,Wu,LK,amZ,WR],Tryz.f218⟩
def WU:PL:=jp WS
def F6:aA:=Fs WU [(105,ra),(106,y_),(233,D_),(234,WK),(235,F5)]
def LM:=cK WS F6 Tryz.func218 (by kernel_rfl) (by kernel_rfl) (by kernel_rfl)
def WV:J:=⟨238,⟨[.v true 3],[(true,[.s,.s,.p])]⟩,[],Tryz.f238⟩
def WW:PL:=jp WV
def LN:aA:=Fs WW []
def WX:=cK WV LN Tryz.func238 (by kernel_rfl) (by kernel_rfl) (by kernel_rfl)
def WY:J:=⟨221,⟨[.v false 1,.v false 1],[(true,[.s,.s,.p]),(false,[.s])]⟩,[WX],Tryz.f221⟩
def WZ:PL:=jp WY
def Al:aA:=Fs WZ [(238,LN)]
def F7:=cK WY Al Tryz.func221 (by kernel_rfl) (by kernel_rfl) (by kernel_rfl)
def W3:J:=⟨243,⟨[.v true 3,.v true 3],[(false,[.s])]⟩,[],Tryz.f243⟩
def W4:PL:=jp W3
def Cl:aA:=Fs W4 []
def am0:=cK W3 Cl Tryz.func243 (by kernel_rfl) (by kernel_rfl) (by kernel_rfl)
def W5:J:=⟨236,⟨[.v true 3,.v true 3],[(true,[.s,.s,.p])]⟩,[WR,WX,am0],Tryz.f236⟩
def W6:PL:=jp W5
def LO:aA:=Fs W6 [(235,F5),(238,LN),(243,Cl)]
def W7:=cK W5 LO Tryz.func236 (by kernel_rfl) (by kernel_rfl) (by kernel_rfl)
def W8:J:=⟨219,⟨[.v false 1,.v false 1,.v false 1],[(false,[.p])]⟩,[LM,F7,W7],Tryz.f219⟩
def W9:PL:=jp W8
def LP:aA:=Fs W9 [(218,F6),(221,Al),(236,LO)]
def W_:=cK W8 LP Tryz.func219 (by kernel_rfl) (by kernel_rfl) (by kernel_rfl)
def Xa:J:=⟨237,⟨[.v false 1,.v false 1,.v false 1,.v false 1,.v false 1,.v true 3,.v false 1],[(true,[.s,.s,.p]),(false,[.s])]⟩,[F7,W7],Tryz.f237⟩
def Xb:PL:=jp Xa
def Xc:aA:=Fs Xb [(221,Al),(236,LO)]
def am1:=cK Xa Xc Tryz.func237 (by kernel_rfl) (by kernel_rfl) (by kernel_rfl)
def Xd:J:=⟨220,⟨[.v false 1,.v false 1,.v false 1,.v false 1],[(false,[.p])]⟩,[Wu,LM,W_,F7,am1],Tryz.f220⟩
def Xe:PL:=jp Xd
def Xf:aA:=Fs Xe [(106,y_),(218,F6),(219,LP),(221,Al),(237,Xc)]
def am2:=cK Xd Xf Tryz.func220 (by kernel_rfl) (by kernel_rfl) (by kernel_rfl)
def Xg:J:=⟨167,⟨[.v false 1,.v false 1,.v false 1,.v false 1],[(false,[.p])]⟩,[Wu,LM,W_,am2,F7],Tryz.f167⟩
def Xh:PL:=jp Xg
def LQ:aA:=Fs Xh [(106,y_),(218,F6),(219,LP),(220,Xf),(221,Al)]
def Xi:=cK Xg LQ Tryz.func167 (by kernel_rfl) (by kernel_rfl) (by kernel_rfl)
def Xj:J:=⟨67,⟨[.v false 1,.v false 1],[(false,[.p])]⟩,[Qx],Tryz.f67⟩
def Xk:PL:=jp Xj
def F8:aA:=Fs Xk [(62,rH)]
def LR:=cK Xj F8 Tryz.func67 (by kernel_rfl) (by kernel_rfl) (by kernel_rfl)
def Xl:J:=⟨217,⟨[.v false 1,.v false 1,.v false 1],[(false,[.p])]⟩,[LR,Xi],Tryz.f217⟩
def Xm:PL:=jp Xl
def Xn:aA:=Fs Xm [(67,F8),(167,LQ)]
def am3:=cK Xl Xn Tryz.func217 (by kernel_rfl) (by kernel_rfl) (by kernel_rfl)
def Xo:J:=⟨65,⟨[.v true 8],[(true,[.s,.s,.s,.s,.s,.o true,.s,.s])]⟩,[],Tryz.f65⟩
def Xp:PL:=jp Xo
def sJ:aA:=Fs Xp []
def LS:=cK Xo sJ Tryz.func65 (by kernel_rfl) (by kernel_rfl) (by kernel_rfl)
def Xq:J:=⟨66,⟨[.v false 1],[(false,[.o true])]⟩,[LS],Tryz.f66⟩
def Xr:PL:=jp Xq
def tv:aA:=Fs Xr [(65,sJ)]
def LU:=cK Xq tv Tryz.func66 (by kernel_rfl) (by kernel_rfl) (by kernel_rfl)
def Xs:J:=⟨152,⟨[.v true 3,.v false 1,.v false 1],[(false,[.p]),(false,[.s])]⟩,[LF,Qx,LU,V7,Wl,amW,am3],Tryz.f152⟩
def Xt:PL:=jp Xs
def LV:aA:=Fs Xt [(20,F4),(62,rH),(66,tv),(132,LD),(166,LH),(216,Wc),(217,Xn)]
def am4:=cK Xs LV Tryz.func152 (by kernel_rfl) (by kernel_rfl) (by kernel_rfl)
def Xu:J:=⟨155,⟨[.x 3],[(true,[.s,.s,.s,.s,.s,.o false,.s,.s])]⟩,[Cb,Qv,ks_],Tryz.f155⟩
def Xv:PL:=jp Xu
def Am:aA:=Fs Xv [(149,n4),(151,uD),(212,Cc)]
def LW:=cK Xu Am Tryz.func155 (by kernel_rfl) (by kernel_rfl) (by kernel_rfl)
def Xw:J:=⟨154,⟨[.v false 1,.v true 8],[(false,[.p]),(false,[.s])]⟩,[Qx,Ci,Wr],Tryz.f154⟩
def Xx:PL:=jp Xw
def An:aA:=Fs Xx [(62,rH),(63,xB),(195,LI)]
def LX:=cK Xw An Tryz.func154 (by kernel_rfl) (by kernel_rfl) (by kernel_rfl)
def Xy:J:=⟨153,⟨[.x 3],[(false,[.p])]⟩,[Cb,LX,LW],Tryz.f153⟩
def Xz:PL:=jp Xy
def Cm:aA:=Fs Xz [(149,n4),(154,An),(155,Am)]
def LY:=cK Xy Cm Tryz.func153 (by kernel_rfl) (by kernel_rfl) (by kernel_rfl)
def XA:J:=⟨52,⟨[.x 3],[(true,[.s,.s,.s,.p,.p,.p,.p])]⟩,[amT,Cb,Qw,Qv,am4,LY,LX,LW],Tryz.f52⟩
def XB:PL:=jp XA
def XC:aA:=Fs XB [(148,Cf),(149,n4),(150,wH),(151,uD),(152,LV),(153,Cm),(154,An),(155,Am)]
def am5:=cK XA XC Tryz.func52 (by kernel_rfl) (by kernel_rfl) (by kernel_rfl)
def XD:J:=⟨164,⟨[.v true 7],[(false,[.s])]⟩,[Qw],Tryz.f164⟩
def XE:PL:=jp XD
def XF:aA:=Fs XE [(150,wH)]
def am6:=cK XD XF Tryz.func164 (by kernel_rfl) (by kernel_rfl) (by kernel_rfl)
def XG:J:=⟨58,⟨[.v true 7],[(false,[.s])]⟩,[F3,Wu,V7,am6],Tryz.f58⟩
def XH:PL:=jp XG
def za:aA:=Fs XH [(105,ra),(106,y_),(132,LD),(164,XF)]
def Cn:=cK XG za Tryz.func58 (by kernel_rfl) (by kernel_rfl) (by kernel_rfl)
def XI:J:=⟨59,⟨[.v true 7],[(true,[.s,.s,.s,.o true,.o true,.o true,.o true])]⟩,[LU],Tryz.f59⟩
def XJ:PL:=jp XI
def Ea:aA:=Fs XJ [(66,tv)]
def LZ:=cK XI Ea Tryz.func59 (by kernel_rfl) (by kernel_rfl) (by kernel_rfl)
def XK:J:=⟨165,⟨[.v true 7,.v false 1],[(true,[.s,.s,.s,.s,.s,.p,.s,.s])]⟩,[Qw],Tryz.f165⟩
def XL:PL:=jp XK
def XM:aA:=Fs XL [(150,wH)]
def am7:=cK XK XM Tryz.func165 (by kernel_rfl) (by kernel_rfl) (by kernel_rfl)
def XN:J:=⟨60,⟨[.v true 7],[(false,[.p])]⟩,[LF,Cn,Qx,LU,LR,am7,Wl,Xi],Tryz.f60⟩
def XO:PL:=jp XN
def Co:aA:=Fs XO [(20,F4),(58,za),(62,rH),(66,tv),(67,F8),(165,XM),(166,LH),(167,LQ)]
def am8:=cK XN Co Tryz.func60 (by kernel_rfl) (by kernel_rfl) (by kernel_rfl)
def XP:J:=⟨15,⟨[.v false 1,.v true 8],[(true,[.s,.s,.s,.s,.s,.o true,.s,.s]),(false,[.s])]⟩,[Ci,LS],Tryz.f15⟩
def XQ:PL:=jp XP
def Cp:aA:=Fs XQ [(63,xB),(65,sJ)]
def am9:=cK XP Cp Tryz.func15 (by kernel_rfl) (by kernel_rfl) (by kernel_rfl)
def XR:J:=⟨19,⟨[.v true 8,.v true 8],[(false,[.s])]⟩,[Wx],Tryz.f19⟩
def XS:PL:=jp XR
def F9:aA:=Fs XS [(72,LJ)]
def XU:=cK XR F9 Tryz.func19 (by kernel_rfl) (by kernel_rfl) (by kernel_rfl)
def XV:J:=⟨61,⟨[.v true 7,.v false 1],[(false,[.s])]⟩,[],Tryz.f61⟩
def XW:PL:=jp XV
def Cq:aA:=Fs XW []
def am_:=cK XV Cq Tryz.func61 (by kernel_rfl) (by kernel_rfl) (by kernel_rfl)
def XX:J:=⟨64,⟨[.v true 8],[(true,[.s,.s,.s,.s,.s,.p,.s,.s])]⟩,[],Tryz.f64⟩
def XY:PL:=jp XX
def XZ:aA:=Fs XY []
def am':=cK XX XZ Tryz.func64 (by kernel_rfl) (by kernel_rfl) (by kernel_rfl)
def X0:J:=⟨12,⟨[.v true 7],[(true,[.s,.s,.s,.o true,.o true,.o true,.o true]),(false,[.o true])]⟩,[am9,XU,Cn,LZ,am8,am_,Qx,Ci,am',LS,LU,LR],Tryz.f12⟩
def X1:PL:=jp X0
def F_:aA:=Fs X1 [(15,Cp),(19,F9),(58,za),(59,Ea),(60,Co),(61,Cq),(62,rH),(63,xB),(64,XZ),(65,sJ),(66,tv),(67,F8)]
def L0:=cK X0 F_ Tryz.func12 (by kernel_rfl) (by kernel_rfl) (by kernel_rfl)
def X2:J:=⟨133,⟨[.v true 3,.v false 1,.v false 1],[(true,[.s,.s,.s,.o true,.o true,.o true,.o true,.o true]),(false,[.s])]⟩,[L0,Cn,Qw],Tryz.f133⟩
def X3:PL:=jp X2
def X4:aA:=Fs X3 [(12,F_),(58,za),(150,wH)]
def ana:=cK X2 X4 Tryz.func133 (by kernel_rfl) (by kernel_rfl) (by kernel_rfl)
def X5:J:=⟨101,⟨[.v false 1],[(false,[.p])]⟩,[],Tryz.f101⟩
def X6:PL:=jp X5
def Ga:aA:=Fs X6 []
def L1:=cK X5 Ga Tryz.func101 (by kernel_rfl) (by kernel_rfl) (by kernel_rfl)
def X7:J:=⟨79,⟨[.x 3],[(true,[.s,.s,.s,.p,.p,.p,.p,.p])]⟩,[L0,am5,L1,ana,Cb,Qv],Tryz.f79⟩
def X8:PL:=jp X7
def X9:aA:=Fs X8 [(12,F_),(52,XC),(101,Ga),(133,X4),(149,n4),(151,uD)]
def anb:=cK X7 X9 Tryz.func79 (by kernel_rfl) (by kernel_rfl) (by kernel_rfl)
def X_:J:=⟨184,⟨[.v false 1,.v false 1],[(false,[.o true])]⟩,[LS],Tryz.f184⟩
def X':PL:=jp X_
def wI:aA:=Fs X' [(65,sJ)]
def Cr:=cK X_ wI Tryz.func184 (by kernel_rfl) (by kernel_rfl) (by kernel_rfl)
def Yd:J:=⟨107,⟨[.v true 8],[(true,[.s,.s,.s,.s,.s,.p,.s,.s])]⟩,[],Tryz.f107⟩
def Yf:PL:=jp Yd
def Gb:aA:=Fs Yf []
def Yi:=cK Yd Gb Tryz.func107 (by kernel_rfl) (by kernel_rfl) (by kernel_rfl)
def Yj:J:=⟨185,⟨[.v false 1,.v false 1],[(false,[.p])]⟩,[Yi,Cr],Tryz.f185⟩
def Yk:PL:=jp Yj
def Gc:aA:=Fs Yk [(107,Gb),(184,wI)]
def L3:=cK Yj Gc Tryz.func185 (by kernel_rfl) (by kernel_rfl) (by kernel_rfl)
def Yr:J:=⟨182,⟨[.x 3],[(true,[.s,.s,.s,.s,.p,.p])]⟩,[Cb,Qv,LY,Cr,L3],Tryz.f182⟩
def YA:PL:=jp Yr
def L4:aA:=Fs YA [(149,n4),(151,uD),(153,Cm),(184,wI),(185,Gc)]
def YB:=cK Yr L4 Tryz.func182 (by kernel_rfl) (by kernel_rfl) (by kernel_rfl)
def YC:J:=⟨181,⟨[.v true 6],[(true,[.s,.s,.s,.s,.o true,.o true])]⟩,[LU],Tryz.f181⟩
def YD:PL:=jp YC
def L5:aA:=Fs YD [(66,tv)]
def YE:=cK YC L5 Tryz.func181 (by kernel_rfl) (by kernel_rfl) (by kernel_rfl)
def YF:J:=⟨226,⟨[.x 3],[(true,[.s,.s,.s,.s,.s,.o false,.s,.s])]⟩,[Cb,LW,ks_],Tryz.f226⟩
def YG:PL:=jp YF
def Cs:aA:=Fs YG [(149,n4),(155,Am),(212,Cc)]
def anc:=cK YF Cs Tryz.func226 (by kernel_rfl) (by kernel_rfl) (by kernel_rfl)
def YH:J:=⟨183,⟨[.x 3],[(true,[.s,.s,.s,.s,.o false,.o false])]⟩,[Cb,YE,YB,ks_,anc],Tryz.f183⟩
def YI:PL:=jp YH
def Cu:aA:=Fs YI [(149,n4),(181,L5),(182,L4),(212,Cc),(226,Cs)]
def ane:=cK YH Cu Tryz.func183 (by kernel_rfl) (by kernel_rfl) (by kernel_rfl)
def YJ:J:=⟨80,⟨[.x 3,.v true 8],[(true,[.s,.s,.s,.s,.p,.p])]⟩,[LU,Cb,Qv,LY,YE,YB,ane,Cr,L3],Tryz.f80⟩
def YK:PL:=jp YJ
def YL:aA:=Fs YK [(66,tv),(149,n4),(151,uD),(153,Cm),(181,L5),(182,L4),(183,Cu),(184,wI),(185,Gc)]
def anf:=cK YJ YL Tryz.func80 (by kernel_rfl) (by kernel_rfl) (by kernel_rfl)
def YM:J:=⟨21,⟨[.v false 1],[(true,[.s,.s,.s,.p,.p,.p,.p,.p]),(true,[.s,.s,.s,.s,.p,.p])]⟩,[anb,anf],Tryz.f21⟩
def YN:PL:=jp YM
def YO:aA:=Fs YN [(79,X9),(80,YL)]
def ang:=cK YM YO Tryz.func21 (by kernel_rfl) (by kernel_rfl) (by kernel_rfl)
def YP:J:=⟨69,⟨[.v false 1,.v false 1,.v false 1],[(false,[.s])]⟩,[],Tryz.f69⟩
def YQ:PL:=jp YP
def rb:aA:=Fs YQ []
def sK:=cK YP rb Tryz.func69 (by kernel_rfl) (by kernel_rfl) (by kernel_rfl)
def YR:J:=⟨169,⟨[.v false 1,.v true 4],[(false,[.s])]⟩,[sK],Tryz.f169⟩
def YS:PL:=jp YR
def Cv:aA:=Fs YS [(69,rb)]
def anh:=cK YR Cv Tryz.func169 (by kernel_rfl) (by kernel_rfl) (by kernel_rfl)
def YT:J:=⟨170,⟨[.v true 4,.v true 4],[(false,[.s])]⟩,[],Tryz.f170⟩
def YU:PL:=jp YT
def Cw:aA:=Fs YU []
def ani:=cK YT Cw Tryz.func170 (by kernel_rfl) (by kernel_rfl) (by kernel_rfl)
def YV:J:=⟨171,⟨[.v true 4,.v true 4],[(false,[.s])]⟩,[],Tryz.f171⟩
def YW:PL:=jp YV
def Cy:aA:=Fs YW []
def anj:=cK YV Cy Tryz.func171 (by kernel_rfl) (by kernel_rfl) (by kernel_rfl)
def YX:J:=⟨68,⟨[.v true 3],[(false,[.s])]⟩,[sK,anh,ani,anj],Tryz.f68⟩
def YY:PL:=jp YX
def Cz:aA:=Fs YY [(69,rb),(169,Cv),(170,Cw),(171,Cy)]
def ank:=cK YX Cz Tryz.func68 (by kernel_rfl) (by kernel_rfl) (by kernel_rfl)
def YZ:J:=⟨172,⟨[.v true 3,.v false 1,.v false 1,.v false 1],[(false,[.s])]⟩,[],Tryz.f172⟩
def Y0:PL:=jp YZ
def Gd:aA:=Fs Y0 []
def L6:=cK YZ Gd Tryz.func172 (by kernel_rfl) (by kernel_rfl) (by kernel_rfl)
def Y5:J:=⟨70,⟨[.v true 7],[(false,[.s])]⟩,[L6],Tryz.f70⟩
def Y7:PL:=jp Y5
def Y9:aA:=Fs Y7 [(172,Gd)]
def anl:=cK Y5 Y9 Tryz.func70 (by kernel_rfl) (by kernel_rfl) (by kernel_rfl)
def Y_:J:=⟨222,⟨[.v true 8],[(false,[.s])]⟩,[sK],Tryz.f222⟩
def Y':PL:=jp Y_
def CA:aA:=Fs Y' [(69,rb)]
def anm:=cK Y_ CA Tryz.func222 (by kernel_rfl) (by kernel_rfl) (by kernel_rfl)
def Za:J:=⟨173,⟨[.v true 8],[(false,[.s])]⟩,[sK,anm],Tryz.f173⟩
def Zc:PL:=jp Za
def L7:aA:=Fs Zc [(69,rb),(222,CA)]
def Zd:=cK Za L7 Tryz.func173 (by kernel_rfl) (by kernel_rfl) (by kernel_rfl)
def Ze:J:=⟨162,⟨[.v true 8,.v true 8],[(false,[.s])]⟩,[],Tryz.f162⟩
def Zf:PL:=jp Ze
def L8:aA:=Fs Zf []
def Zg:=cK Ze L8 Tryz.func162 (by kernel_rfl) (by kernel_rfl) (by kernel_rfl)
def Zh:J:=⟨71,⟨[.v false 1],[(false,[.s])]⟩,[Zg,Zd],Tryz.f71⟩
def Zi:PL:=jp Zh
def CB:aA:=Fs Zi [(162,L8),(173,L7)]
def Ge:=cK Zh CB Tryz.func71 (by kernel_rfl) (by kernel_rfl) (by kernel_rfl)
def Zj:J:=⟨13,⟨[.v true 7],[(false,[.s])]⟩,[ank,sK,anl,Ge],Tryz.f13⟩
def Zk:PL:=jp Zj
def CC:aA:=Fs Zk [(68,Cz),(69,rb),(70,Y9),(71,CB)]
def Gf:=cK Zj CC Tryz.func13 (by kernel_rfl) (by kernel_rfl) (by kernel_rfl)
def Zl:J:=⟨87,⟨[.v true 3,.v false 1],[(false,[.o true])]⟩,[L6],Tryz.f87⟩
def Zm:PL:=jp Zl
def CD:aA:=Fs Zm [(172,Gd)]
def ann:=cK Zl CD Tryz.func87 (by kernel_rfl) (by kernel_rfl) (by kernel_rfl)
def Zn:J:=⟨82,⟨[.v false 1],[(false,[.o true])]⟩,[],Tryz.f82⟩
def Zo:PL:=jp Zn
def Gg:aA:=Fs Zo []
def L9:=cK Zn Gg Tryz.func82 (by kernel_rfl) (by kernel_rfl) (by kernel_rfl)
def Zp:J:=⟨88,⟨[.v false 1,.v false 1],[(false,[.s])]⟩,[],Tryz.f88⟩
def Zq:PL:=jp Zp
def Zr:aA:=Fs Zq []
def ano:=cK Zp Zr Tryz.func88 (by kernel_rfl) (by kernel_rfl) (by kernel_rfl)
def Zs:J:=⟨23,⟨[.v true 8],[(false,[.s])]⟩,[Gf,sK,L9,ann,ano],Tryz.f23⟩
def Zt:PL:=jp Zs
def Eb:aA:=Fs Zt [(13,CC),(69,rb),(82,Gg),(87,CD),(88,Zr)]
def L_:=cK Zs Eb Tryz.func23 (by kernel_rfl) (by kernel_rfl) (by kernel_rfl)
def Zu:J:=⟨90,⟨[.v true 3],[(true,[.s,.o true,.o true])]⟩,[],Tryz.f90⟩
def Zv:PL:=jp Zu
def Qy:aA:=Fs Zv []
def anp:=cK Zu Qy Tryz.func90 (by kernel_rfl) (by kernel_rfl) (by kernel_rfl)
def Zw:J:=⟨156,⟨[.v false 1],[(false,[.o true])]⟩,[],Tryz.f156⟩
def Zx:PL:=jp Zw
def sL:aA:=Fs Zx []
def Qz:=cK Zw sL Tryz.func156 (by kernel_rfl) (by kernel_rfl) (by kernel_rfl)
def Zy:J:=⟨161,⟨[.v true 8],[(true,[.s,.s,.s,.s,.s,.o true,.s,.s])]⟩,[],Tryz.f161⟩
def Zz:PL:=jp Zy
def zb:aA:=Fs Zz []
def ZA:=cK Zy zb Tryz.func161 (by kernel_rfl) (by kernel_rfl) (by kernel_rfl)
def ZB:J:=⟨56,⟨[.v false 1],[(false,[.o true])]⟩,[ZA],Tryz.f56⟩
def ZC:PL:=jp ZB
def CE:aA:=Fs ZC [(161,zb)]
def jJ_:=cK ZB CE Tryz.func56 (by kernel_rfl) (by kernel_rfl) (by kernel_rfl)
def ZD:J:=⟨54,⟨[.v true 7],[(true,[.s,.s,.s,.o true,.o true,.o true,.o true])]⟩,[jJ_,anp,Qz],Tryz.f54⟩
def ZE:PL:=jp ZD
def Ec:aA:=Fs ZE [(56,CE),(90,Qy),(156,sL)]
def L':=cK ZD Ec Tryz.func54 (by kernel_rfl) (by kernel_rfl) (by kernel_rfl)
def ZF:J:=⟨81,⟨[.v true 8],[(true,[.s,.s,.s,.o true,.o true,.o true,.o true,.o true])]⟩,[L'],Tryz.f81⟩
def ZG:PL:=jp ZF
def Ma:aA:=Fs ZG [(54,Ec)]
def ZH:=cK ZF Ma Tryz.func81 (by kernel_rfl) (by kernel_rfl) (by kernel_rfl)
def ZI:J:=⟨91,⟨[.v true 8,.v false 1,.v false 1],[(false,[.s])]⟩,[],Tryz.f91⟩
def ZJ:PL:=jp ZI
def CF:aA:=Fs ZJ []
def anq:=cK ZI CF Tryz.func91 (by kernel_rfl) (by kernel_rfl) (by kernel_rfl)
def ZK:J:=⟨189,⟨[.v false 1],[(false,[.s])]⟩,[sK],Tryz.f189⟩
def ZL:PL:=jp ZK
def ZM:aA:=Fs ZL [(69,rb)]
def anr:=cK ZK ZM Tryz.func189 (by kernel_rfl) (by kernel_rfl) (by kernel_rfl)
def ZN:J:=⟨187,⟨[.v true 8],[(true,[.s,.s,.s,.s,.s,.o true,.s,.s])]⟩,[],Tryz.f187⟩
def ZO:PL:=jp ZN
def Mb:aA:=Fs ZO []
def ZP:=cK ZN Mb Tryz.func187 (by kernel_rfl) (by kernel_rfl) (by kernel_rfl)
def ZQ:J:=⟨163,⟨[.v true 8,.v true 8],[(false,[.s])]⟩,[],Tryz.f163⟩
def ZR:PL:=jp ZQ
def Gi:aA:=Fs ZR []
def Mc:=cK ZQ Gi Tryz.func163 (by kernel_rfl) (by kernel_rfl) (by kernel_rfl)
def ZS:J:=⟨158,⟨[.v true 8,.v true 8],[(false,[.s])]⟩,[Mc],Tryz.f158⟩
def ZT:PL:=jp ZS
def Md:aA:=Fs ZT [(163,Gi)]
def ZU:=cK ZS Md Tryz.func158 (by kernel_rfl) (by kernel_rfl) (by kernel_rfl)
def ZV:J:=⟨190,⟨[.v false 1],[(false,[.s])]⟩,[ZU,ZP],Tryz.f190⟩
def ZW:PL:=jp ZV
def CG:aA:=Fs ZW [(158,Md),(187,Mb)]
def ans:=cK ZV CG Tryz.func190 (by kernel_rfl) (by kernel_rfl) (by kernel_rfl)
def ZX:J:=⟨92,⟨[.v true 6],[(false,[.s])]⟩,[sK,Ge,anr,ans],Tryz.f92⟩
def ZY:PL:=jp ZX
def ZZ:aA:=Fs ZY [(69,rb),(71,CB),(189,ZM),(190,CG)]
def ant:=cK ZX ZZ Tryz.func92 (by kernel_rfl) (by kernel_rfl) (by kernel_rfl)
def Z0:J:=⟨175,⟨[.v false 1,.v false 1],[(false,[.s])]⟩,[],Tryz.f175⟩
def Z1:PL:=jp Z0
def CH:aA:=Fs Z1 []
def Gj:=cK Z0 CH Tryz.func175 (by kernel_rfl) (by kernel_rfl) (by kernel_rfl)
def Z2:J:=⟨74,⟨[.v true 3,.v false 1],[(false,[.o true])]⟩,[Qz],Tryz.f74⟩
def Z3:PL:=jp Z2
def Gk:aA:=Fs Z3 [(156,sL)]
def Me:=cK Z2 Gk Tryz.func74 (by kernel_rfl) (by kernel_rfl) (by kernel_rfl)
def Z4:J:=⟨174,⟨[.v true 3,.v false 1,.v false 1,.v false 1],[(false,[.s])]⟩,[L6],Tryz.f174⟩
def Z5:PL:=jp Z4
def CI:aA:=Fs Z5 [(172,Gd)]
def anu:=cK Z4 CI Tryz.func174 (by kernel_rfl) (by kernel_rfl) (by kernel_rfl)
def Z6:J:=⟨73,⟨[.v true 7],[(false,[.o true])]⟩,[Me,anu],Tryz.f73⟩
def Z7:PL:=jp Z6
def CJ:aA:=Fs Z7 [(74,Gk),(174,CI)]
def anv:=cK Z6 CJ Tryz.func73 (by kernel_rfl) (by kernel_rfl) (by kernel_rfl)
def Z8:J:=⟨57,⟨[.v false 1,.v true 8],[(false,[.o true])]⟩,[jJ_,ZA,Zg,Mc],Tryz.f57⟩
def Z9:PL:=jp Z8
def sM:aA:=Fs Z9 [(56,CE),(161,zb),(162,L8),(163,Gi)]
def wJ:=cK Z8 sM Tryz.func57 (by kernel_rfl) (by kernel_rfl) (by kernel_rfl)
def Z_:J:=⟨75,⟨[.v true 3,.v false 1],[(false,[.s])]⟩,[Me,Gj],Tryz.f75⟩
def aac:PL:=jp Z_
def CK:aA:=Fs aac [(74,Gk),(175,CH)]
def anw:=cK Z_ CK Tryz.func75 (by kernel_rfl) (by kernel_rfl) (by kernel_rfl)
def aad:J:=⟨76,⟨[.v false 1,.v false 1,.v false 1],[(false,[.o false])]⟩,[wJ],Tryz.f76⟩
def aae:PL:=jp aad
def CL:aA:=Fs aae [(57,sM)]
def anx:=cK aad CL Tryz.func76 (by kernel_rfl) (by kernel_rfl) (by kernel_rfl)
def aaf:J:=⟨157,⟨[.v false 1,.v true 8],[(false,[.s])]⟩,[Mc],Tryz.f157⟩
def aag:PL:=jp aaf
def rI:aA:=Fs aag [(163,Gi)]
def IV:=cK aaf rI Tryz.func157 (by kernel_rfl) (by kernel_rfl) (by kernel_rfl)
def aah:J:=⟨244,⟨[.v false 1,.v false 1,.v false 1,.v false 1],[(false,[.s])]⟩,[IV],Tryz.f244⟩
def aai:PL:=jp aah
def CM:aA:=Fs aai [(157,rI)]
def anz:=cK aah CM Tryz.func244 (by kernel_rfl) (by kernel_rfl) (by kernel_rfl)
def aaj:J:=⟨239,⟨[.v false 1,.v false 1,.v false 1,.v false 1],[(false,[.s])]⟩,[anz],Tryz.f239⟩
def aak:PL:=jp aaj
def CN:aA:=Fs aak [(244,CM)]
def anA:=cK aaj CN Tryz.func239 (by kernel_rfl) (by kernel_rfl) (by kernel_rfl)
def aal:J:=⟨224,⟨[.v true 3],[(true,[.s,.s,.o true])]⟩,[Qz],Tryz.f224⟩
def aam:PL:=jp aal
def xC:aA:=Fs aam [(156,sL)]
def Gl:=cK aal xC Tryz.func224 (by kernel_rfl) (by kernel_rfl) (by kernel_rfl)
def aan:J:=⟨227,⟨[.v true 3,.v true 3],[(true,[.s,.s,.o true])]⟩,[Qz,Gl],Tryz.f227⟩
def aao:PL:=jp aan
def zd:aA:=Fs aao [(156,sL),(224,xC)]
def Mf:=cK aan zd Tryz.func227 (by kernel_rfl) (by kernel_rfl) (by kernel_rfl)
def aap:J:=⟨176,⟨[.v false 1,.v false 1,.v false 1],[(false,[.o true])]⟩,[sK,Ge,Qz,IV,Gj,Mf,anA],Tryz.f176⟩
def aaq:PL:=jp aap
def Gm:aA:=Fs aaq [(69,rb),(71,CB),(156,sL),(157,rI),(175,CH),(227,zd),(239,CN)]
def Mg:=cK aap Gm Tryz.func176 (by kernel_rfl) (by kernel_rfl) (by kernel_rfl)
def aar:J:=⟨178,⟨[.v false 1,.v false 1],[(true,[.s,.s,.o true]),(false,[.s])]⟩,[Gl],Tryz.f178⟩
def aas:PL:=jp aar
def Mh:aA:=Fs aas [(224,xC)]
def aat:=cK aar Mh Tryz.func178 (by kernel_rfl) (by kernel_rfl) (by kernel_rfl)
def aau:J:=⟨179,⟨[.v false 1,.v false 1,.v false 1],[(false,[.o true])]⟩,[Mg,Gl,Mf],Tryz.f179⟩
def aav:PL:=jp aau
def Mi:aA:=Fs aav [(176,Gm),(224,xC),(227,zd)]
def aaw:=cK aau Mi Tryz.func179 (by kernel_rfl) (by kernel_rfl) (by kernel_rfl)
def aax:J:=⟨180,⟨[.v false 1,.v false 1,.v false 1,.v false 1],[(false,[.o true])]⟩,[Gj,Mg,aat,aaw,Gl,Mf],Tryz.f180⟩
def aay:PL:=jp aax
def uC_:aA:=Fs aay [(175,CH),(176,Gm),(178,Mh),(179,Mi),(224,xC),(227,zd)]
def anB:=cK aax uC_ Tryz.func180 (by kernel_rfl) (by kernel_rfl) (by kernel_rfl)
def aaA:J:=⟨77,⟨[.v false 1,.v false 1,.v false 1,.v false 1],[(false,[.o true])]⟩,[wJ,IV,Mg,aat,aaw,anB],Tryz.f77⟩
def aaB:PL:=jp aaA
def CO:aA:=Fs aaB [(57,sM),(157,rI),(176,Gm),(178,Mh),(179,Mi),(180,uC_)]
def anC:=cK aaA CO Tryz.func77 (by kernel_rfl) (by kernel_rfl) (by kernel_rfl)
def aaC:J:=⟨18,⟨[.v true 7],[(false,[.o true])]⟩,[Gf,wJ,anv,Me,anw,anx,anC],Tryz.f18⟩
def aaD:PL:=jp aaC
def QA:aA:=Fs aaD [(13,CC),(57,sM),(73,CJ),(74,Gk),(75,CK),(76,CL),(77,CO)]
def anD:=cK aaC QA Tryz.func18 (by kernel_rfl) (by kernel_rfl) (by kernel_rfl)
def aaE:J:=⟨159,⟨[.v true 7,.v true 8],[(false,[.s])]⟩,[IV],Tryz.f159⟩
def aaF:PL:=jp aaE
def CP:aA:=Fs aaF [(157,rI)]
def anE:=cK aaE CP Tryz.func159 (by kernel_rfl) (by kernel_rfl) (by kernel_rfl)
def aaG:J:=⟨160,⟨[.v true 8],[(true,[.s,.s,.s,.s,.s,.o true,.s,.s])]⟩,[],Tryz.f160⟩
def aaH:PL:=jp aaG
def CQ:aA:=Fs aaH []
def anF:=cK aaG CQ Tryz.func160 (by kernel_rfl) (by kernel_rfl) (by kernel_rfl)
def aaI:J:=⟨55,⟨[.v true 7],[(false,[.o true])]⟩,[anD,wJ,IV,ZU,anE,anF],Tryz.f55⟩
def aaJ:PL:=jp aaI
def CR:aA:=Fs aaJ [(18,QA),(57,sM),(157,rI),(158,Md),(159,CP),(160,CQ)]
def anG:=cK aaI CR Tryz.func55 (by kernel_rfl) (by kernel_rfl) (by kernel_rfl)
def aaK:J:=⟨11,⟨[.v true 7],[(true,[.s,.s,.s,.o true,.o true,.o true,.o true]),(false,[.o true])]⟩,[Gf,L',anG,jJ_,wJ],Tryz.f11⟩
def aaL:PL:=jp aaK
def Mk:aA:=Fs aaL [(13,CC),(54,Ec),(55,CR),(56,CE),(57,sM)]
def aaM:=cK aaK Mk Tryz.func11 (by kernel_rfl) (by kernel_rfl) (by kernel_rfl)
def aaN:J:=⟨193,⟨[.v false 1,.v false 1],[(false,[.o true])]⟩,[wJ,IV],Tryz.f193⟩
def aaO:PL:=jp aaN
def CS:aA:=Fs aaO [(57,sM),(157,rI)]
def anH:=cK aaN CS Tryz.func193 (by kernel_rfl) (by kernel_rfl) (by kernel_rfl)
def aaP:J:=⟨186,⟨[.v false 1,.v false 1],[(false,[.o true])]⟩,[ZA],Tryz.f186⟩
def aaQ:PL:=jp aaP
def Gn:aA:=Fs aaQ [(161,zb)]
def aaR:=cK aaP Gn Tryz.func186 (by kernel_rfl) (by kernel_rfl) (by kernel_rfl)
def aaS:J:=⟨85,⟨[.x 8,.v false 1,.v true 4,.v false 1,.v false 1],[(true,[.s,.s,.s,.s,.p,.p])]⟩,[],Tryz.f85⟩
def aaT:PL:=jp aaS
def Ed:aA:=Fs aaT []
def aaU:=cK aaS Ed Tryz.func85 (by kernel_rfl) (by kernel_rfl) (by kernel_rfl)
def aaV:J:=⟨191,⟨[.v false 1,.v false 1],[(false,[.o true])]⟩,[IV,ZA],Tryz.f191⟩
def aaW:PL:=jp aaV
def CT:aA:=Fs aaW [(157,rI),(161,zb)]
def anI:=cK aaV CT Tryz.func191 (by kernel_rfl) (by kernel_rfl) (by kernel_rfl)
def aaX:J:=⟨86,⟨[.v false 1,.v false 1],[(false,[.o true])]⟩,[aaR,ZP],Tryz.f86⟩
def aaY:PL:=jp aaX
def IW:aA:=Fs aaY [(186,Gn),(187,Mb)]
def aaZ:=cK aaX IW Tryz.func86 (by kernel_rfl) (by kernel_rfl) (by kernel_rfl)
def aa0:J:=⟨228,⟨[.v false 1,.v true 8],[(false,[.o true]),(false,[.s])]⟩,[wJ,Ge,IV,Zd],Tryz.f228⟩
def aa1:PL:=jp aa0
def k5_:aA:=Fs aa1 [(57,sM),(71,CB),(157,rI),(173,L7)]
def anJ:=cK aa0 k5_ Tryz.func228 (by kernel_rfl) (by kernel_rfl) (by kernel_rfl)
def aa3:J:=⟨192,⟨[.v false 1,.v false 1],[(false,[.o true]),(false,[.o true])]⟩,[jJ_,ZA,anJ],Tryz.f192⟩
def aa4:PL:=jp aa3
def kL_:aA:=Fs aa4 [(56,CE),(161,zb),(228,k5_)]
def anK:=cK aa3 kL_ Tryz.func192 (by kernel_rfl) (by kernel_rfl) (by kernel_rfl)
def aa6:J:=⟨95,⟨[.v true 7,.v false 1],[(true,[.s,.s,.s,.o true,.o true,.o true,.o true]),(false,[.o true])]⟩,[Gf,L',anK],Tryz.f95⟩
def aa7:PL:=jp aa6
def CU:aA:=Fs aa7 [(13,CC),(54,Ec),(192,kL_)]
def anL:=cK aa6 CU Tryz.func95 (by kernel_rfl) (by kernel_rfl) (by kernel_rfl)
def aa8:J:=⟨26,⟨[.v true 8,.v true 6],[(true,[.s,.s,.s,.p,.p,.p,.p,.p]),(false,[.p])]⟩,[aaM,L_,ZH,L9,aaU,aaZ,anq,ant,anL,Gj,aaR,anI,anH],Tryz.f26⟩
def aa9:PL:=jp aa8
def jZ_:aA:=Fs aa9 [(11,Mk),(23,Eb),(81,Ma),(82,Gg),(85,Ed),(86,IW),(91,CF),(92,ZZ),(95,CU),(175,CH),(186,Gn),(191,CT),(193,CS)]
def anM:=cK aa8 jZ_ Tryz.func26 (by kernel_rfl) (by kernel_rfl) (by kernel_rfl)
def aa':J:=⟨22,⟨[.v true 8],[(true,[.s,.s,.s,.p,.p,.p,.p,.p]),(false,[.p])]⟩,[aaM,L_,ZH,L9,aaU,aaZ,Qz],Tryz.f22⟩
def abb:PL:=jp aa'
def jR_:aA:=Fs abb [(11,Mk),(23,Eb),(81,Ma),(82,Gg),(85,Ed),(86,IW),(156,sL)]
def anN:=cK aa' jR_ Tryz.func22 (by kernel_rfl) (by kernel_rfl) (by kernel_rfl)
def abe:J:=⟨97,⟨[.v true 8],[(true,[.s,.s,.s,.o true,.o true,.o true,.o true,.o true])]⟩,[LZ],Tryz.f97⟩
def abf:PL:=jp abe
def kK_:aA:=Fs abf [(59,Ea)]
def anO:=cK abe kK_ Tryz.func97 (by kernel_rfl) (by kernel_rfl) (by kernel_rfl)
def abh:J:=⟨98,⟨[.v true 8,.v false 1,.v false 1],[(false,[.s])]⟩,[],Tryz.f98⟩
def abi:PL:=jp abh
def CV:aA:=Fs abi []
def anP:=cK abh CV Tryz.func98 (by kernel_rfl) (by kernel_rfl) (by kernel_rfl)
def abj:J:=⟨194,⟨[.v false 1,.v false 1],[(false,[.s])]⟩,[],Tryz.f194⟩
def abk:PL:=jp abj
def u4_:aA:=Fs abk []
def anQ:=cK abj u4_ Tryz.func194 (by kernel_rfl) (by kernel_rfl) (by kernel_rfl)
def abm:J:=⟨99,⟨[.v true 8],[(false,[.s])]⟩,[Cn,L1,F3,Qw,anQ],Tryz.f99⟩
def abn:PL:=jp abm
def CW:aA:=Fs abn [(58,za),(101,Ga),(105,ra),(150,wH),(194,u4_)]
def anR:=cK abm CW Tryz.func99 (by kernel_rfl) (by kernel_rfl) (by kernel_rfl)
def abo:J:=⟨29,⟨[.v true 6],[(false,[.s])]⟩,[XU,LS,F3,Wu,Yi],Tryz.f29⟩
def abp:PL:=jp abo
def Ml:aA:=Fs abp [(19,F9),(65,sJ),(105,ra),(106,y_),(107,Gb)]
def abq:=cK abo Ml Tryz.func29 (by kernel_rfl) (by kernel_rfl) (by kernel_rfl)
def abr:J:=⟨102,⟨[.v true 8,.v false 1,.v false 1,.v false 1],[(false,[.p])]⟩,[Qx,Cr],Tryz.f102⟩
def abt:PL:=jp abr
def kN_:aA:=Fs abt [(62,rH),(184,wI)]
def anS:=cK abr kN_ Tryz.func102 (by kernel_rfl) (by kernel_rfl) (by kernel_rfl)
def abv:J:=⟨28,⟨[.v false 1,.v false 1],[(false,[.p])]⟩,[Ci,LS],Tryz.f28⟩
def abw:PL:=jp abv
def Mm:aA:=Fs abw [(63,xB),(65,sJ)]
def abx:=cK abv Mm Tryz.func28 (by kernel_rfl) (by kernel_rfl) (by kernel_rfl)
def aby:J:=⟨111,⟨[.v true 8,.v true 4],[(true,[.s,.s,.s,.s,.p,.p])]⟩,[L3],Tryz.f111⟩
def abz:PL:=jp aby
def CX:aA:=Fs abz [(185,Gc)]
def anT:=cK aby CX Tryz.func111 (by kernel_rfl) (by kernel_rfl) (by kernel_rfl)
def abA:J:=⟨103,⟨[.v true 8,.v true 4,.v true 6],[(false,[.p])]⟩,[abx,anT,Cr],Tryz.f103⟩
def abB:PL:=jp abA
def qT_:aA:=Fs abB [(28,Mm),(111,CX),(184,wI)]
def anU:=cK abA qT_ Tryz.func103 (by kernel_rfl) (by kernel_rfl) (by kernel_rfl)
def abD:J:=⟨104,⟨[.v true 7,.v false 1],[(true,[.s,.s,.s,.o true,.o true,.o true,.o true]),(false,[.o true])]⟩,[Cn,LZ,LS,LU,LX],Tryz.f104⟩
def abE:PL:=jp abD
def CY:aA:=Fs abE [(58,za),(59,Ea),(65,sJ),(66,tv),(154,An)]
def anV:=cK abD CY Tryz.func104 (by kernel_rfl) (by kernel_rfl) (by kernel_rfl)
def abF:J:=⟨27,⟨[.v true 8,.v true 6],[(true,[.s,.s,.s,.p,.p,.p,.p,.p]),(false,[.p])]⟩,[L0,abq,anO,anP,anR,WN,L1,anS,anU,anV],Tryz.f27⟩
def abG:PL:=jp abF
def j2_:aA:=Fs abG [(12,F_),(29,Ml),(97,kK_),(98,CV),(99,CW),(100,LL),(101,Ga),(102,kN_),(103,qT_),(104,CY)]
def anW:=cK abF j2_ Tryz.func27 (by kernel_rfl) (by kernel_rfl) (by kernel_rfl)
def ot:PL:=
 .ins (.cl 9 [.a 0] 1)<|
 .ite 1 (
  .ins (.pr (.rP) [.k (.bool true)])<|
  .ret [.a 2]) (
  .ins (.cl 21 [.a 0] 14)<|
  .ins (.cl 23 [.a 2,.a 3,.a 4,.a 5,.a 6,.a 7,.a 8,.a 9] 1)<|
  .ins (.pr (.un .not) [.a 16])<|
  .ite 17 (
  .ins (.pr (.rP) [.k (.bool false)])<|
  .ret [.a 18]) (
  .ins (.cl 26 [.a 2,.a 3,.a 4,.a 5,.a 6,.a 7,.a 8,.a 9,.a 10,.a 11,.a 12,.a 13,.a 14,.a 15] 9)<|
  .ins (.cl 22 [.a 2,.a 3,.a 4,.a 5,.a 6,.a 7,.a 8,.a 9] 9)<|
  .ins (.cl 27 [.a 2,.a 3,.a 4,.a 5,.a 6,.a 7,.a 8,.a 9,.a 10,.a 11,.a 12,.a 13,.a 14,.a 15] 9)<|
  .ins (.pr (.len) [.a 26])<|
  .ins (.pr (.len) [.a 44])<|
  .ins (.pr (.bin .neq) [.a 45,.a 46])<|
  .ite 47 (
   .ins (.pr (.rP) [.k (.bool false)])<|
   .ret [.a 48]) (
   .ins (.cl 23 [.a 18,.a 19,.a 20,.a 21,.a 22,.a 23,.a 24,.a 25] 1)<|
   .ins (.pr (.un .not) [.a 48])<|
   .ite 49 (
   .ins (.pr (.rP) [.k (.bool false)])<|
   .ret [.a 50]) (
   .ins (.cl 23 [.a 27,.a 28,.a 29,.a 30,.a 31,.a 32,.a 33,.a 34] 1)<|
   .ins (.pr (.un .not) [.a 50])<|
   .ite 51 (
    .ins (.pr (.rP) [.k (.bool false)])<|
    .ret [.a 52]) (
    .ins (.cl 28 [.a 8,.a 24] 1)<|
    .ins (.pr (.len) [.a 52])<|
    .ins (.pr (.bin .neq) [.a 53,.k (.int .i64 0)])<|
    .ite 54 (
    .ins (.pr (.rP) [.k (.bool false)])<|
    .ret [.a 55]) (
    .ins (.cl 28 [.a 8,.a 33] 1)<|
    .ins (.pr (.len) [.a 55])<|
    .ins (.pr (.bin .neq) [.a 56,.k (.int .i64 0)])<|
    .ite 57 (
     .ins (.pr (.rP) [.k (.bool false)])<|
     .ret [.a 58]) (
     .ins (.pr (.lit 6 []) [])<|
     .ins (.pr (.app false 6) [.a 58,.a 26])<|
     .ins (.pr (.app false 6) [.a 59,.a 35])<|
     .loop [.k (.bool false),.k (.int .i64 0)] (
     .ins (.pr (.len) [.a 60])<|
     .ins (.pr (.bin .lss) [.a 62,.a 63])<|
     .ite 64 (
      .loop [.k (.bool false),.k (.int .i64 0)] (
      .ins (.pr (.len) [.a 9])<|
      .ins (.pr (.bin .lss) [.a 66,.a 67])<|
      .ite 68 (
       .ite 65 (
       .ins (.pr (.bin .add) [.a 66,.k (.int .i64 1)])<|
       .go 0 [.k (.bool true),.a 69]) (
       .ins (.pr (.lk) [.a 9,.a 66])<|
       .ins (.pr (.cell 4 0) [.a 9,.a 66])<|
       .ins (.pr (.lk) [.a 60,.a 62])<|
       .ins (.pr (.cell 6 2) [.a 60,.a 62])<|
       .ins (.pr (.bin .eql) [.a 70,.a 72])<|
       .ite 73 (
        .ins (.pr (.lk) [.a 9,.a 66])<|
        .ins (.pr (.cell 4 1) [.a 9,.a 66])<|
        .ins (.pr (.lk) [.a 60,.a 62])<|
        .ins (.pr (.cell 6 3) [.a 60,.a 62])<|
        .ins (.pr (.bin .eql) [.a 75,.a 77])<|
        .ins (.pr (.bin .add) [.a 66,.k (.int .i64 1)])<|
        .go 0 [.a 78,.a 79]) (
        .ins (.pr (.bin .add) [.a 66,.k (.int .i64 1)])<|
        .go 0 [.k (.bool false),.a 74]))) (
       .ins (.pr (.un .not) [.a 65])<|
       .ite 69 (
       .ins (.pr (.rP) [.k (.bool false)])<|
       .ret [.a 70]) (
       .ins (.pr (.lk) [.a 60,.a 62])<|
       .ins (.pr (.cell 6 1) [.a 60,.a 62])<|
       .ins (.pr (.bin .neq) [.a 71,.a 2])<|
       .ite 72 (
        .ins (.pr (.rP) [.k (.bool false)])<|
        .ret [.a 73]) (
        .ins (.pr (.lk) [.a 60,.a 62])<|
        .ins (.pr (.cell 6 0) [.a 60,.a 62])<|
        .ins (.pr (.cell 6 1) [.a 60,.a 62])<|
        .ins (.pr (.cell 6 2) [.a 60,.a 62])<|
        .ins (.pr (.cell 6 3) [.a 60,.a 62])<|
        .ins (.pr (.cell 6 4) [.a 60,.a 62])<|
        .ins (.pr (.cell 6 5) [.a 60,.a 62])<|
        .ins (.cl 29 [.a 74,.a 75,.a 76,.a 77,.a 78,.a 79] 1)<|
        .ins (.pr (.un .not) [.a 80])<|
        .ite 81 (
        .ins (.pr (.rP) [.k (.bool false)])<|
        .ret [.a 82]) (
        .ins (.pr (.bin .add) [.a 62,.k (.int .i64 1)])<|
        .go 1 [.a 61,.a 82])))))) (
      .ins (.pr (.len) [.a 35])<|
      .ins (.pr (.len) [.a 9])<|
      .ins (.pr (.bin .geq) [.a 65,.a 66])<|
      .ins (.pr (.rP) [.a 67])<|
      .ret [.a 68])))))))))
def anX:Nat->aA:=pick [(9,Ca),(21,YO),(22,jR_),(23,Eb),(26,jZ_),(27,j2_),(28,Mm),(29,Ml)]
def Gp:aA:=λts=>ot.den anX rounds [] ts
def rJ:=BV.i_ LA 5 ⟨[.v false 1],[(false,[.s])]⟩ ot Gp [amP,ang,anN,L_,anM,anW,abx,abq] Tryz.func5 (by kernel_rfl) (by kernel_rfl) (by kernel_rfl)
end
end Go.Proofs.YtjimmglpkndemaaGreatC

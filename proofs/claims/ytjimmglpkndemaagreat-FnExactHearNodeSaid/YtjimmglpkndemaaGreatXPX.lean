/- The walk: what each function does. Conditions: none. -/
import Derived.Test.YtjimmglpkndemaaGreatChecked
import Derived.Test.YtjimmglpkndemaaGreatKe
namespace Go.Proofs.YtjimmglpkndemaaGreatC
noncomputable section
theorem fc{α:Type}{p:α->Prop}{a:α}{l:List α}(h:p a∧∀x∈l,p x):∀x∈a::l,p x:=List.forall_mem_cons.2 h
theorem f0{α:Type}{p:α->Prop}:∀x∈([]:List α),p x:=λ_ h=>nomatch h
def lty:List (Nat×TI):=[
 (3,⟨1,8,false,[.p (.k (.int .i64 0))],0,[],1⟩),
 (4,⟨1,1,false,[.p (.k (.bool false))],0,[],4⟩),
 (24,⟨1,24,false,[.n],185,[],3⟩),
 (25,⟨1,24,false,[.n],122,[],3⟩),
 (27,⟨3,56,true,[.p (.k (.int .i64 0)),.n,.n],0,[(0,1),(1,1),(2,1)],0⟩),
 (28,⟨1,24,false,[.n],3,[],3⟩),
 (29,⟨1,24,false,[.n],39,[],3⟩),
 (31,⟨7,120,true,[.p (.k (.int .i64 0)),.p (.k (.int .i64 0)),.p (.k (.int .i64 0)),.n,.n,.n,.n],0,[(0,1),(1,1),(2,3),(5,1),(6,1)],0⟩),
 (37,⟨1,24,false,[.n],117,[],3⟩),
 (39,⟨8,80,true,[.p (.k (.int .i64 0)),.p (.k (.int .i64 0)),.p (.k (.int .i64 0)),.p (.k (.int .i64 0)),.p (.k (.int .i64 0)),.n,.p (.k (.int .i64 0)),.p (.k (.bool false))],0,[(0,1),(1,1),(2,1),(3,1),(4,1),(5,1),(6,1),(7,1)],0⟩),
 (46,⟨1,24,false,[.n],58,[],3⟩),
 (48,⟨8,144,true,[.p (.k (.int .i64 0)),.p (.k (.int .i64 0)),.p (.k (.int .i64 0)),.n,.n,.n,.n,.n],0,[(0,7),(7,1)],0⟩),
 (50,⟨6,80,true,[.p (.k (.int .i64 0)),.p (.k (.int .i64 0)),.p (.k (.int .i64 0)),.p (.k (.int .i64 0)),.n,.n],0,[(0,1),(1,1),(2,1),(3,1),(4,1),(5,1)],0⟩),
 (53,⟨1,24,false,[.n],50,[],3⟩),
 (58,⟨4,32,true,[.p (.k (.int .i64 0)),.p (.k (.int .i64 0)),.p (.k (.int .i64 0)),.p (.k (.bool false))],0,[(0,1),(1,1),(2,1),(3,1)],5⟩),
 (68,⟨1,24,false,[.n],217,[],3⟩),
 (69,⟨1,24,false,[.n],219,[],3⟩),
 (71,⟨3,56,true,[.p (.k (.int .i64 0)),.n,.n],0,[(0,1),(1,1),(2,1)],0⟩),
 (72,⟨1,24,false,[.n],214,[],3⟩),
 (74,⟨7,120,true,[.p (.k (.int .i64 0)),.p (.k (.int .i64 0)),.p (.k (.int .i64 0)),.n,.n,.n,.n],0,[(0,1),(1,1),(2,3),(5,1),(6,1)],0⟩),
 (75,⟨1,24,false,[.n],208,[],3⟩),
 (77,⟨8,144,true,[.p (.k (.int .i64 0)),.p (.k (.int .i64 0)),.p (.k (.int .i64 0)),.n,.n,.n,.n,.n],0,[(0,7),(7,1)],0⟩),
 (86,⟨6,80,true,[.p (.k (.int .i64 0)),.p (.k (.int .i64 0)),.p (.k (.int .i64 0)),.p (.k (.int .i64 0)),.n,.n],0,[(0,1),(1,1),(2,1),(3,1),(4,1),(5,1)],0⟩),
 (93,⟨1,24,false,[.n],4,[],3⟩),
 (117,⟨2,16,true,[.p (.k (.int .i64 0)),.p (.k (.int .i64 0))],0,[(0,1),(1,1)],5⟩),
 (122,⟨4,32,true,[.p (.k (.int .i64 0)),.p (.k (.int .i64 0)),.p (.k (.int .i64 0)),.p (.k (.bool false))],0,[(0,1),(1,1),(2,1),(3,1)],5⟩),
 (185,⟨4,32,true,[.p (.k (.int .i64 0)),.p (.k (.int .i64 0)),.p (.k (.int .i64 0)),.p (.k (.int .i64 0))],0,[(0,1),(1,1),(2,1),(3,1)],5⟩),
 (190,⟨1,24,false,[.n],193,[],3⟩),
 (193,⟨3,40,true,[.p (.k (.int .i64 0)),.p (.k (.int .i64 0)),.n],0,[(0,1),(1,1),(2,1)],0⟩),
 (208,⟨4,32,true,[.p (.k (.int .i64 0)),.p (.k (.int .i64 0)),.p (.k (.int .i64 0)),.p (.k (.bool false))],0,[(0,1),(1,1),(2,1),(3,1)],5⟩),
 (212,⟨1,24,false,[.n],242,[],3⟩),
 (214,⟨8,80,true,[.p (.k (.int .i64 0)),.p (.k (.int .i64 0)),.p (.k (.int .i64 0)),.p (.k (.int .i64 0)),.p (.k (.int .i64 0)),.n,.p (.k (.int .i64 0)),.p (.k (.bool false))],0,[(0,1),(1,1),(2,1),(3,1),(4,1),(5,1),(6,1),(7,1)],0⟩),
 (217,⟨4,32,true,[.p (.k (.int .i64 0)),.p (.k (.int .i64 0)),.p (.k (.int .i64 0)),.p (.k (.int .i64 0))],0,[(0,1),(1,1),(2,1),(3,1)],5⟩),
 (219,⟨4,32,true,[.p (.k (.int .i64 0)),.p (.k (.int .i64 0)),.p (.k (.int .i64 0)),.p (.k (.bool false))],0,[(0,1),(1,1),(2,1),(3,1)],5⟩),
 (236,⟨1,24,false,[.n],28,[],3⟩),
 (238,⟨1,24,false,[.n],190,[],3⟩),
 (242,⟨2,16,true,[.p (.k (.int .i64 0)),.p (.k (.int .i64 0))],0,[(0,1),(1,1)],5⟩)]
def hP(n:Nat):Nat×Bool×Rj:=(n,false,.ft false [.p])
def hD(n:Nat):Nat×Bool×Rj:=(n,false,.drop)
def hO(n:Nat):Nat×Bool×Rj:=(n,false,.ft false [.o true])
def hE(l:List Nat):Js:=l.map hD
def aol:List ((Nat×Nat×Nat)×Js):=[
 ((125,0,0),[hP 1,hP 4,hP 5]),
 ((135,0,0),[hP 4,(7,false,.rows [(0,true)])]),
 ((136,0,0),[hP 4,(7,false,.rows [(0,true)])]),
 ((126,0,0),[hP 4,(7,false,.rows [(0,true)])]),
 ((231,0,0),[hP 4,(7,false,.rows [(0,true)])]),
 ((127,0,0),[hP 4,(7,false,.rows [(0,true)])]),
 ((113,0,0),[hP 4,(7,false,.rows [(0,true)])]),
 ((66,0,0),[hO 3,hP 4]),
 ((132,0,0),[hP 2,hP 3]),
 ((132,0,2),[hP 2,hP 4]),
 ((150,0,0),[hP 8,hP 9]),
 ((164,0,0),[hP 2,hP 3]),
 ((229,0,0),[hP 2,hP 3]),
 ((106,0,0),[hP 2,hP 3]),
 ((101,0,0),[hO 3,hP 4]),
 ((101,2,16),[hO 3]),
 ((194,0,0),[hP 4,hP 5]),
 ((99,0,0),[hP 2,hP 3,hP 5]),
 ((99,0,2),[hP 2,hP 3,hP 6]),
 ((78,0,0),[hO 7,hP 8]),
 ((78,2,19),[hO 7]),
 ((20,0,0),[hO 5,hP 6]),
 ((20,2,17),[hO 5]),
 ((165,0,0),[hP 6,(5,true,.ft true [.k,.k,.k,.k,.k,.o true,.k,.k])]),
 ((165,2,25),[(5,true,.ft true [.k,.k,.k,.k,.k,.o true,.k,.k])]),
 ((62,0,0),[(5,false,.ft false [.o false]),hP 6]),
 ((62,0,2),[(5,false,.ft false [.o false]),hP 7]),
 ((62,2,20),[(5,false,.ft false [.o false])]),
 ((62,2,43),[(5,false,.ft false [.o false])]),
 ((67,0,0),[hP 5,hP 6]),
 ((67,2,21),[(7,true,.ft true [.k,.k,.k,.k,.p,.k,.k,.k])]),
 ((63,0,0),[hP 4,hP 5]),
 ((242,0,0),[hP 8,hP 11]),
 ((234,0,0),[hP 6,(10,false,.rows [(0,true)])]),
 ((234,0,2),[hP 9,(10,false,.rows [(0,true)])]),
 ((234,2,48),[(10,false,.rows [(0,true)])]),
 ((100,0,0),[hP 4,hP 5]),
 ((235,0,0),[hO 5,hP 6]),
 ((235,2,19),[hO 5]),
 ((218,0,0),[hP 14,(47,false,.rows [(0,true)])]),
 ((218,0,2),[hP 15,(48,false,.rows [(0,false)]),(49,false,.rows [(0,true)]),(47,false,.rows [(0,true)])]),
 ((218,0,4),[hP 16,hP 17]),
 ((218,0,6),[hP 18,(48,false,.rows [(0,false)]),(47,false,.rows [(0,true)])]),
 ((218,0,8),[hO 7,hP 22]),
 ((218,2,126),[hP 20]),
 ((218,2,147),[(48,false,.rows [(0,false)]),(47,false,.rows [(0,true)])]),
 ((218,2,163),[(48,false,.rows [(0,false)])]),
 ((218,2,180),[hO 7]),
 ((218,2,94),[hP 16]),
 ((221,0,0),[hP 5,hP 6]),
 ((219,0,0),[(8,false,.ft false [.o false]),hP 9]),
 ((219,0,2),[(7,false,.ft false [.o false]),hP 10]),
 ((219,0,4),[hP 12,hP 13,(11,true,.ft true [.p,.p,.p])]),
 ((219,2,56),[(14,true,.ft true [.p,.p,.p])]),
 ((219,2,61),[(7,false,.ft false [.o false])]),
 ((237,0,0),[hP 6,hP 16,(12,true,.ft true [.p,.p,.p])]),
 ((237,2,81),[(18,true,.ft true [.p,.p,.p])]),
 ((220,0,0),[(11,false,.ft false [.o false]),hP 12]),
 ((220,0,2),[(9,false,.ft false [.o false]),hP 13]),
 ((220,0,4),[hP 17,hP 18,(16,true,.ft true [.p,.p,.p])]),
 ((220,2,88),[(9,false,.ft false [.o false])]),
 ((167,0,0),[hO 10,hP 11]),
 ((167,0,2),[hO 9,hP 15]),
 ((167,2,37),[hO 10]),
 ((167,2,84),[(18,true,.ft true [.p,.p,.p]),hP 19]),
 ((167,2,91),[hO 9]),
 ((60,0,0),[(5,false,.ft false [.o false]),hP 6]),
 ((60,0,2),[(7,false,.ft false [.o false]),hP 9]),
 ((60,0,4),[(7,false,.ft false [.o false]),hP 10]),
 ((60,0,6),[hP 3,hP 12]),
 ((60,2,46),[(7,false,.ft false [.o false]),hP 5,hP 40,(41,false,.ft false [.d])]),
 ((60,2,86),[(7,false,.ft false [.o false])]),
 ((19,0,0),[hP 4,hP 5]),
 ((12,0,0),[hP 5,hP 6]),
 ((12,0,2),[hP 5,hP 10]),
 ((12,0,4),[hO 3,hP 13]),
 ((184,0,0),[hO 5,hP 6]),
 ((184,2,28),[hO 5]),
 ((107,2,8),[(1,true,.ft true [.k,.k,.k,.k,.k,.k,.p,.k])]),
 ((185,0,0),[hP 6,(9,false,.rows [(0,false)])]),
 ((56,0,0),[hO 3,hP 8]),
 ((68,0,0),[hP 2,hP 26]),
 ((68,0,2),[hP 2,hP 55]),
 ((172,0,0),[hP 8,hP 14]),
 ((70,0,0),[hP 2,hP 3]),
 ((222,0,0),[hP 2,hP 8]),
 ((71,0,0),[hP 2,hP 7]),
 ((87,0,0),[hO 5,hP 6]),
 ((87,0,2),[hO 5,hP 7]),
 ((87,2,23),[hO 5]),
 ((82,0,0),[hO 3,hP 8]),
 ((82,2,13),[hO 3]),
 ((88,0,0),[hP 4,hP 13]),
 ((23,0,0),[hP 2,hP 26]),
 ((84,0,0),[hP 5]),
 ((84,4,6),[(0,false,.rows [(0,true)])]),
 ((74,0,0),[hO 5,hP 11]),
 ((74,2,24),[hO 5]),
 ((73,0,0),[hO 3,hP 14]),
 ((73,0,2),[hP 7,(6,true,.ft true [.k,.k,.k,.k,.k,.o true,.k,.k])]),
 ((73,2,36),[(6,true,.ft true [.k,.k,.k,.k,.k,.o true,.k,.k])]),
 ((57,0,0),[hP 5]),
 ((57,2,40),[hP 5]),
 ((175,0,0),[hP 4,hP 9]),
 ((76,0,0),[(7,false,.ft false [.o false]),hP 14]),
 ((76,0,2),[(7,false,.ft false [.o false]),hP 34]),
 ((76,2,26),[(7,false,.ft false [.o false])]),
 ((157,0,0),[hP 4,hP 9]),
 ((244,0,0),[hP 8,hP 25]),
 ((227,0,1),[hP 34,(5,true,.ft true [.k,.k,.o true])]),
 ((227,0,3),[hP 47,(5,true,.ft true [.k,.k,.o true])]),
 ((223,0,0),[hP 10,(3,false,.rows [(0,true)])]),
 ((223,2,47),[(12,true,.ft true [.k,.k,.o true])]),
 ((223,2,55),[(3,false,.rows [(0,true)]),(12,true,.ft true [.k,.k,.d])]),
 ((223,2,70),[(3,false,.rows [(0,true)])]),
 ((176,0,0),[hO 8,(30,false,.rows [(0,true)])]),
 ((176,0,2),[hP 9,hP 10]),
 ((176,0,4),[hO 11,hP 84,(30,false,.rows [(0,true)])]),
 ((176,2,68),[hP 9]),
 ((176,2,90),[hO 11,(87,false,.ft true [.k,.k,.d]),(13,true,.ft true [.k,.k,.d])]),
 ((176,5,16),[(7,false,.rows [(0,true)])]),
 ((178,0,0),[hP 5,hP 10]),
 ((177,2,36),[(4,true,.ft false [.o true])]),
 ((225,0,0),[hP 5]),
 ((225,5,7),[(0,false,.rows [(0,true)])]),
 ((179,0,0),[hO 7,hP 14]),
 ((179,0,2),[hO 7,hP 23,(21,false,.rows [(0,false)])]),
 ((180,0,0),[hO 10,hP 23]),
 ((77,0,0),[hO 9,hP 21]),
 ((77,0,2),[hP 43,(13,true,.ft false [.o true]),(41,false,.rows [(0,false)])]),
 ((77,0,4),[hP 58,(13,true,.ft false [.o true]),(56,false,.rows [(0,false)])]),
 ((77,2,27),[hO 9]),
 ((77,2,52),[(13,true,.ft false [.o true])]),
 ((18,0,0),[hO 3,hP 22,(19,false,.rows [(0,false)])]),
 ((18,0,2),[hO 3,hP 48]),
 ((18,0,4),[hO 3,hP 59,(57,false,.rows [(0,false)])]),
 ((18,0,6),[hO 3,hP 72]),
 ((18,2,39),[hO 3,hP 19,hP 4,hP 20]),
 ((18,2,80),[hO 3]),
 ((158,0,0),[hP 4,hP 36]),
 ((159,2,12),[hP 5]),
 ((160,2,8),[(3,true,.ft true [.k,.k,.k,.k,.k,.k,.p,.k])]),
 ((55,0,0),[hO 3,hP 15,(12,false,.rows [(0,false)])]),
 ((55,0,2),[hO 3,hP 46]),
 ((55,2,34),[hO 3,(6,true,.ft true [.k,.k,.k,.k,.p,.k,.k,.k])]),
 ((55,2,66),[hO 3,(10,true,.ft true [.k,.k,.k,.k,.p,.k,.k,.k])]),
 ((11,0,0),[hO 3,hO 6,hP 22]),
 ((186,0,0),[hO 5,hP 10]),
 ((186,2,22),[hO 5]),
 ((187,2,17),[(3,true,.ft true [.k,.k,.k,.k,.k,.k,.p,.k])]),
 ((86,0,0),[hO 5,hP 12,(10,false,.rows [(0,false)])]),
 ((139,0,0),[hP 4,hP 5]),
 ((140,0,0),[hP 4,hP 5]),
 ((128,0,0),[hP 4,hP 5]),
 ((232,0,0),[hP 4,hP 5]),
 ((129,0,0),[hP 4,hP 5]),
 ((115,0,0),[hP 4,hP 5]),
 ((34,0,0),[hP 4,hP 5]),
 ((141,0,0),[hP 1,hP 5,(0,false,.rows [(0,true)])]),
 ((142,0,0),[hP 1,hP 5,(0,false,.rows [(0,true)])]),
 ((118,0,0),[hP 1,hP 5,(0,false,.rows [(0,true)])]),
 ((198,0,0),[hP 1,hP 5,(0,false,.rows [(0,true)])]),
 ((119,0,0),[hP 1,hP 5,(0,false,.rows [(0,true)])]),
 ((117,0,0),[hP 1,hP 5,(0,false,.rows [(0,true)])]),
 ((36,0,0),[hP 1,hP 5,(0,false,.rows [(0,true)])]),
 ((210,0,0),[hP 1,hP 4,hP 5]),
 ((211,0,0),[hP 1,hP 4,hP 5]),
 ((122,0,0),[hP 1,hP 4,hP 5]),
 ((199,0,0),[hP 1,hP 4,hP 5]),
 ((123,0,0),[hP 1,hP 4,hP 5]),
 ((121,0,0),[hP 1,hP 4,hP 5]),
 ((38,0,0),[hP 1,hP 4,hP 5]),
 ((98,0,0),[hP 6,hP 7]),
 ((29,0,0),[hP 2,hP 3]),
 ((29,0,2),[hP 2,hP 4]),
 ((29,1,1),[hP 34]),
 ((29,1,14),[hP 127]),
 ((29,1,8),[hP 92]),
 ((102,0,0),[hO 9,hP 10]),
 ((102,0,2),[hP 12,hP 13]),
 ((102,0,4),[hP 12,hP 14]),
 ((102,2,34),[hP 12,(31,false,.ft false [.d])]),
 ((102,2,65),[hO 9,(12,false,.ft false [.d]),(62,false,.ft false [.d]),(63,false,.ft false [.d])]),
 ((28,0,0),[hO 5,hP 6]),
 ((28,2,35),[hO 5]),
 ((103,2,23),[(7,false,.ft false [.o false]),(10,false,.ft false [.d])]),
 ((103,2,41),[(7,false,.ft false [.o false])]),
 ((104,0,0),[hO 7,hP 8,(6,true,.ft true [.k,.k,.k,.k,.k,.k,.p]),(12,false,.ft true [.k,.k,.k,.k,.k,.k,.p])]),
 ((104,2,35),[(6,true,.ft true [.k,.k,.k,.k,.k,.k,.p]),hO 7]),
 ((27,4,12),[(6,true,.rows [(3,true),(4,true),(5,true),(6,true),(7,true)]),(10,false,.rows [(0,true)])]),
 ((27,4,16),[(6,true,.rows [(3,true),(4,true),(5,true),(6,true),(7,true)])]),
 ((27,4,20),[(6,true,.rows [(3,true),(4,true),(5,true),(6,true),(7,true)]),(12,false,.rows [(0,true)]),(13,false,.rows [(0,true)])]),
 ((91,0,0),[hP 6,hP 12]),
 ((189,0,0),[hP 2,hP 7]),
 ((190,0,0),[hP 2,hP 8]),
 ((92,0,0),[hP 2,hP 49]),
 ((193,0,0),[hO 5,hP 13]),
 ((193,0,2),[hO 5,hP 23]),
 ((193,2,41),[hO 5]),
 ((96,0,0),[hO 9,hP 25]),
 ((96,2,36),[hO 14]),
 ((96,2,47),[hO 9,(14,false,.ft false [.d]),hD 44]),
 ((191,0,0),[hO 5,hP 11]),
 ((191,2,29),[hO 5]),
 ((94,2,32),[hO 9,(29,false,.ft false [.d]),(10,false,.ft false [.d]),(30,false,.ft false [.d])]),
 ((94,2,45),[hO 9]),
 ((94,6,8),[(11,true,.ft false [.p])]),
 ((192,0,0),[hO 6,hO 7,hP 16]),
 ((192,2,26),[hO 6,hO 7,(10,false,.ft false [.d])]),
 ((7,1,18),[hP 12]++hE [0,1,5,17,18,19,20,21,22,23,24,25,26,27,28,29,30,31,32,33,34,35,36,37,38,39,40,41,42,43,44,45,46,47,48,49,50,51,52,53,54,55,56,57,58,59,60,61,62,63,64]),
 ((7,1,23),[hP 13,hD 8,hD 9,hD 12,hD 65,hD 66,hD 67,hD 68,hD 69,hD 70,hD 71,hD 72,hD 73,hD 74,hD 75,hD 76,hD 77,hD 78,hD 79,hD 80,hD 81,hD 82,hD 83,hD 84,(8,true,.ft true [.d,.d,.d,.d,.d,.d,.d,.d]),(9,true,.ft true [.d,.d,.d,.d,.d,.d])]),
 ((7,1,26),[hP 14]++hE [85,86,87,88,89,90]),
 ((7,1,38),[hP 14,hD 2,hD 3,hD 6,hD 7,hD 15,hD 16,hD 91,hD 92,hD 93,hD 94,hD 95,hD 96,hD 97,hD 98,hD 99,hD 100,hD 101,hD 102,hD 103,hD 104,hD 105,hD 106,hD 107,hD 108,hD 109,hD 110,hD 111,hD 112,hD 113,hD 114,hD 115,hD 116,hD 117,hD 118,hD 119,hD 120,hD 121,(2,true,.ft true [.d,.d,.d,.d,.d,.d,.d,.d]),(3,true,.ft true [.d,.d,.d,.d,.d,.d]),(6,true,.ft true [.d,.d,.d,.d,.d,.d,.d,.d]),(15,true,.ft true [.d,.d,.d,.d,.d,.d,.d,.d])])]
def lfz:List (Nat×Nat×Nat):=[(176,18,1)]
def aom:List Nat:=[11,141,142,49,118,198,119,116,117,35,36,6,42,7]
def lfn:List (Nat×Func):=[(84,Tryz.f84),(223,Tryz.f223),(177,Tryz.f177),(225,Tryz.f225),(83,Tryz.f83),(85,Tryz.f85),(141,Tryz.f141),(142,Tryz.f142),(49,Tryz.f49),(118,Tryz.f118),(198,Tryz.f198),(119,Tryz.f119),(116,Tryz.f116),(117,Tryz.f117),(35,Tryz.f35),(36,Tryz.f36),(96,Tryz.f96),(93,Tryz.f93),(94,Tryz.f94),(42,Tryz.f42)]
def cx:Cx:={ty:=Cv lty,sg:=λ_=>none,fn:=GW lfn,rH:=V2 aol,fz:=V3 lfz,nest:=V4 aom}
theorem aon:fX Tryz.prog 84:=.mk Tryz.func84 (by kernel_rfl) (by kernel_rfl)
theorem aoo:fX Tryz.prog 223:=.mk Tryz.func223 (by kernel_rfl) (by kernel_rfl)
theorem aop:fX Tryz.prog 177:=.mk Tryz.func177 (by kernel_rfl) (by kernel_rfl)
theorem aoq:fX Tryz.prog 225:=.mk Tryz.func225 (by kernel_rfl) (by kernel_rfl)
theorem aor:fX Tryz.prog 83:=.mk Tryz.func83 (by kernel_rfl) (by kernel_rfl)
theorem aos:fX Tryz.prog 85:=.mk Tryz.func85 (by kernel_rfl) (by kernel_rfl)
theorem aot:fX Tryz.prog 141:=.mk Tryz.func141 (by kernel_rfl) (by kernel_rfl)
theorem aou:fX Tryz.prog 142:=.mk Tryz.func142 (by kernel_rfl) (by kernel_rfl)
theorem aov:fX Tryz.prog 49:=.mk Tryz.func49 (by kernel_rfl) (by kernel_rfl)
theorem aow:fX Tryz.prog 118:=.mk Tryz.func118 (by kernel_rfl) (by kernel_rfl)
theorem aox:fX Tryz.prog 198:=.mk Tryz.func198 (by kernel_rfl) (by kernel_rfl)
theorem aoy:fX Tryz.prog 119:=.mk Tryz.func119 (by kernel_rfl) (by kernel_rfl)
theorem aoz:fX Tryz.prog 116:=.mk Tryz.func116 (by kernel_rfl) (by kernel_rfl)
theorem aoA:fX Tryz.prog 117:=.mk Tryz.func117 (by kernel_rfl) (by kernel_rfl)
theorem aoB:fX Tryz.prog 35:=.mk Tryz.func35 (by kernel_rfl) (by kernel_rfl)
theorem aoC:fX Tryz.prog 36:=.mk Tryz.func36 (by kernel_rfl) (by kernel_rfl)
theorem aoD:fX Tryz.prog 96:=.mk Tryz.func96 (by kernel_rfl) (by kernel_rfl)
theorem aoE:fX Tryz.prog 93:=.mk Tryz.func93 (by kernel_rfl) (by kernel_rfl)
theorem aoF:fX Tryz.prog 94:=.mk Tryz.func94 (by kernel_rfl) (by kernel_rfl)
theorem aoG:fX Tryz.prog 42:=.mk Tryz.func42 (by kernel_rfl) (by kernel_rfl)
theorem dx:MI Tryz.prog cx:=⟨akb (l:=lty) (by kernel_rfl) rfl,akc (l:=lfn) (fc ⟨⟨Tryz.func84,aon⟩,fc ⟨⟨Tryz.func223,aoo⟩,fc ⟨⟨Tryz.func177,aop⟩,fc ⟨⟨Tryz.func225,aoq⟩,fc ⟨⟨Tryz.func83,aor⟩,fc ⟨⟨Tryz.func85,aos⟩,fc ⟨⟨Tryz.func141,aot⟩,fc ⟨⟨Tryz.func142,aou⟩,fc ⟨⟨Tryz.func49,aov⟩,fc ⟨⟨Tryz.func118,aow⟩,fc ⟨⟨Tryz.func198,aox⟩,fc ⟨⟨Tryz.func119,aoy⟩,fc ⟨⟨Tryz.func116,aoz⟩,fc ⟨⟨Tryz.func117,aoA⟩,fc ⟨⟨Tryz.func35,aoB⟩,fc ⟨⟨Tryz.func36,aoC⟩,fc ⟨⟨Tryz.func96,aoD⟩,fc ⟨⟨Tryz.func93,aoE⟩,fc ⟨⟨Tryz.func94,aoF⟩,fc ⟨⟨Tryz.func42,aoG⟩,f0⟩⟩⟩⟩⟩⟩⟩⟩⟩⟩⟩⟩⟩⟩⟩⟩⟩⟩⟩⟩) rfl,by kernel_rfl⟩
structure J where
 g:Nat
 sg:nZ
 ks:List (gy Tryz.prog)
 fn:Func
def jo(j:J):Option PL:=Bc (cx.on (V5 j.ks)) 8 j.g j.fn j.sg
def jp(j:J):PL:=(jo j).getD (.ret [])
theorem gs{o:Option PL}{d:PL}(h:o.isSome=true):o=some (o.getD d):=by cases o with|none=>cases h|some x=>rfl
def cZ(j:J)(F:af)(hf:Tryz.prog.funcs[j.g]?=some j.fn)(h:(jo j).isSome=true)(h1:((j.fn.name== "runtime.NumGoroutine")||j.fn.body.isNone)=false)(hF:F=Fs (jp j) (kS j.ks)):gy Tryz.prog:=gy.dP dx j.g j.sg (jp j) F j.ks hf (gs h) h1 hF
def sq:PL:=
 .ins (.pr (.len) [.a 0])<|
 .ins (.pr (.bin .sub) [.a 1,.a 2])<|
 .ins (.pr (.bin .lss) [.a 3,.k (.int .i64 0)])<|
 .ite 4 (
 .ins (.pr (.bM) [.k (.int .i64 (-1))])<|
 .ret [.a 5]) (
 .ins (.pr (.bM) [.a 3])<|
 .ret [.a 5])
def Xa:Nat->af:=pick []
def Hc:af:=λts=>sq.den Xa rounds [] ts
def aoH:=gy.dP dx 130 ⟨[.v false 1,.v false 1],[(false,[.s])]⟩ sq Hc [] Tryz.func130 (by kernel_rfl) (by kernel_rfl) (by kernel_rfl)
def qO:PL:=
 .ins (.pr (.len) [.a 0])<|
 .ins (.pr (.bin .sub) [.a 1,.a 2])<|
 .ins (.pr (.bin .lss) [.a 3,.k (.int .i64 0)])<|
 .ite 4 (
 .ins (.pr (.bM) [.k (.int .i64 (-1))])<|
 .ret [.a 5]) (
 .ins (.pr (.bM) [.a 3])<|
 .ret [.a 5])
def Xb:Nat->af:=pick []
def He:af:=λts=>qO.den Xb rounds [] ts
def aoI:=gy.dP dx 131 ⟨[.v false 1,.v false 1],[(false,[.s])]⟩ qO He [] Tryz.func131 (by kernel_rfl) (by kernel_rfl) (by kernel_rfl)
def nQ:PL:=
 .ins (.cl 130 [.a 1,.a 3] 1)<|
 .ins (.pr (.bin .lss) [.a 4,.k (.int .i64 0)])<|
 .ite 5 (
 .ins (.pr (.bM) [.k (.int .i64 (-1))])<|
 .ret [.a 6]) (
 .ins (.cl 131 [.a 2,.a 4] 1)<|
 .ins (.pr (.bin .lss) [.a 6,.k (.int .i64 0)])<|
 .ite 7 (
 .ins (.pr (.bM) [.k (.int .i64 (-1))])<|
 .ret [.a 8]) (
 .ins (.pr (.bM) [.a 6])<|
 .ret [.a 8]))
def M2:Nat->af:=pick [(130,Hc),(131,He)]
def xi:af:=λts=>nQ.den M2 rounds [] ts
def aoJ:=gy.dP dx 43 ⟨[.v true 3,.v false 1],[(false,[.s])]⟩ nQ xi [aoH,aoI] Tryz.func43 (by kernel_rfl) (by kernel_rfl) (by kernel_rfl)
def vn:PL:=
 .ins (.pr (.len) [.a 0])<|
 .ins (.pr (.bin .sub) [.a 1,.a 2])<|
 .ins (.pr (.bin .lss) [.a 3,.k (.int .i64 0)])<|
 .ite 4 (
 .ins (.pr (.bM) [.k (.int .i64 (-1))])<|
 .ret [.a 5]) (
 .ins (.pr (.bM) [.a 3])<|
 .ret [.a 5])
def Xc:Nat->af:=pick []
def zS:af:=λts=>vn.den Xc rounds [] ts
def Xd:=gy.dP dx 124 ⟨[.v false 1,.v false 1],[(false,[.s])]⟩ vn zS [] Tryz.func124 (by kernel_rfl) (by kernel_rfl) (by kernel_rfl)
def sr:PL:=
 .ins (.pr (.len) [.a 0])<|
 .ins (.pr (.bin .sub) [.a 1,.a 2])<|
 .ins (.pr (.bin .lss) [.a 3,.k (.int .i64 0)])<|
 .ite 4 (
 .ins (.pr (.bM) [.k (.int .i64 (-1))])<|
 .ret [.a 5]) (
 .ins (.pr (.bM) [.a 3])<|
 .ret [.a 5])
def Xe:Nat->af:=pick []
def Hf:af:=λts=>sr.den Xe rounds [] ts
def aoK:=gy.dP dx 230 ⟨[.v false 1,.v false 1],[(false,[.s])]⟩ sr Hf [] Tryz.func230 (by kernel_rfl) (by kernel_rfl) (by kernel_rfl)
def kF:PL:=
 .ins (.cl 230 [.a 5,.a 8] 1)<|
 .ins (.pr (.bin .lss) [.a 9,.k (.int .i64 0)])<|
 .ite 10 (
 .ins (.pr (.bM) [.k (.int .i64 (-1))])<|
 .ret [.a 11]) (
 .ins (.pr (.bM) [.a 9])<|
 .ret [.a 11])
def Xf:Nat->af:=pick [(230,Hf)]
def CL:af:=λts=>kF.den Xf rounds [] ts
def aoL:=gy.dP dx 200 ⟨[.v true 8,.v false 1],[(false,[.s])]⟩ kF CL [aoK] Tryz.func200 (by kernel_rfl) (by kernel_rfl) (by kernel_rfl)
def pH:PL:=
 .ins (.pr (.len) [.a 0])<|
 .ins (.pr (.bin .sub) [.a 1,.a 2])<|
 .ins (.pr (.bin .lss) [.a 3,.k (.int .i64 0)])<|
 .ite 4 (
 .ins (.pr (.bM) [.k (.int .i64 (-1))])<|
 .ret [.a 5]) (
 .loop [.a 3,.k (.int .i64 0),.k (.int .i64 0)] (
 .ins (.pr (.len) [.a 0])<|
 .ins (.pr (.bin .lss) [.a 7,.a 8])<|
 .ite 9 (
 .ins (.pr (.dC) [.a 0,.a 7])<|
 .ins (.pr (.cell 8 0) [.a 0,.a 7])<|
 .ins (.pr (.cell 8 1) [.a 0,.a 7])<|
 .ins (.pr (.cell 8 2) [.a 0,.a 7])<|
 .ins (.pr (.cell 8 3) [.a 0,.a 7])<|
 .ins (.pr (.cell 8 4) [.a 0,.a 7])<|
 .ins (.pr (.cell 8 5) [.a 0,.a 7])<|
 .ins (.pr (.cell 8 6) [.a 0,.a 7])<|
 .ins (.pr (.cell 8 7) [.a 0,.a 7])<|
 .ins (.cl 200 [.a 11,.a 12,.a 13,.a 14,.a 15,.a 16,.a 17,.a 18,.a 5] 1)<|
 .ins (.pr (.bin .lss) [.a 19,.k (.int .i64 0)])<|
 .ite 20 (
 .ins (.pr (.bM) [.k (.int .i64 (-1))])<|
 .ret [.a 21]) (
 .ins (.pr (.bin .add) [.a 7,.k (.int .i64 1)])<|
 .go 0 [.a 19,.a 6,.a 21])) (
 .ins (.pr (.bM) [.a 5])<|
 .ret [.a 10])))
def Xg:Nat->af:=pick [(200,CL)]
def RU:af:=λts=>pH.den Xg rounds [] ts
def Xh:=gy.dP dx 125 ⟨[.v false 1,.v false 1],[(false,[.s])]⟩ pH RU [aoL] Tryz.func125 (by kernel_rfl) (by kernel_rfl) (by kernel_rfl)
def j_:PL:=
 .ins (.cl 43 [.a 2,.a 3,.a 4,.a 7] 1)<|
 .ins (.pr (.bin .lss) [.a 8,.k (.int .i64 0)])<|
 .ite 9 (
 .ins (.pr (.bM) [.k (.int .i64 (-1))])<|
 .ret [.a 10]) (
 .ins (.cl 124 [.a 5,.a 8] 1)<|
 .ins (.pr (.bin .lss) [.a 10,.k (.int .i64 0)])<|
 .ite 11 (
 .ins (.pr (.bM) [.k (.int .i64 (-1))])<|
 .ret [.a 12]) (
 .ins (.cl 125 [.a 6,.a 10] 1)<|
 .ins (.pr (.bin .lss) [.a 12,.k (.int .i64 0)])<|
 .ite 13 (
 .ins (.pr (.bM) [.k (.int .i64 (-1))])<|
 .ret [.a 14]) (
 .ins (.pr (.bM) [.a 12])<|
 .ret [.a 14])))
def Hg:Nat->af:=pick [(43,xi),(124,zS),(125,RU)]
def J7:af:=λts=>j_.den Hg rounds [] ts
def aoM:=gy.dP dx 108 ⟨[.v true 7,.v false 1],[(false,[.s])]⟩ j_ J7 [aoJ,Xd,Xh] Tryz.func108 (by kernel_rfl) (by kernel_rfl) (by kernel_rfl)
def vo:PL:=
 .ins (.pr (.len) [.a 0])<|
 .ins (.pr (.bin .sub) [.a 1,.a 2])<|
 .ins (.pr (.bin .lss) [.a 3,.k (.int .i64 0)])<|
 .ite 4 (
 .ins (.pr (.bM) [.k (.int .i64 (-1))])<|
 .ret [.a 5]) (
 .ins (.pr (.bM) [.a 3])<|
 .ret [.a 5])
def Xi:Nat->af:=pick []
def Hh:af:=λts=>vo.den Xi rounds [] ts
def aoN:=gy.dP dx 109 ⟨[.v false 1,.v false 1],[(false,[.s])]⟩ vo Hh [] Tryz.func109 (by kernel_rfl) (by kernel_rfl) (by kernel_rfl)
def lR:PL:=
 .ins (.cl 108 [.a 0,.a 1,.a 2,.a 3,.a 4,.a 5,.a 6,.a 8] 1)<|
 .ins (.pr (.bin .lss) [.a 9,.k (.int .i64 0)])<|
 .ite 10 (
 .ins (.pr (.bM) [.k (.int .i64 (-1))])<|
 .ret [.a 11]) (
 .ins (.cl 109 [.a 7,.a 9] 1)<|
 .ins (.pr (.bin .lss) [.a 11,.k (.int .i64 0)])<|
 .ite 12 (
 .ins (.pr (.bM) [.k (.int .i64 (-1))])<|
 .ret [.a 13]) (
 .ins (.pr (.bM) [.a 11])<|
 .ret [.a 13]))
def M3:Nat->af:=pick [(108,J7),(109,Hh)]
def M4:af:=λts=>lR.den M3 rounds [] ts
def aoO:=gy.dP dx 30 ⟨[.v true 8,.v false 1],[(false,[.s])]⟩ lR M4 [aoM,aoN] Tryz.func30 (by kernel_rfl) (by kernel_rfl) (by kernel_rfl)
def qP:PL:=
 .ins (.pr (.bM) [.a 3])<|
 .ins (.pr (.bM) [.a 2])<|
 .ins (.pr (.bM) [.a 1])<|
 .ins (.pr (.bM) [.a 0])<|
 .ret [.a 7,.a 6,.a 5,.a 4]
def aoP:Nat->af:=pick []
def Hi:af:=λts=>qP.den aoP rounds [] ts
def aoQ:=gy.dP dx 206 ⟨[.v true 4],[(true,[.s,.s,.s,.s])]⟩ qP Hi [] Tryz.func206 (by kernel_rfl) (by kernel_rfl) (by kernel_rfl)
def ss:PL:=
 .ins (.pr (.len) [.a 0])<|
 .ins (.pr (.mk) [.a 1,.a 1,.k (.int .i64 0),.k (.int .i64 0),.k (.int .i64 0),.k (.int .i64 0)])<|
 .loop [.k (.int .i64 0),.a 2] (
 .ins (.pr (.len) [.a 0])<|
 .ins (.pr (.bin .lss) [.a 3,.a 5])<|
 .ite 6 (
 .ins (.pr (.dC) [.a 0,.a 3])<|
 .ins (.pr (.cell 4 0) [.a 0,.a 3])<|
 .ins (.pr (.cell 4 1) [.a 0,.a 3])<|
 .ins (.pr (.cell 4 2) [.a 0,.a 3])<|
 .ins (.pr (.cell 4 3) [.a 0,.a 3])<|
 .ins (.cl 206 [.a 8,.a 9,.a 10,.a 11] 4)<|
 .ins (.pr (.dC) [.a 4,.a 3])<|
 .ins (.pr (.put true 4 0 4) [.a 4,.a 3,.a 12,.a 13,.a 14,.a 15])<|
 .ins (.pr (.bin .add) [.a 3,.k (.int .i64 1)])<|
 .go 0 [.a 18,.a 17]) (
 .ret [.a 4]))
def Xj:Nat->af:=pick [(206,Hi)]
def Hj:af:=λts=>ss.den Xj rounds [] ts
def aoR:=gy.dP dx 135 ⟨[.v false 1],[(false,[.o true])]⟩ ss Hj [aoQ] Tryz.func135 (by kernel_rfl) (by kernel_rfl) (by kernel_rfl)
def oI:PL:=
 .ins (.pr (.bM) [.a 3])<|
 .ins (.pr (.bM) [.a 2])<|
 .ins (.pr (.bM) [.a 1])<|
 .ins (.pr (.bM) [.a 0])<|
 .ret [.a 7,.a 6,.a 5,.a 4]
def aoS:Nat->af:=pick []
def Hk:af:=λts=>oI.den aoS rounds [] ts
def aoT:=gy.dP dx 207 ⟨[.v true 4],[(true,[.s,.s,.s,.s])]⟩ oI Hk [] Tryz.func207 (by kernel_rfl) (by kernel_rfl) (by kernel_rfl)
def qQ:PL:=
 .ins (.pr (.len) [.a 0])<|
 .ins (.pr (.mk) [.a 1,.a 1,.k (.int .i64 0),.k (.int .i64 0),.k (.int .i64 0),.k (.bool false)])<|
 .loop [.k (.int .i64 0),.a 2] (
 .ins (.pr (.len) [.a 0])<|
 .ins (.pr (.bin .lss) [.a 3,.a 5])<|
 .ite 6 (
 .ins (.pr (.dC) [.a 0,.a 3])<|
 .ins (.pr (.cell 4 0) [.a 0,.a 3])<|
 .ins (.pr (.cell 4 1) [.a 0,.a 3])<|
 .ins (.pr (.cell 4 2) [.a 0,.a 3])<|
 .ins (.pr (.cell 4 3) [.a 0,.a 3])<|
 .ins (.cl 207 [.a 8,.a 9,.a 10,.a 11] 4)<|
 .ins (.pr (.dC) [.a 4,.a 3])<|
 .ins (.pr (.put true 4 0 4) [.a 4,.a 3,.a 12,.a 13,.a 14,.a 15])<|
 .ins (.pr (.bin .add) [.a 3,.k (.int .i64 1)])<|
 .go 0 [.a 18,.a 17]) (
 .ret [.a 4]))
def Xk:Nat->af:=pick [(207,Hk)]
def Hl:af:=λts=>qQ.den Xk rounds [] ts
def aoU:=gy.dP dx 136 ⟨[.v false 1],[(false,[.o true])]⟩ qQ Hl [aoT] Tryz.func136 (by kernel_rfl) (by kernel_rfl) (by kernel_rfl)
def tq:PL:=
 .ins (.cl 135 [.a 1] 1)<|
 .ins (.cl 136 [.a 2] 1)<|
 .ins (.pr (.bM) [.a 0])<|
 .ret [.a 5,.a 3,.a 4]
def M5:Nat->af:=pick [(135,Hj),(136,Hl)]
def CM:af:=λts=>tq.den M5 rounds [] ts
def aoV:=gy.dP dx 45 ⟨[.v true 3],[(true,[.s,.o true,.o true])]⟩ tq CM [aoR,aoU] Tryz.func45 (by kernel_rfl) (by kernel_rfl) (by kernel_rfl)
def vp:PL:=
 .ins (.pr (.len) [.a 0])<|
 .ins (.pr (.mk) [.a 1,.a 1,.k (.int .i64 0)])<|
 .loop [.k (.int .i64 0),.a 2] (
 .ins (.pr (.len) [.a 0])<|
 .ins (.pr (.bin .lss) [.a 3,.a 5])<|
 .ite 6 (
 .ins (.pr (.dC) [.a 0,.a 3])<|
 .ins (.pr (.cell 1 0) [.a 0,.a 3])<|
 .ins (.pr (.dC) [.a 4,.a 3])<|
 .ins (.pr (.put true 1 0 1) [.a 4,.a 3,.a 8])<|
 .ins (.pr (.bin .add) [.a 3,.k (.int .i64 1)])<|
 .go 0 [.a 11,.a 10]) (
 .ret [.a 4]))
def Xl:Nat->af:=pick []
def zU:af:=λts=>vp.den Xl rounds [] ts
def Xm:=gy.dP dx 126 ⟨[.v false 1],[(false,[.o true])]⟩ vp zU [] Tryz.func126 (by kernel_rfl) (by kernel_rfl) (by kernel_rfl)
def qR:PL:=
 .ins (.pr (.bM) [.a 1])<|
 .ins (.pr (.bM) [.a 0])<|
 .ret [.a 3,.a 2]
def aoW:Nat->af:=pick []
def Hm:af:=λts=>qR.den aoW rounds [] ts
def aoX:=gy.dP dx 240 ⟨[.v true 2],[(true,[.s,.s])]⟩ qR Hm [] Tryz.func240 (by kernel_rfl) (by kernel_rfl) (by kernel_rfl)
def su:PL:=
 .ins (.pr (.len) [.a 0])<|
 .ins (.pr (.mk) [.a 1,.a 1,.k (.int .i64 0),.k (.int .i64 0)])<|
 .loop [.k (.int .i64 0),.a 2] (
 .ins (.pr (.len) [.a 0])<|
 .ins (.pr (.bin .lss) [.a 3,.a 5])<|
 .ite 6 (
 .ins (.pr (.dC) [.a 0,.a 3])<|
 .ins (.pr (.cell 2 0) [.a 0,.a 3])<|
 .ins (.pr (.cell 2 1) [.a 0,.a 3])<|
 .ins (.cl 240 [.a 8,.a 9] 2)<|
 .ins (.pr (.dC) [.a 4,.a 3])<|
 .ins (.pr (.put true 2 0 2) [.a 4,.a 3,.a 10,.a 11])<|
 .ins (.pr (.bin .add) [.a 3,.k (.int .i64 1)])<|
 .go 0 [.a 14,.a 13]) (
 .ret [.a 4]))
def Xn:Nat->af:=pick [(240,Hm)]
def Ho:af:=λts=>su.den Xn rounds [] ts
def aoY:=gy.dP dx 231 ⟨[.v false 1],[(false,[.o true])]⟩ su Ho [aoX] Tryz.func231 (by kernel_rfl) (by kernel_rfl) (by kernel_rfl)
def mT:PL:=
 .ins (.cl 231 [.a 5] 1)<|
 .ins (.pr (.bM) [.a 7])<|
 .ins (.pr (.bM) [.a 6])<|
 .ins (.pr (.bM) [.a 4])<|
 .ins (.pr (.bM) [.a 3])<|
 .ins (.pr (.bM) [.a 2])<|
 .ins (.pr (.bM) [.a 1])<|
 .ins (.pr (.bM) [.a 0])<|
 .ret [.a 15,.a 14,.a 13,.a 12,.a 11,.a 8,.a 10,.a 9]
def Xo:Nat->af:=pick [(231,Ho)]
def Hp:af:=λts=>mT.den Xo rounds [] ts
def aoZ:=gy.dP dx 201 ⟨[.v true 8],[(true,[.s,.s,.s,.s,.s,.o true,.s,.s])]⟩ mT Hp [aoY] Tryz.func201 (by kernel_rfl) (by kernel_rfl) (by kernel_rfl)
def pI:PL:=
 .ins (.pr (.len) [.a 0])<|
 .ins (.pr (.mk) [.a 1,.a 1,.k (.int .i64 0),.k (.int .i64 0),.k (.int .i64 0),.k (.int .i64 0),.k (.int .i64 0),.e,.k (.int .i64 0),.k (.bool false)])<|
 .loop [.k (.int .i64 0),.a 2] (
 .ins (.pr (.len) [.a 0])<|
 .ins (.pr (.bin .lss) [.a 3,.a 5])<|
 .ite 6 (
 .ins (.pr (.dC) [.a 0,.a 3])<|
 .ins (.pr (.cell 8 0) [.a 0,.a 3])<|
 .ins (.pr (.cell 8 1) [.a 0,.a 3])<|
 .ins (.pr (.cell 8 2) [.a 0,.a 3])<|
 .ins (.pr (.cell 8 3) [.a 0,.a 3])<|
 .ins (.pr (.cell 8 4) [.a 0,.a 3])<|
 .ins (.pr (.cell 8 5) [.a 0,.a 3])<|
 .ins (.pr (.cell 8 6) [.a 0,.a 3])<|
 .ins (.pr (.cell 8 7) [.a 0,.a 3])<|
 .ins (.cl 201 [.a 8,.a 9,.a 10,.a 11,.a 12,.a 13,.a 14,.a 15] 8)<|
 .ins (.pr (.dC) [.a 4,.a 3])<|
 .ins (.pr (.gH [true,true,true,true,true,false,true,true] 8 0) [.a 4,.a 3,.a 16,.a 17,.a 18,.a 19,.a 20,.a 21,.a 22,.a 23])<|
 .ins (.pr (.bin .add) [.a 3,.k (.int .i64 1)])<|
 .go 0 [.a 26,.a 25]) (
 .ret [.a 4]))
def Xp:Nat->af:=pick [(201,Hp)]
def RV:af:=λts=>pI.den Xp rounds [] ts
def Xq:=gy.dP dx 127 ⟨[.v false 1],[(false,[.o true])]⟩ pI RV [aoZ] Tryz.func127 (by kernel_rfl) (by kernel_rfl) (by kernel_rfl)
def qS:PL:=
 .ins (.cl 45 [.a 2,.a 3,.a 4] 3)<|
 .ins (.cl 126 [.a 5] 1)<|
 .ins (.cl 127 [.a 6] 1)<|
 .ins (.pr (.bM) [.a 7])<|
 .ins (.pr (.bM) [.a 1])<|
 .ins (.pr (.bM) [.a 0])<|
 .ret [.a 14,.a 13,.a 12,.a 8,.a 9,.a 10,.a 11]
def Hq:Nat->af:=pick [(45,CM),(126,zU),(127,RV)]
def CN:af:=λts=>qS.den Hq rounds [] ts
def ao0:=gy.dP dx 112 ⟨[.v true 7],[(true,[.s,.s,.s,.o true,.o true,.o true,.o true])]⟩ qS CN [aoV,Xm,Xq] Tryz.func112 (by kernel_rfl) (by kernel_rfl) (by kernel_rfl)
def tv:PL:=
 .ins (.pr (.bM) [.a 3])<|
 .ins (.pr (.bM) [.a 2])<|
 .ins (.pr (.bM) [.a 1])<|
 .ins (.pr (.bM) [.a 0])<|
 .ret [.a 7,.a 6,.a 5,.a 4]
def ao1:Nat->af:=pick []
def Hr:af:=λts=>tv.den ao1 rounds [] ts
def ao2:=gy.dP dx 196 ⟨[.v true 4],[(true,[.s,.s,.s,.s])]⟩ tv Hr [] Tryz.func196 (by kernel_rfl) (by kernel_rfl) (by kernel_rfl)
def vq:PL:=
 .ins (.pr (.len) [.a 0])<|
 .ins (.pr (.mk) [.a 1,.a 1,.k (.int .i64 0),.k (.int .i64 0),.k (.int .i64 0),.k (.bool false)])<|
 .loop [.k (.int .i64 0),.a 2] (
 .ins (.pr (.len) [.a 0])<|
 .ins (.pr (.bin .lss) [.a 3,.a 5])<|
 .ite 6 (
 .ins (.pr (.dC) [.a 0,.a 3])<|
 .ins (.pr (.cell 4 0) [.a 0,.a 3])<|
 .ins (.pr (.cell 4 1) [.a 0,.a 3])<|
 .ins (.pr (.cell 4 2) [.a 0,.a 3])<|
 .ins (.pr (.cell 4 3) [.a 0,.a 3])<|
 .ins (.cl 196 [.a 8,.a 9,.a 10,.a 11] 4)<|
 .ins (.pr (.dC) [.a 4,.a 3])<|
 .ins (.pr (.put true 4 0 4) [.a 4,.a 3,.a 12,.a 13,.a 14,.a 15])<|
 .ins (.pr (.bin .add) [.a 3,.k (.int .i64 1)])<|
 .go 0 [.a 18,.a 17]) (
 .ret [.a 4]))
def Xr:Nat->af:=pick [(196,Hr)]
def Hs:af:=λts=>vq.den Xr rounds [] ts
def ao3:=gy.dP dx 113 ⟨[.v false 1],[(false,[.o true])]⟩ vq Hs [ao2] Tryz.func113 (by kernel_rfl) (by kernel_rfl) (by kernel_rfl)
def qT:PL:=
 .ins (.cl 112 [.a 0,.a 1,.a 2,.a 3,.a 4,.a 5,.a 6] 7)<|
 .ins (.cl 113 [.a 7] 1)<|
 .ins (.pr (.bM) [.a 10])<|
 .ins (.pr (.bM) [.a 9])<|
 .ins (.pr (.bM) [.a 8])<|
 .ret [.a 18,.a 17,.a 16,.a 11,.a 12,.a 13,.a 14,.a 15]
def M6:Nat->af:=pick [(112,CN),(113,Hs)]
def CO:af:=λts=>qT.den M6 rounds [] ts
def ao4:=gy.dP dx 32 ⟨[.v true 8],[(true,[.s,.s,.s,.o true,.o true,.o true,.o true,.o true])]⟩ qT CO [ao0,ao3] Tryz.func32 (by kernel_rfl) (by kernel_rfl) (by kernel_rfl)
def Xs:J:=⟨65,⟨[.v true 8],[(true,[.s,.s,.s,.s,.s,.o true,.s,.s])]⟩,[],Tryz.f65⟩
def Xt:PL:=jp Xs
def tw:af:=Fs Xt []
def M7:=cZ Xs tw Tryz.func65 (by kernel_rfl) (by kernel_rfl) (by kernel_rfl)
def Xu:J:=⟨66,⟨[.v false 1],[(false,[.o true])]⟩,[M7],Tryz.f66⟩
def Xv:PL:=jp Xu
def AE:af:=Fs Xv [(65,tw)]
def qR_:=cZ Xu AE Tryz.func66 (by kernel_rfl) (by kernel_rfl) (by kernel_rfl)
def Xw:J:=⟨59,⟨[.v true 7],[(true,[.s,.s,.s,.o true,.o true,.o true,.o true])]⟩,[qR_],Tryz.f59⟩
def Xx:PL:=jp Xw
def ER:af:=Fs Xx [(66,AE)]
def M8:=cZ Xw ER Tryz.func59 (by kernel_rfl) (by kernel_rfl) (by kernel_rfl)
def Xy:J:=⟨97,⟨[.v true 8],[(true,[.s,.s,.s,.o true,.o true,.o true,.o true,.o true])]⟩,[M8],Tryz.f97⟩
def Xz:PL:=jp Xy
def XA:af:=Fs Xz [(59,ER)]
def ao5:=cZ Xy XA Tryz.func97 (by kernel_rfl) (by kernel_rfl) (by kernel_rfl)
def XB:J:=⟨105,⟨[.v false 1,.v false 1,.v false 1],[(false,[.s])]⟩,[],Tryz.f105⟩
def XC:PL:=jp XB
def rT:af:=Fs XC []
def Ht:=cZ XB rT Tryz.func105 (by kernel_rfl) (by kernel_rfl) (by kernel_rfl)
def XD:J:=⟨203,⟨[.v false 1,.v true 4],[(false,[.s])]⟩,[Ht],Tryz.f203⟩
def XE:PL:=jp XD
def CP:af:=Fs XE [(105,rT)]
def ao6:=cZ XD CP Tryz.func203 (by kernel_rfl) (by kernel_rfl) (by kernel_rfl)
def XF:J:=⟨204,⟨[.v true 4,.v true 4],[(false,[.s])]⟩,[],Tryz.f204⟩
def XG:PL:=jp XF
def XH:af:=Fs XG []
def ao7:=cZ XF XH Tryz.func204 (by kernel_rfl) (by kernel_rfl) (by kernel_rfl)
def XI:J:=⟨205,⟨[.v true 4,.v true 4],[(false,[.s])]⟩,[],Tryz.f205⟩
def XJ:PL:=jp XI
def XK:af:=Fs XJ []
def ao8:=cZ XI XK Tryz.func205 (by kernel_rfl) (by kernel_rfl) (by kernel_rfl)
def XL:J:=⟨132,⟨[.v true 3],[(false,[.s])]⟩,[Ht,ao6,ao7,ao8],Tryz.f132⟩
def XM:PL:=jp XL
def CQ:af:=Fs XM [(105,rT),(203,CP),(204,XH),(205,XK)]
def ao9:=cZ XL CQ Tryz.func132 (by kernel_rfl) (by kernel_rfl) (by kernel_rfl)
def XN:J:=⟨150,⟨[.v true 3,.v false 1,.v false 1,.v false 1],[(false,[.s])]⟩,[],Tryz.f150⟩
def XO:PL:=jp XN
def CR:af:=Fs XO []
def Hu:=cZ XN CR Tryz.func150 (by kernel_rfl) (by kernel_rfl) (by kernel_rfl)
def XP:J:=⟨164,⟨[.v true 7],[(false,[.s])]⟩,[Hu],Tryz.f164⟩
def XQ:PL:=jp XP
def XR:af:=Fs XQ [(150,CR)]
def ao_:=cZ XP XR Tryz.func164 (by kernel_rfl) (by kernel_rfl) (by kernel_rfl)
def XS:J:=⟨229,⟨[.v true 8],[(false,[.s])]⟩,[Ht],Tryz.f229⟩
def XU:PL:=jp XS
def XV:af:=Fs XU [(105,rT)]
def ao':=cZ XS XV Tryz.func229 (by kernel_rfl) (by kernel_rfl) (by kernel_rfl)
def XW:J:=⟨195,⟨[.v true 8],[(false,[.s])]⟩,[Ht,ao'],Tryz.f195⟩
def XX:PL:=jp XW
def M9:af:=Fs XX [(105,rT),(229,XV)]
def XY:=cZ XW M9 Tryz.func195 (by kernel_rfl) (by kernel_rfl) (by kernel_rfl)
def XZ:J:=⟨168,⟨[.v true 8,.v true 8],[(false,[.s])]⟩,[],Tryz.f168⟩
def X0:PL:=jp XZ
def M_:af:=Fs X0 []
def X1:=cZ XZ M_ Tryz.func168 (by kernel_rfl) (by kernel_rfl) (by kernel_rfl)
def X2:J:=⟨106,⟨[.v false 1],[(false,[.s])]⟩,[X1,XY],Tryz.f106⟩
def X3:PL:=jp X2
def zV:af:=Fs X3 [(168,M_),(195,M9)]
def X4:=cZ X2 zV Tryz.func106 (by kernel_rfl) (by kernel_rfl) (by kernel_rfl)
def X5:J:=⟨58,⟨[.v true 7],[(false,[.s])]⟩,[Ht,X4,ao9,ao_],Tryz.f58⟩
def X6:PL:=jp X5
def CS:af:=Fs X6 [(105,rT),(106,zV),(132,CQ),(164,XR)]
def Hv:=cZ X5 CS Tryz.func58 (by kernel_rfl) (by kernel_rfl) (by kernel_rfl)
def X7:J:=⟨101,⟨[.v false 1],[(false,[.p])]⟩,[],Tryz.f101⟩
def X8:PL:=jp X7
def Na:af:=Fs X8 []
def X9:=cZ X7 Na Tryz.func101 (by kernel_rfl) (by kernel_rfl) (by kernel_rfl)
def X_:J:=⟨194,⟨[.v false 1,.v false 1],[(false,[.s])]⟩,[],Tryz.f194⟩
def X':PL:=jp X_
def Yd:af:=Fs X' []
def apa:=cZ X_ Yd Tryz.func194 (by kernel_rfl) (by kernel_rfl) (by kernel_rfl)
def Yf:J:=⟨99,⟨[.v true 8],[(false,[.s])]⟩,[Hv,X9,Ht,Hu,apa],Tryz.f99⟩
def Yi:PL:=jp Yf
def CT:af:=Fs Yi [(58,CS),(101,Na),(105,rT),(150,CR),(194,Yd)]
def apb:=cZ Yf CT Tryz.func99 (by kernel_rfl) (by kernel_rfl) (by kernel_rfl)
def Yj:J:=⟨78,⟨[.v true 3,.v false 1,.v false 1],[(false,[.p])]⟩,[Hu],Tryz.f78⟩
def Yk:PL:=jp Yj
def CU:af:=Fs Yk [(150,CR)]
def apc:=cZ Yj CU Tryz.func78 (by kernel_rfl) (by kernel_rfl) (by kernel_rfl)
def Yr:J:=⟨20,⟨[.v true 3,.v false 1],[(false,[.p])]⟩,[apc],Tryz.f20⟩
def YA:PL:=jp Yr
def Nb:af:=Fs YA [(78,CU)]
def YB:=cZ Yr Nb Tryz.func20 (by kernel_rfl) (by kernel_rfl) (by kernel_rfl)
def YC:J:=⟨165,⟨[.v true 7,.v false 1],[(true,[.s,.s,.s,.s,.s,.p,.s,.s])]⟩,[Hu],Tryz.f165⟩
def YD:PL:=jp YC
def YE:af:=Fs YD [(150,CR)]
def apd:=cZ YC YE Tryz.func165 (by kernel_rfl) (by kernel_rfl) (by kernel_rfl)
def YF:J:=⟨166,⟨[.v true 3,.v false 1],[(false,[.s])]⟩,[YB],Tryz.f166⟩
def YG:PL:=jp YF
def CV:af:=Fs YG [(20,Nb)]
def ape:=cZ YF CV Tryz.func166 (by kernel_rfl) (by kernel_rfl) (by kernel_rfl)
def YH:J:=⟨62,⟨[.v false 1,.v true 8],[(false,[.p])]⟩,[X1],Tryz.f62⟩
def YI:PL:=jp YH
def ug:af:=Fs YI [(168,M_)]
def CW:=cZ YH ug Tryz.func62 (by kernel_rfl) (by kernel_rfl) (by kernel_rfl)
def YJ:J:=⟨67,⟨[.v false 1,.v false 1],[(false,[.p])]⟩,[CW],Tryz.f67⟩
def YK:PL:=jp YJ
def Nc:af:=Fs YK [(62,ug)]
def YL:=cZ YJ Nc Tryz.func67 (by kernel_rfl) (by kernel_rfl) (by kernel_rfl)
def YM:J:=⟨72,⟨[.v true 8,.v true 8],[(false,[.s])]⟩,[],Tryz.f72⟩
def YN:PL:=jp YM
def Nd:af:=Fs YN []
def YO:=cZ YM Nd Tryz.func72 (by kernel_rfl) (by kernel_rfl) (by kernel_rfl)
def YP:J:=⟨63,⟨[.v false 1,.v true 8],[(false,[.s])]⟩,[YO],Tryz.f63⟩
def YQ:PL:=jp YP
def ye:af:=Fs YQ [(72,Nd)]
def CX:=cZ YP ye Tryz.func63 (by kernel_rfl) (by kernel_rfl) (by kernel_rfl)
def YR:J:=⟨233,⟨[.v false 1,.v false 1,.v false 1],[(true,[.s,.s,.s,.s,.s,.p,.s,.s]),(false,[.s])]⟩,[CX],Tryz.f233⟩
def YS:PL:=jp YR
def ES:af:=Fs YS [(63,ye)]
def Nf:=cZ YR ES Tryz.func233 (by kernel_rfl) (by kernel_rfl) (by kernel_rfl)
def YT:J:=⟨242,⟨[.v false 1,.v false 1,.v false 1,.v false 1],[(false,[.s])]⟩,[Nf],Tryz.f242⟩
def YU:PL:=jp YT
def YV:af:=Fs YU [(233,ES)]
def apf:=cZ YT YV Tryz.func242 (by kernel_rfl) (by kernel_rfl) (by kernel_rfl)
def YW:J:=⟨234,⟨[.v false 1,.v false 1],[(false,[.p])]⟩,[Ht,Nf,apf],Tryz.f234⟩
def YX:PL:=jp YW
def YY:af:=Fs YX [(105,rT),(233,ES),(242,YV)]
def apg:=cZ YW YY Tryz.func234 (by kernel_rfl) (by kernel_rfl) (by kernel_rfl)
def YZ:J:=⟨100,⟨[.v false 1,.v false 1],[(false,[.s])]⟩,[],Tryz.f100⟩
def Y0:PL:=jp YZ
def Ng:af:=Fs Y0 []
def Y5:=cZ YZ Ng Tryz.func100 (by kernel_rfl) (by kernel_rfl) (by kernel_rfl)
def Y7:J:=⟨235,⟨[.v false 1,.v false 1],[(false,[.o true])]⟩,[Y5],Tryz.f235⟩
def Y9:PL:=jp Y7
def Hw:af:=Fs Y9 [(100,Ng)]
def Y_:=cZ Y7 Hw Tryz.func235 (by kernel_rfl) (by kernel_rfl) (by kernel_rfl)
def Y':J:=⟨218,⟨[.v false 1,.v false 1,.v false 1],[(false,[.p])]⟩,[Ht,X4,Nf,apg,Y_],Tryz.f218⟩
def Za:PL:=jp Y'
def Hx:af:=Fs Za [(105,rT),(106,zV),(233,ES),(234,YY),(235,Hw)]
def Nh:=cZ Y' Hx Tryz.func218 (by kernel_rfl) (by kernel_rfl) (by kernel_rfl)
def Zc:J:=⟨238,⟨[.v true 3],[(true,[.s,.s,.p])]⟩,[],Tryz.f238⟩
def Zd:PL:=jp Zc
def Ni:af:=Fs Zd []
def Ze:=cZ Zc Ni Tryz.func238 (by kernel_rfl) (by kernel_rfl) (by kernel_rfl)
def Zf:J:=⟨221,⟨[.v false 1,.v false 1],[(true,[.s,.s,.p]),(false,[.s])]⟩,[Ze],Tryz.f221⟩
def Zg:PL:=jp Zf
def AF:af:=Fs Zg [(238,Ni)]
def Hy:=cZ Zf AF Tryz.func221 (by kernel_rfl) (by kernel_rfl) (by kernel_rfl)
def Zh:J:=⟨243,⟨[.v true 3,.v true 3],[(false,[.s])]⟩,[],Tryz.f243⟩
def Zi:PL:=jp Zh
def CY:af:=Fs Zi []
def aph:=cZ Zh CY Tryz.func243 (by kernel_rfl) (by kernel_rfl) (by kernel_rfl)
def Zj:J:=⟨236,⟨[.v true 3,.v true 3],[(true,[.s,.s,.p])]⟩,[Y_,Ze,aph],Tryz.f236⟩
def Zk:PL:=jp Zj
def Nj:af:=Fs Zk [(235,Hw),(238,Ni),(243,CY)]
def Zl:=cZ Zj Nj Tryz.func236 (by kernel_rfl) (by kernel_rfl) (by kernel_rfl)
def Zm:J:=⟨219,⟨[.v false 1,.v false 1,.v false 1],[(false,[.p])]⟩,[Nh,Hy,Zl],Tryz.f219⟩
def Zn:PL:=jp Zm
def Nk:af:=Fs Zn [(218,Hx),(221,AF),(236,Nj)]
def Zo:=cZ Zm Nk Tryz.func219 (by kernel_rfl) (by kernel_rfl) (by kernel_rfl)
def Zp:J:=⟨237,⟨[.v false 1,.v false 1,.v false 1,.v false 1,.v false 1,.v true 3,.v false 1],[(true,[.s,.s,.p]),(false,[.s])]⟩,[Hy,Zl],Tryz.f237⟩
def Zq:PL:=jp Zp
def Zr:af:=Fs Zq [(221,AF),(236,Nj)]
def api:=cZ Zp Zr Tryz.func237 (by kernel_rfl) (by kernel_rfl) (by kernel_rfl)
def Zs:J:=⟨220,⟨[.v false 1,.v false 1,.v false 1,.v false 1],[(false,[.p])]⟩,[X4,Nh,Zo,Hy,api],Tryz.f220⟩
def Zt:PL:=jp Zs
def Zu:af:=Fs Zt [(106,zV),(218,Hx),(219,Nk),(221,AF),(237,Zr)]
def apj:=cZ Zs Zu Tryz.func220 (by kernel_rfl) (by kernel_rfl) (by kernel_rfl)
def Zv:J:=⟨167,⟨[.v false 1,.v false 1,.v false 1,.v false 1],[(false,[.p])]⟩,[X4,Nh,Zo,apj,Hy],Tryz.f167⟩
def Zw:PL:=jp Zv
def CZ:af:=Fs Zw [(106,zV),(218,Hx),(219,Nk),(220,Zu),(221,AF)]
def apk:=cZ Zv CZ Tryz.func167 (by kernel_rfl) (by kernel_rfl) (by kernel_rfl)
def Zx:J:=⟨60,⟨[.v true 7],[(false,[.p])]⟩,[YB,Hv,CW,qR_,YL,apd,ape,apk],Tryz.f60⟩
def Zy:PL:=jp Zx
def C0:af:=Fs Zy [(20,Nb),(58,CS),(62,ug),(66,AE),(67,Nc),(165,YE),(166,CV),(167,CZ)]
def apl:=cZ Zx C0 Tryz.func60 (by kernel_rfl) (by kernel_rfl) (by kernel_rfl)
def Zz:J:=⟨15,⟨[.v false 1,.v true 8],[(true,[.s,.s,.s,.s,.s,.o true,.s,.s]),(false,[.s])]⟩,[CX,M7],Tryz.f15⟩
def ZA:PL:=jp Zz
def C1:af:=Fs ZA [(63,ye),(65,tw)]
def apm:=cZ Zz C1 Tryz.func15 (by kernel_rfl) (by kernel_rfl) (by kernel_rfl)
def ZB:J:=⟨19,⟨[.v true 8,.v true 8],[(false,[.s])]⟩,[YO],Tryz.f19⟩
def ZC:PL:=jp ZB
def Hz:af:=Fs ZC [(72,Nd)]
def ZD:=cZ ZB Hz Tryz.func19 (by kernel_rfl) (by kernel_rfl) (by kernel_rfl)
def ZE:J:=⟨61,⟨[.v true 7,.v false 1],[(false,[.s])]⟩,[],Tryz.f61⟩
def ZF:PL:=jp ZE
def C2:af:=Fs ZF []
def apn:=cZ ZE C2 Tryz.func61 (by kernel_rfl) (by kernel_rfl) (by kernel_rfl)
def ZG:J:=⟨64,⟨[.v true 8],[(true,[.s,.s,.s,.s,.s,.p,.s,.s])]⟩,[],Tryz.f64⟩
def ZH:PL:=jp ZG
def ZI:af:=Fs ZH []
def apo:=cZ ZG ZI Tryz.func64 (by kernel_rfl) (by kernel_rfl) (by kernel_rfl)
def ZJ:J:=⟨12,⟨[.v true 7],[(true,[.s,.s,.s,.o true,.o true,.o true,.o true]),(false,[.o true])]⟩,[apm,ZD,Hv,M8,apl,apn,CW,CX,apo,M7,qR_,YL],Tryz.f12⟩
def ZK:PL:=jp ZJ
def C3:af:=Fs ZK [(15,C1),(19,Hz),(58,CS),(59,ER),(60,C0),(61,C2),(62,ug),(63,ye),(64,ZI),(65,tw),(66,AE),(67,Nc)]
def apq:=cZ ZJ C3 Tryz.func12 (by kernel_rfl) (by kernel_rfl) (by kernel_rfl)
def ZL:J:=⟨184,⟨[.v false 1,.v false 1],[(false,[.o true])]⟩,[M7],Tryz.f184⟩
def ZM:PL:=jp ZL
def C4:af:=Fs ZM [(65,tw)]
def Nl:=cZ ZL C4 Tryz.func184 (by kernel_rfl) (by kernel_rfl) (by kernel_rfl)
def ZN:J:=⟨107,⟨[.v true 8],[(true,[.s,.s,.s,.s,.s,.p,.s,.s])]⟩,[],Tryz.f107⟩
def ZO:PL:=jp ZN
def HA:af:=Fs ZO []
def ZP:=cZ ZN HA Tryz.func107 (by kernel_rfl) (by kernel_rfl) (by kernel_rfl)
def ZQ:J:=⟨185,⟨[.v false 1,.v false 1],[(false,[.p])]⟩,[ZP,Nl],Tryz.f185⟩
def ZR:PL:=jp ZQ
def ZS:af:=Fs ZR [(107,HA),(184,C4)]
def apr:=cZ ZQ ZS Tryz.func185 (by kernel_rfl) (by kernel_rfl) (by kernel_rfl)
def ZT:J:=⟨111,⟨[.v true 8,.v true 4],[(true,[.s,.s,.s,.s,.p,.p])]⟩,[apr],Tryz.f111⟩
def ZU:PL:=jp ZT
def C5:af:=Fs ZU [(185,ZS)]
def aps:=cZ ZT C5 Tryz.func111 (by kernel_rfl) (by kernel_rfl) (by kernel_rfl)
def ZV:J:=⟨90,⟨[.v true 3],[(true,[.s,.o true,.o true])]⟩,[],Tryz.f90⟩
def ZW:PL:=jp ZV
def RW:af:=Fs ZW []
def apt:=cZ ZV RW Tryz.func90 (by kernel_rfl) (by kernel_rfl) (by kernel_rfl)
def ZX:J:=⟨156,⟨[.v false 1],[(false,[.o true])]⟩,[],Tryz.f156⟩
def ZY:PL:=jp ZX
def xj:af:=Fs ZY []
def ZZ:=cZ ZX xj Tryz.func156 (by kernel_rfl) (by kernel_rfl) (by kernel_rfl)
def Z0:J:=⟨161,⟨[.v true 8],[(true,[.s,.s,.s,.s,.s,.o true,.s,.s])]⟩,[],Tryz.f161⟩
def Z1:PL:=jp Z0
def zW:af:=Fs Z1 []
def Z2:=cZ Z0 zW Tryz.func161 (by kernel_rfl) (by kernel_rfl) (by kernel_rfl)
def Z3:J:=⟨56,⟨[.v false 1],[(false,[.o true])]⟩,[Z2],Tryz.f56⟩
def Z4:PL:=jp Z3
def C6:af:=Fs Z4 [(161,zW)]
def qY_:=cZ Z3 C6 Tryz.func56 (by kernel_rfl) (by kernel_rfl) (by kernel_rfl)
def Z5:J:=⟨54,⟨[.v true 7],[(true,[.s,.s,.s,.o true,.o true,.o true,.o true])]⟩,[qY_,apt,ZZ],Tryz.f54⟩
def Z6:PL:=jp Z5
def ET:af:=Fs Z6 [(56,C6),(90,RW),(156,xj)]
def Nm:=cZ Z5 ET Tryz.func54 (by kernel_rfl) (by kernel_rfl) (by kernel_rfl)
def Z7:J:=⟨81,⟨[.v true 8],[(true,[.s,.s,.s,.o true,.o true,.o true,.o true,.o true])]⟩,[Nm],Tryz.f81⟩
def Z8:PL:=jp Z7
def Z9:af:=Fs Z8 [(54,ET)]
def apu:=cZ Z7 Z9 Tryz.func81 (by kernel_rfl) (by kernel_rfl) (by kernel_rfl)
def Z_:J:=⟨69,⟨[.v false 1,.v false 1,.v false 1],[(false,[.s])]⟩,[],Tryz.f69⟩
def aac:PL:=jp Z_
def rU:af:=Fs aac []
def tA:=cZ Z_ rU Tryz.func69 (by kernel_rfl) (by kernel_rfl) (by kernel_rfl)
def aad:J:=⟨169,⟨[.v false 1,.v true 4],[(false,[.s])]⟩,[tA],Tryz.f169⟩
def aae:PL:=jp aad
def C7:af:=Fs aae [(69,rU)]
def apv:=cZ aad C7 Tryz.func169 (by kernel_rfl) (by kernel_rfl) (by kernel_rfl)
def aaf:J:=⟨170,⟨[.v true 4,.v true 4],[(false,[.s])]⟩,[],Tryz.f170⟩
def aag:PL:=jp aaf
def C8:af:=Fs aag []
def apw:=cZ aaf C8 Tryz.func170 (by kernel_rfl) (by kernel_rfl) (by kernel_rfl)
def aah:J:=⟨171,⟨[.v true 4,.v true 4],[(false,[.s])]⟩,[],Tryz.f171⟩
def aai:PL:=jp aah
def C9:af:=Fs aai []
def apx:=cZ aah C9 Tryz.func171 (by kernel_rfl) (by kernel_rfl) (by kernel_rfl)
def aaj:J:=⟨68,⟨[.v true 3],[(false,[.s])]⟩,[tA,apv,apw,apx],Tryz.f68⟩
def aak:PL:=jp aaj
def C_:af:=Fs aak [(69,rU),(169,C7),(170,C8),(171,C9)]
def apy:=cZ aaj C_ Tryz.func68 (by kernel_rfl) (by kernel_rfl) (by kernel_rfl)
def aal:J:=⟨172,⟨[.v true 3,.v false 1,.v false 1,.v false 1],[(false,[.s])]⟩,[],Tryz.f172⟩
def aam:PL:=jp aal
def HB:af:=Fs aam []
def Nn:=cZ aal HB Tryz.func172 (by kernel_rfl) (by kernel_rfl) (by kernel_rfl)
def aan:J:=⟨70,⟨[.v true 7],[(false,[.s])]⟩,[Nn],Tryz.f70⟩
def aao:PL:=jp aan
def kn_:af:=Fs aao [(172,HB)]
def apz:=cZ aan kn_ Tryz.func70 (by kernel_rfl) (by kernel_rfl) (by kernel_rfl)
def aaq:J:=⟨222,⟨[.v true 8],[(false,[.s])]⟩,[tA],Tryz.f222⟩
def aar:PL:=jp aaq
def k9_:af:=Fs aar [(69,rU)]
def apA:=cZ aaq k9_ Tryz.func222 (by kernel_rfl) (by kernel_rfl) (by kernel_rfl)
def aat:J:=⟨173,⟨[.v true 8],[(false,[.s])]⟩,[tA,apA],Tryz.f173⟩
def aau:PL:=jp aat
def Np:af:=Fs aau [(69,rU),(222,k9_)]
def aav:=cZ aat Np Tryz.func173 (by kernel_rfl) (by kernel_rfl) (by kernel_rfl)
def aaw:J:=⟨162,⟨[.v true 8,.v true 8],[(false,[.s])]⟩,[],Tryz.f162⟩
def aax:PL:=jp aaw
def Nq:af:=Fs aax []
def aay:=cZ aaw Nq Tryz.func162 (by kernel_rfl) (by kernel_rfl) (by kernel_rfl)
def aaz:J:=⟨71,⟨[.v false 1],[(false,[.s])]⟩,[aay,aav],Tryz.f71⟩
def aaA:PL:=jp aaz
def C':af:=Fs aaA [(162,Nq),(173,Np)]
def HC:=cZ aaz C' Tryz.func71 (by kernel_rfl) (by kernel_rfl) (by kernel_rfl)
def aaB:J:=⟨13,⟨[.v true 7],[(false,[.s])]⟩,[apy,tA,apz,HC],Tryz.f13⟩
def aaC:PL:=jp aaB
def Da:af:=Fs aaC [(68,C_),(69,rU),(70,kn_),(71,C')]
def HD:=cZ aaB Da Tryz.func13 (by kernel_rfl) (by kernel_rfl) (by kernel_rfl)
def aaD:J:=⟨87,⟨[.v true 3,.v false 1],[(false,[.o true])]⟩,[Nn],Tryz.f87⟩
def aaE:PL:=jp aaD
def Db:af:=Fs aaE [(172,HB)]
def apB:=cZ aaD Db Tryz.func87 (by kernel_rfl) (by kernel_rfl) (by kernel_rfl)
def aaF:J:=⟨82,⟨[.v false 1],[(false,[.o true])]⟩,[],Tryz.f82⟩
def aaG:PL:=jp aaF
def Nr:af:=Fs aaG []
def aaH:=cZ aaF Nr Tryz.func82 (by kernel_rfl) (by kernel_rfl) (by kernel_rfl)
def aaI:J:=⟨88,⟨[.v false 1,.v false 1],[(false,[.s])]⟩,[],Tryz.f88⟩
def aaJ:PL:=jp aaI
def jk_:af:=Fs aaJ []
def apC:=cZ aaI jk_ Tryz.func88 (by kernel_rfl) (by kernel_rfl) (by kernel_rfl)
def aaL:J:=⟨23,⟨[.v true 8],[(false,[.s])]⟩,[HD,tA,aaH,apB,apC],Tryz.f23⟩
def aaM:PL:=jp aaL
def Dc:af:=Fs aaM [(13,Da),(69,rU),(82,Nr),(87,Db),(88,jk_)]
def apD:=cZ aaL Dc Tryz.func23 (by kernel_rfl) (by kernel_rfl) (by kernel_rfl)
def aaN:J:=⟨74,⟨[.v true 3,.v false 1],[(false,[.o true])]⟩,[ZZ],Tryz.f74⟩
def aaO:PL:=jp aaN
def HE:af:=Fs aaO [(156,xj)]
def Ns:=cZ aaN HE Tryz.func74 (by kernel_rfl) (by kernel_rfl) (by kernel_rfl)
def aaP:J:=⟨174,⟨[.v true 3,.v false 1,.v false 1,.v false 1],[(false,[.s])]⟩,[Nn],Tryz.f174⟩
def aaQ:PL:=jp aaP
def Dd:af:=Fs aaQ [(172,HB)]
def apE:=cZ aaP Dd Tryz.func174 (by kernel_rfl) (by kernel_rfl) (by kernel_rfl)
def aaR:J:=⟨73,⟨[.v true 7],[(false,[.o true])]⟩,[Ns,apE],Tryz.f73⟩
def aaS:PL:=jp aaR
def De:af:=Fs aaS [(74,HE),(174,Dd)]
def apF:=cZ aaR De Tryz.func73 (by kernel_rfl) (by kernel_rfl) (by kernel_rfl)
def aaT:J:=⟨163,⟨[.v true 8,.v true 8],[(false,[.s])]⟩,[],Tryz.f163⟩
def aaU:PL:=jp aaT
def HF:af:=Fs aaU []
def Nt:=cZ aaT HF Tryz.func163 (by kernel_rfl) (by kernel_rfl) (by kernel_rfl)
def aaV:J:=⟨57,⟨[.v false 1,.v true 8],[(false,[.o true])]⟩,[qY_,Z2,aay,Nt],Tryz.f57⟩
def aaW:PL:=jp aaV
def tB:af:=Fs aaW [(56,C6),(161,zW),(162,Nq),(163,HF)]
def xk:=cZ aaV tB Tryz.func57 (by kernel_rfl) (by kernel_rfl) (by kernel_rfl)
def aaX:J:=⟨175,⟨[.v false 1,.v false 1],[(false,[.s])]⟩,[],Tryz.f175⟩
def aaY:PL:=jp aaX
def Df:af:=Fs aaY []
def HG:=cZ aaX Df Tryz.func175 (by kernel_rfl) (by kernel_rfl) (by kernel_rfl)
def aaZ:J:=⟨75,⟨[.v true 3,.v false 1],[(false,[.s])]⟩,[Ns,HG],Tryz.f75⟩
def aa0:PL:=jp aaZ
def Dg:af:=Fs aa0 [(74,HE),(175,Df)]
def apG:=cZ aaZ Dg Tryz.func75 (by kernel_rfl) (by kernel_rfl) (by kernel_rfl)
def aa1:J:=⟨76,⟨[.v false 1,.v false 1,.v false 1],[(false,[.o false])]⟩,[xk],Tryz.f76⟩
def aa2:PL:=jp aa1
def Dh:af:=Fs aa2 [(57,tB)]
def apH:=cZ aa1 Dh Tryz.func76 (by kernel_rfl) (by kernel_rfl) (by kernel_rfl)
def aa3:J:=⟨157,⟨[.v false 1,.v true 8],[(false,[.s])]⟩,[Nt],Tryz.f157⟩
def aa4:PL:=jp aa3
def sw:af:=Fs aa4 [(163,HF)]
def J8:=cZ aa3 sw Tryz.func157 (by kernel_rfl) (by kernel_rfl) (by kernel_rfl)
def aa5:J:=⟨244,⟨[.v false 1,.v false 1,.v false 1,.v false 1],[(false,[.s])]⟩,[J8],Tryz.f244⟩
def aa6:PL:=jp aa5
def Di:af:=Fs aa6 [(157,sw)]
def apI:=cZ aa5 Di Tryz.func244 (by kernel_rfl) (by kernel_rfl) (by kernel_rfl)
def aa7:J:=⟨239,⟨[.v false 1,.v false 1,.v false 1,.v false 1],[(false,[.s])]⟩,[apI],Tryz.f239⟩
def aa8:PL:=jp aa7
def Dj:af:=Fs aa8 [(244,Di)]
def apJ:=cZ aa7 Dj Tryz.func239 (by kernel_rfl) (by kernel_rfl) (by kernel_rfl)
def aa9:J:=⟨224,⟨[.v true 3],[(true,[.s,.s,.o true])]⟩,[ZZ],Tryz.f224⟩
def aa_:PL:=jp aa9
def yf:af:=Fs aa_ [(156,xj)]
def HH:=cZ aa9 yf Tryz.func224 (by kernel_rfl) (by kernel_rfl) (by kernel_rfl)
def aa':J:=⟨227,⟨[.v true 3,.v true 3],[(true,[.s,.s,.o true])]⟩,[ZZ,HH],Tryz.f227⟩
def abb:PL:=jp aa'
def zX:af:=Fs abb [(156,xj),(224,yf)]
def Nu:=cZ aa' zX Tryz.func227 (by kernel_rfl) (by kernel_rfl) (by kernel_rfl)
def abd:J:=⟨176,⟨[.v false 1,.v false 1,.v false 1],[(false,[.o true])]⟩,[tA,HC,ZZ,J8,HG,Nu,apJ],Tryz.f176⟩
def abe:PL:=jp abd
def HI:af:=Fs abe [(69,rU),(71,C'),(156,xj),(157,sw),(175,Df),(227,zX),(239,Dj)]
def Nv:=cZ abd HI Tryz.func176 (by kernel_rfl) (by kernel_rfl) (by kernel_rfl)
def abf:J:=⟨178,⟨[.v false 1,.v false 1],[(true,[.s,.s,.o true]),(false,[.s])]⟩,[HH],Tryz.f178⟩
def abg:PL:=jp abf
def Nw:af:=Fs abg [(224,yf)]
def abh:=cZ abf Nw Tryz.func178 (by kernel_rfl) (by kernel_rfl) (by kernel_rfl)
def abi:J:=⟨179,⟨[.v false 1,.v false 1,.v false 1],[(false,[.o true])]⟩,[Nv,HH,Nu],Tryz.f179⟩
def abj:PL:=jp abi
def Nx:af:=Fs abj [(176,HI),(224,yf),(227,zX)]
def abk:=cZ abi Nx Tryz.func179 (by kernel_rfl) (by kernel_rfl) (by kernel_rfl)
def abl:J:=⟨180,⟨[.v false 1,.v false 1,.v false 1,.v false 1],[(false,[.o true])]⟩,[HG,Nv,abh,abk,HH,Nu],Tryz.f180⟩
def abm:PL:=jp abl
def vQ_:af:=Fs abm [(175,Df),(176,HI),(178,Nw),(179,Nx),(224,yf),(227,zX)]
def apK:=cZ abl vQ_ Tryz.func180 (by kernel_rfl) (by kernel_rfl) (by kernel_rfl)
def abo:J:=⟨77,⟨[.v false 1,.v false 1,.v false 1,.v false 1],[(false,[.o true])]⟩,[xk,J8,Nv,abh,abk,apK],Tryz.f77⟩
def abp:PL:=jp abo
def Dk:af:=Fs abp [(57,tB),(157,sw),(176,HI),(178,Nw),(179,Nx),(180,vQ_)]
def apL:=cZ abo Dk Tryz.func77 (by kernel_rfl) (by kernel_rfl) (by kernel_rfl)
def abq:J:=⟨18,⟨[.v true 7],[(false,[.o true])]⟩,[HD,xk,apF,Ns,apG,apH,apL],Tryz.f18⟩
def abr:PL:=jp abq
def RX:af:=Fs abr [(13,Da),(57,tB),(73,De),(74,HE),(75,Dg),(76,Dh),(77,Dk)]
def apM:=cZ abq RX Tryz.func18 (by kernel_rfl) (by kernel_rfl) (by kernel_rfl)
def abt:J:=⟨158,⟨[.v true 8,.v true 8],[(false,[.s])]⟩,[Nt],Tryz.f158⟩
def abu:PL:=jp abt
def Ny:af:=Fs abu [(163,HF)]
def abv:=cZ abt Ny Tryz.func158 (by kernel_rfl) (by kernel_rfl) (by kernel_rfl)
def abw:J:=⟨159,⟨[.v true 7,.v true 8],[(false,[.s])]⟩,[J8],Tryz.f159⟩
def abx:PL:=jp abw
def Dl:af:=Fs abx [(157,sw)]
def apN:=cZ abw Dl Tryz.func159 (by kernel_rfl) (by kernel_rfl) (by kernel_rfl)
def aby:J:=⟨160,⟨[.v true 8],[(true,[.s,.s,.s,.s,.s,.o true,.s,.s])]⟩,[],Tryz.f160⟩
def abz:PL:=jp aby
def Dm:af:=Fs abz []
def apO:=cZ aby Dm Tryz.func160 (by kernel_rfl) (by kernel_rfl) (by kernel_rfl)
def abA:J:=⟨55,⟨[.v true 7],[(false,[.o true])]⟩,[apM,xk,J8,abv,apN,apO],Tryz.f55⟩
def abB:PL:=jp abA
def Dn:af:=Fs abB [(18,RX),(57,tB),(157,sw),(158,Ny),(159,Dl),(160,Dm)]
def apP:=cZ abA Dn Tryz.func55 (by kernel_rfl) (by kernel_rfl) (by kernel_rfl)
def abC:J:=⟨11,⟨[.v true 7],[(true,[.s,.s,.s,.o true,.o true,.o true,.o true]),(false,[.o true])]⟩,[HD,Nm,apP,qY_,xk],Tryz.f11⟩
def abD:PL:=jp abC
def Dp:af:=Fs abD [(13,Da),(54,ET),(55,Dn),(56,C6),(57,tB)]
def apQ:=cZ abC Dp Tryz.func11 (by kernel_rfl) (by kernel_rfl) (by kernel_rfl)
def abE:J:=⟨186,⟨[.v false 1,.v false 1],[(false,[.o true])]⟩,[Z2],Tryz.f186⟩
def abF:PL:=jp abE
def HJ:af:=Fs abF [(161,zW)]
def abG:=cZ abE HJ Tryz.func186 (by kernel_rfl) (by kernel_rfl) (by kernel_rfl)
def abH:J:=⟨187,⟨[.v true 8],[(true,[.s,.s,.s,.s,.s,.o true,.s,.s])]⟩,[],Tryz.f187⟩
def abI:PL:=jp abH
def Nz:af:=Fs abI []
def abJ:=cZ abH Nz Tryz.func187 (by kernel_rfl) (by kernel_rfl) (by kernel_rfl)
def abK:J:=⟨86,⟨[.v false 1,.v false 1],[(false,[.o true])]⟩,[abG,abJ],Tryz.f86⟩
def abL:PL:=jp abK
def kq_:af:=Fs abL [(186,HJ),(187,Nz)]
def apR:=cZ abK kq_ Tryz.func86 (by kernel_rfl) (by kernel_rfl) (by kernel_rfl)
def qU:PL:=
 .ins (.pr (.bin .neq) [.a 0,.a 4])<|
 .ite 8 (
 .ins (.pr (.bM) [.k (.bool false)])<|
 .ret [.a 9]) (
 .ins (.pr (.bin .neq) [.a 1,.a 5])<|
 .ite 9 (
 .ins (.pr (.bM) [.k (.bool false)])<|
 .ret [.a 10]) (
 .ins (.pr (.bin .neq) [.a 2,.a 6])<|
 .ite 10 (
 .ins (.pr (.bM) [.k (.bool false)])<|
 .ret [.a 11]) (
 .ins (.pr (.bin .neq) [.a 3,.a 7])<|
 .ite 11 (
 .ins (.pr (.bM) [.k (.bool false)])<|
 .ret [.a 12]) (
 .ins (.pr (.bM) [.k (.bool true)])<|
 .ret [.a 12]))))
def apS:Nat->af:=pick []
def HK:af:=λts=>qU.den apS rounds [] ts
def apT:=gy.dP dx 208 ⟨[.v true 4,.v true 4],[(false,[.s])]⟩ qU HK [] Tryz.func208 (by kernel_rfl) (by kernel_rfl) (by kernel_rfl)
def sx:PL:=
 .ins (.pr (.len) [.a 0])<|
 .ins (.pr (.len) [.a 1])<|
 .ins (.pr (.bin .neq) [.a 2,.a 3])<|
 .ite 4 (
 .ins (.pr (.bM) [.k (.bool false)])<|
 .ret [.a 5]) (
 .loop [.k (.bool false),.k (.int .i64 0)] (
 .ins (.pr (.len) [.a 0])<|
 .ins (.pr (.bin .lss) [.a 6,.a 7])<|
 .ite 8 (
 .ins (.pr (.dC) [.a 0,.a 6])<|
 .ins (.pr (.cell 4 0) [.a 0,.a 6])<|
 .ins (.pr (.cell 4 1) [.a 0,.a 6])<|
 .ins (.pr (.cell 4 2) [.a 0,.a 6])<|
 .ins (.pr (.cell 4 3) [.a 0,.a 6])<|
 .ins (.pr (.dC) [.a 1,.a 6])<|
 .ins (.pr (.cell 4 0) [.a 1,.a 6])<|
 .ins (.pr (.cell 4 1) [.a 1,.a 6])<|
 .ins (.pr (.cell 4 2) [.a 1,.a 6])<|
 .ins (.pr (.cell 4 3) [.a 1,.a 6])<|
 .ins (.cl 208 [.a 10,.a 11,.a 12,.a 13,.a 15,.a 16,.a 17,.a 18] 1)<|
 .ins (.pr (.un .not) [.a 19])<|
 .ite 20 (
 .ins (.pr (.bM) [.k (.bool false)])<|
 .ret [.a 21]) (
 .ins (.pr (.bin .add) [.a 6,.k (.int .i64 1)])<|
 .go 0 [.a 5,.a 21])) (
 .ins (.pr (.bM) [.k (.bool true)])<|
 .ret [.a 9])))
def abN:Nat->af:=pick [(208,HK)]
def HL:af:=λts=>sx.den abN rounds [] ts
def apU:=gy.dP dx 139 ⟨[.v false 1,.v false 1],[(false,[.s])]⟩ sx HL [apT] Tryz.func139 (by kernel_rfl) (by kernel_rfl) (by kernel_rfl)
def oJ:PL:=
 .ins (.pr (.bin .neq) [.a 0,.a 4])<|
 .ite 8 (
 .ins (.pr (.bM) [.k (.bool false)])<|
 .ret [.a 9]) (
 .ins (.pr (.bin .neq) [.a 1,.a 5])<|
 .ite 9 (
 .ins (.pr (.bM) [.k (.bool false)])<|
 .ret [.a 10]) (
 .ins (.pr (.bin .neq) [.a 2,.a 6])<|
 .ite 10 (
 .ins (.pr (.bM) [.k (.bool false)])<|
 .ret [.a 11]) (
 .ins (.pr (.bb .neq) [.a 3,.a 7])<|
 .ite 11 (
 .ins (.pr (.bM) [.k (.bool false)])<|
 .ret [.a 12]) (
 .ins (.pr (.bM) [.k (.bool true)])<|
 .ret [.a 12]))))
def apV:Nat->af:=pick []
def HM:af:=λts=>oJ.den apV rounds [] ts
def apW:=gy.dP dx 209 ⟨[.v true 4,.v true 4],[(false,[.s])]⟩ oJ HM [] Tryz.func209 (by kernel_rfl) (by kernel_rfl) (by kernel_rfl)
def qV:PL:=
 .ins (.pr (.len) [.a 0])<|
 .ins (.pr (.len) [.a 1])<|
 .ins (.pr (.bin .neq) [.a 2,.a 3])<|
 .ite 4 (
 .ins (.pr (.bM) [.k (.bool false)])<|
 .ret [.a 5]) (
 .loop [.k (.bool false),.k (.int .i64 0)] (
 .ins (.pr (.len) [.a 0])<|
 .ins (.pr (.bin .lss) [.a 6,.a 7])<|
 .ite 8 (
 .ins (.pr (.dC) [.a 0,.a 6])<|
 .ins (.pr (.cell 4 0) [.a 0,.a 6])<|
 .ins (.pr (.cell 4 1) [.a 0,.a 6])<|
 .ins (.pr (.cell 4 2) [.a 0,.a 6])<|
 .ins (.pr (.cell 4 3) [.a 0,.a 6])<|
 .ins (.pr (.dC) [.a 1,.a 6])<|
 .ins (.pr (.cell 4 0) [.a 1,.a 6])<|
 .ins (.pr (.cell 4 1) [.a 1,.a 6])<|
 .ins (.pr (.cell 4 2) [.a 1,.a 6])<|
 .ins (.pr (.cell 4 3) [.a 1,.a 6])<|
 .ins (.cl 209 [.a 10,.a 11,.a 12,.a 13,.a 15,.a 16,.a 17,.a 18] 1)<|
 .ins (.pr (.un .not) [.a 19])<|
 .ite 20 (
 .ins (.pr (.bM) [.k (.bool false)])<|
 .ret [.a 21]) (
 .ins (.pr (.bin .add) [.a 6,.k (.int .i64 1)])<|
 .go 0 [.a 5,.a 21])) (
 .ins (.pr (.bM) [.k (.bool true)])<|
 .ret [.a 9])))
def abO:Nat->af:=pick [(209,HM)]
def HN:af:=λts=>qV.den abO rounds [] ts
def apX:=gy.dP dx 140 ⟨[.v false 1,.v false 1],[(false,[.s])]⟩ qV HN [apW] Tryz.func140 (by kernel_rfl) (by kernel_rfl) (by kernel_rfl)
def tC:PL:=
 .ins (.pr (.bin .neq) [.a 0,.a 3])<|
 .ite 6 (
 .ins (.pr (.bM) [.k (.bool false)])<|
 .ret [.a 7]) (
 .ins (.cl 139 [.a 1,.a 4] 1)<|
 .ins (.pr (.un .not) [.a 7])<|
 .ite 8 (
 .ins (.pr (.bM) [.k (.bool false)])<|
 .ret [.a 9]) (
 .ins (.cl 140 [.a 2,.a 5] 1)<|
 .ins (.pr (.un .not) [.a 9])<|
 .ite 10 (
 .ins (.pr (.bM) [.k (.bool false)])<|
 .ret [.a 11]) (
 .ins (.pr (.bM) [.k (.bool true)])<|
 .ret [.a 11])))
def NA:Nat->af:=pick [(139,HL),(140,HN)]
def Dq:af:=λts=>tC.den NA rounds [] ts
def apY:=gy.dP dx 48 ⟨[.v true 3,.v true 3],[(false,[.s])]⟩ tC Dq [apU,apX] Tryz.func48 (by kernel_rfl) (by kernel_rfl) (by kernel_rfl)
def vr:PL:=
 .ins (.pr (.len) [.a 0])<|
 .ins (.pr (.len) [.a 1])<|
 .ins (.pr (.bin .neq) [.a 2,.a 3])<|
 .ite 4 (
 .ins (.pr (.bM) [.k (.bool false)])<|
 .ret [.a 5]) (
 .loop [.k (.bool false),.k (.int .i64 0)] (
 .ins (.pr (.len) [.a 0])<|
 .ins (.pr (.bin .lss) [.a 6,.a 7])<|
 .ite 8 (
 .ins (.pr (.dC) [.a 0,.a 6])<|
 .ins (.pr (.cell 1 0) [.a 0,.a 6])<|
 .ins (.pr (.dC) [.a 1,.a 6])<|
 .ins (.pr (.cell 1 0) [.a 1,.a 6])<|
 .ins (.pr (.bin .neq) [.a 10,.a 12])<|
 .ite 13 (
 .ins (.pr (.bM) [.k (.bool false)])<|
 .ret [.a 14]) (
 .ins (.pr (.bin .add) [.a 6,.k (.int .i64 1)])<|
 .go 0 [.a 5,.a 14])) (
 .ins (.pr (.bM) [.k (.bool true)])<|
 .ret [.a 9])))
def abP:Nat->af:=pick []
def zY:af:=λts=>vr.den abP rounds [] ts
def abQ:=gy.dP dx 128 ⟨[.v false 1,.v false 1],[(false,[.s])]⟩ vr zY [] Tryz.func128 (by kernel_rfl) (by kernel_rfl) (by kernel_rfl)
def qW:PL:=
 .ins (.pr (.bin .neq) [.a 0,.a 2])<|
 .ite 4 (
 .ins (.pr (.bM) [.k (.bool false)])<|
 .ret [.a 5]) (
 .ins (.pr (.bin .neq) [.a 1,.a 3])<|
 .ite 5 (
 .ins (.pr (.bM) [.k (.bool false)])<|
 .ret [.a 6]) (
 .ins (.pr (.bM) [.k (.bool true)])<|
 .ret [.a 6]))
def apZ:Nat->af:=pick []
def HO:af:=λts=>qW.den apZ rounds [] ts
def ap0:=gy.dP dx 241 ⟨[.v true 2,.v true 2],[(false,[.s])]⟩ qW HO [] Tryz.func241 (by kernel_rfl) (by kernel_rfl) (by kernel_rfl)
def sy:PL:=
 .ins (.pr (.len) [.a 0])<|
 .ins (.pr (.len) [.a 1])<|
 .ins (.pr (.bin .neq) [.a 2,.a 3])<|
 .ite 4 (
 .ins (.pr (.bM) [.k (.bool false)])<|
 .ret [.a 5]) (
 .loop [.k (.bool false),.k (.int .i64 0)] (
 .ins (.pr (.len) [.a 0])<|
 .ins (.pr (.bin .lss) [.a 6,.a 7])<|
 .ite 8 (
 .ins (.pr (.dC) [.a 0,.a 6])<|
 .ins (.pr (.cell 2 0) [.a 0,.a 6])<|
 .ins (.pr (.cell 2 1) [.a 0,.a 6])<|
 .ins (.pr (.dC) [.a 1,.a 6])<|
 .ins (.pr (.cell 2 0) [.a 1,.a 6])<|
 .ins (.pr (.cell 2 1) [.a 1,.a 6])<|
 .ins (.cl 241 [.a 10,.a 11,.a 13,.a 14] 1)<|
 .ins (.pr (.un .not) [.a 15])<|
 .ite 16 (
 .ins (.pr (.bM) [.k (.bool false)])<|
 .ret [.a 17]) (
 .ins (.pr (.bin .add) [.a 6,.k (.int .i64 1)])<|
 .go 0 [.a 5,.a 17])) (
 .ins (.pr (.bM) [.k (.bool true)])<|
 .ret [.a 9])))
def abR:Nat->af:=pick [(241,HO)]
def HP:af:=λts=>sy.den abR rounds [] ts
def ap1:=gy.dP dx 232 ⟨[.v false 1,.v false 1],[(false,[.s])]⟩ sy HP [ap0] Tryz.func232 (by kernel_rfl) (by kernel_rfl) (by kernel_rfl)
def mU:PL:=
 .ins (.pr (.bin .neq) [.a 0,.a 8])<|
 .ite 16 (
 .ins (.pr (.bM) [.k (.bool false)])<|
 .ret [.a 17]) (
 .ins (.pr (.bin .neq) [.a 1,.a 9])<|
 .ite 17 (
 .ins (.pr (.bM) [.k (.bool false)])<|
 .ret [.a 18]) (
 .ins (.pr (.bin .neq) [.a 2,.a 10])<|
 .ite 18 (
 .ins (.pr (.bM) [.k (.bool false)])<|
 .ret [.a 19]) (
 .ins (.pr (.bin .neq) [.a 3,.a 11])<|
 .ite 19 (
 .ins (.pr (.bM) [.k (.bool false)])<|
 .ret [.a 20]) (
 .ins (.pr (.bin .neq) [.a 4,.a 12])<|
 .ite 20 (
 .ins (.pr (.bM) [.k (.bool false)])<|
 .ret [.a 21]) (
 .ins (.cl 232 [.a 5,.a 13] 1)<|
 .ins (.pr (.un .not) [.a 21])<|
 .ite 22 (
 .ins (.pr (.bM) [.k (.bool false)])<|
 .ret [.a 23]) (
 .ins (.pr (.bin .neq) [.a 6,.a 14])<|
 .ite 23 (
 .ins (.pr (.bM) [.k (.bool false)])<|
 .ret [.a 24]) (
 .ins (.pr (.bb .neq) [.a 7,.a 15])<|
 .ite 24 (
 .ins (.pr (.bM) [.k (.bool false)])<|
 .ret [.a 25]) (
 .ins (.pr (.bM) [.k (.bool true)])<|
 .ret [.a 25]))))))))
def abS:Nat->af:=pick [(232,HP)]
def HQ:af:=λts=>mU.den abS rounds [] ts
def ap2:=gy.dP dx 202 ⟨[.v true 8,.v true 8],[(false,[.s])]⟩ mU HQ [ap1] Tryz.func202 (by kernel_rfl) (by kernel_rfl) (by kernel_rfl)
def pJ:PL:=
 .ins (.pr (.len) [.a 0])<|
 .ins (.pr (.len) [.a 1])<|
 .ins (.pr (.bin .neq) [.a 2,.a 3])<|
 .ite 4 (
 .ins (.pr (.bM) [.k (.bool false)])<|
 .ret [.a 5]) (
 .loop [.k (.bool false),.k (.int .i64 0)] (
 .ins (.pr (.len) [.a 0])<|
 .ins (.pr (.bin .lss) [.a 6,.a 7])<|
 .ite 8 (
 .ins (.pr (.dC) [.a 0,.a 6])<|
 .ins (.pr (.cell 8 0) [.a 0,.a 6])<|
 .ins (.pr (.cell 8 1) [.a 0,.a 6])<|
 .ins (.pr (.cell 8 2) [.a 0,.a 6])<|
 .ins (.pr (.cell 8 3) [.a 0,.a 6])<|
 .ins (.pr (.cell 8 4) [.a 0,.a 6])<|
 .ins (.pr (.cell 8 5) [.a 0,.a 6])<|
 .ins (.pr (.cell 8 6) [.a 0,.a 6])<|
 .ins (.pr (.cell 8 7) [.a 0,.a 6])<|
 .ins (.pr (.dC) [.a 1,.a 6])<|
 .ins (.pr (.cell 8 0) [.a 1,.a 6])<|
 .ins (.pr (.cell 8 1) [.a 1,.a 6])<|
 .ins (.pr (.cell 8 2) [.a 1,.a 6])<|
 .ins (.pr (.cell 8 3) [.a 1,.a 6])<|
 .ins (.pr (.cell 8 4) [.a 1,.a 6])<|
 .ins (.pr (.cell 8 5) [.a 1,.a 6])<|
 .ins (.pr (.cell 8 6) [.a 1,.a 6])<|
 .ins (.pr (.cell 8 7) [.a 1,.a 6])<|
 .ins (.cl 202 [.a 10,.a 11,.a 12,.a 13,.a 14,.a 15,.a 16,.a 17,.a 19,.a 20,.a 21,.a 22,.a 23,.a 24,.a 25,.a 26] 1)<|
 .ins (.pr (.un .not) [.a 27])<|
 .ite 28 (
 .ins (.pr (.bM) [.k (.bool false)])<|
 .ret [.a 29]) (
 .ins (.pr (.bin .add) [.a 6,.k (.int .i64 1)])<|
 .go 0 [.a 5,.a 29])) (
 .ins (.pr (.bM) [.k (.bool true)])<|
 .ret [.a 9])))
def abT:Nat->af:=pick [(202,HQ)]
def RY:af:=λts=>pJ.den abT rounds [] ts
def abU:=gy.dP dx 129 ⟨[.v false 1,.v false 1],[(false,[.s])]⟩ pJ RY [ap2] Tryz.func129 (by kernel_rfl) (by kernel_rfl) (by kernel_rfl)
def qX:PL:=
 .ins (.pr (.bin .neq) [.a 0,.a 7])<|
 .ite 14 (
 .ins (.pr (.bM) [.k (.bool false)])<|
 .ret [.a 15]) (
 .ins (.pr (.bin .neq) [.a 1,.a 8])<|
 .ite 15 (
 .ins (.pr (.bM) [.k (.bool false)])<|
 .ret [.a 16]) (
 .ins (.cl 48 [.a 2,.a 3,.a 4,.a 9,.a 10,.a 11] 1)<|
 .ins (.pr (.un .not) [.a 16])<|
 .ite 17 (
 .ins (.pr (.bM) [.k (.bool false)])<|
 .ret [.a 18]) (
 .ins (.cl 128 [.a 5,.a 12] 1)<|
 .ins (.pr (.un .not) [.a 18])<|
 .ite 19 (
 .ins (.pr (.bM) [.k (.bool false)])<|
 .ret [.a 20]) (
 .ins (.cl 129 [.a 6,.a 13] 1)<|
 .ins (.pr (.un .not) [.a 20])<|
 .ite 21 (
 .ins (.pr (.bM) [.k (.bool false)])<|
 .ret [.a 22]) (
 .ins (.pr (.bM) [.k (.bool true)])<|
 .ret [.a 22])))))
def HR:Nat->af:=pick [(48,Dq),(128,zY),(129,RY)]
def Dr:af:=λts=>qX.den HR rounds [] ts
def ap3:=gy.dP dx 114 ⟨[.v true 7,.v true 7],[(false,[.s])]⟩ qX Dr [apY,abQ,abU] Tryz.func114 (by kernel_rfl) (by kernel_rfl) (by kernel_rfl)
def tD:PL:=
 .ins (.pr (.bin .neq) [.a 0,.a 4])<|
 .ite 8 (
 .ins (.pr (.bM) [.k (.bool false)])<|
 .ret [.a 9]) (
 .ins (.pr (.bin .neq) [.a 1,.a 5])<|
 .ite 9 (
 .ins (.pr (.bM) [.k (.bool false)])<|
 .ret [.a 10]) (
 .ins (.pr (.bin .neq) [.a 2,.a 6])<|
 .ite 10 (
 .ins (.pr (.bM) [.k (.bool false)])<|
 .ret [.a 11]) (
 .ins (.pr (.bb .neq) [.a 3,.a 7])<|
 .ite 11 (
 .ins (.pr (.bM) [.k (.bool false)])<|
 .ret [.a 12]) (
 .ins (.pr (.bM) [.k (.bool true)])<|
 .ret [.a 12]))))
def ap4:Nat->af:=pick []
def HS:af:=λts=>tD.den ap4 rounds [] ts
def ap5:=gy.dP dx 197 ⟨[.v true 4,.v true 4],[(false,[.s])]⟩ tD HS [] Tryz.func197 (by kernel_rfl) (by kernel_rfl) (by kernel_rfl)
def vt:PL:=
 .ins (.pr (.len) [.a 0])<|
 .ins (.pr (.len) [.a 1])<|
 .ins (.pr (.bin .neq) [.a 2,.a 3])<|
 .ite 4 (
 .ins (.pr (.bM) [.k (.bool false)])<|
 .ret [.a 5]) (
 .loop [.k (.bool false),.k (.int .i64 0)] (
 .ins (.pr (.len) [.a 0])<|
 .ins (.pr (.bin .lss) [.a 6,.a 7])<|
 .ite 8 (
 .ins (.pr (.dC) [.a 0,.a 6])<|
 .ins (.pr (.cell 4 0) [.a 0,.a 6])<|
 .ins (.pr (.cell 4 1) [.a 0,.a 6])<|
 .ins (.pr (.cell 4 2) [.a 0,.a 6])<|
 .ins (.pr (.cell 4 3) [.a 0,.a 6])<|
 .ins (.pr (.dC) [.a 1,.a 6])<|
 .ins (.pr (.cell 4 0) [.a 1,.a 6])<|
 .ins (.pr (.cell 4 1) [.a 1,.a 6])<|
 .ins (.pr (.cell 4 2) [.a 1,.a 6])<|
 .ins (.pr (.cell 4 3) [.a 1,.a 6])<|
 .ins (.cl 197 [.a 10,.a 11,.a 12,.a 13,.a 15,.a 16,.a 17,.a 18] 1)<|
 .ins (.pr (.un .not) [.a 19])<|
 .ite 20 (
 .ins (.pr (.bM) [.k (.bool false)])<|
 .ret [.a 21]) (
 .ins (.pr (.bin .add) [.a 6,.k (.int .i64 1)])<|
 .go 0 [.a 5,.a 21])) (
 .ins (.pr (.bM) [.k (.bool true)])<|
 .ret [.a 9])))
def abV:Nat->af:=pick [(197,HS)]
def HT:af:=λts=>vt.den abV rounds [] ts
def ap6:=gy.dP dx 115 ⟨[.v false 1,.v false 1],[(false,[.s])]⟩ vt HT [ap5] Tryz.func115 (by kernel_rfl) (by kernel_rfl) (by kernel_rfl)
def qY:PL:=
 .ins (.cl 114 [.a 0,.a 1,.a 2,.a 3,.a 4,.a 5,.a 6,.a 8,.a 9,.a 10,.a 11,.a 12,.a 13,.a 14] 1)<|
 .ins (.pr (.un .not) [.a 16])<|
 .ite 17 (
 .ins (.pr (.bM) [.k (.bool false)])<|
 .ret [.a 18]) (
 .ins (.cl 115 [.a 7,.a 15] 1)<|
 .ins (.pr (.un .not) [.a 18])<|
 .ite 19 (
 .ins (.pr (.bM) [.k (.bool false)])<|
 .ret [.a 20]) (
 .ins (.pr (.bM) [.k (.bool true)])<|
 .ret [.a 20]))
def NB:Nat->af:=pick [(114,Dr),(115,HT)]
def Ds:af:=λts=>qY.den NB rounds [] ts
def ap7:=gy.dP dx 33 ⟨[.v true 8,.v true 8],[(false,[.s])]⟩ qY Ds [ap3,ap6] Tryz.func33 (by kernel_rfl) (by kernel_rfl) (by kernel_rfl)
def mV:PL:=
 .ins (.pr (.bin .neq) [.a 0,.a 6])<|
 .ite 12 (
 .ins (.pr (.bM) [.k (.bool false)])<|
 .ret [.a 13]) (
 .ins (.pr (.bin .neq) [.a 1,.a 7])<|
 .ite 13 (
 .ins (.pr (.bM) [.k (.bool false)])<|
 .ret [.a 14]) (
 .ins (.pr (.bin .neq) [.a 2,.a 8])<|
 .ite 14 (
 .ins (.pr (.bM) [.k (.bool false)])<|
 .ret [.a 15]) (
 .ins (.pr (.bin .neq) [.a 3,.a 9])<|
 .ite 15 (
 .ins (.pr (.bM) [.k (.bool false)])<|
 .ret [.a 16]) (
 .ins (.cl 128 [.a 4,.a 10] 1)<|
 .ins (.pr (.un .not) [.a 16])<|
 .ite 17 (
 .ins (.pr (.bM) [.k (.bool false)])<|
 .ret [.a 18]) (
 .ins (.cl 129 [.a 5,.a 11] 1)<|
 .ins (.pr (.un .not) [.a 18])<|
 .ite 19 (
 .ins (.pr (.bM) [.k (.bool false)])<|
 .ret [.a 20]) (
 .ins (.pr (.bM) [.k (.bool true)])<|
 .ret [.a 20]))))))
def NC:Nat->af:=pick [(128,zY),(129,RY)]
def RZ:af:=λts=>mV.den NC rounds [] ts
def abW:=gy.dP dx 41 ⟨[.v true 6,.v true 6],[(false,[.s])]⟩ mV RZ [abQ,abU] Tryz.func41 (by kernel_rfl) (by kernel_rfl) (by kernel_rfl)
def pK:PL:=
 .ins (.pr (.len) [.a 0])<|
 .ins (.pr (.len) [.a 1])<|
 .ins (.pr (.bin .neq) [.a 2,.a 3])<|
 .ite 4 (
 .ins (.pr (.bM) [.k (.bool false)])<|
 .ret [.a 5]) (
 .loop [.k (.bool false),.k (.int .i64 0)] (
 .ins (.pr (.len) [.a 0])<|
 .ins (.pr (.bin .lss) [.a 6,.a 7])<|
 .ite 8 (
 .ins (.pr (.dC) [.a 0,.a 6])<|
 .ins (.pr (.cell 6 0) [.a 0,.a 6])<|
 .ins (.pr (.cell 6 1) [.a 0,.a 6])<|
 .ins (.pr (.cell 6 2) [.a 0,.a 6])<|
 .ins (.pr (.cell 6 3) [.a 0,.a 6])<|
 .ins (.pr (.cell 6 4) [.a 0,.a 6])<|
 .ins (.pr (.cell 6 5) [.a 0,.a 6])<|
 .ins (.pr (.dC) [.a 1,.a 6])<|
 .ins (.pr (.cell 6 0) [.a 1,.a 6])<|
 .ins (.pr (.cell 6 1) [.a 1,.a 6])<|
 .ins (.pr (.cell 6 2) [.a 1,.a 6])<|
 .ins (.pr (.cell 6 3) [.a 1,.a 6])<|
 .ins (.pr (.cell 6 4) [.a 1,.a 6])<|
 .ins (.pr (.cell 6 5) [.a 1,.a 6])<|
 .ins (.cl 41 [.a 10,.a 11,.a 12,.a 13,.a 14,.a 15,.a 17,.a 18,.a 19,.a 20,.a 21,.a 22] 1)<|
 .ins (.pr (.un .not) [.a 23])<|
 .ite 24 (
 .ins (.pr (.bM) [.k (.bool false)])<|
 .ret [.a 25]) (
 .ins (.pr (.bin .add) [.a 6,.k (.int .i64 1)])<|
 .go 0 [.a 5,.a 25])) (
 .ins (.pr (.bM) [.k (.bool true)])<|
 .ret [.a 9])))
def abX:Nat->af:=pick [(41,RZ)]
def HU:af:=λts=>pK.den abX rounds [] ts
def ap8:=gy.dP dx 34 ⟨[.v false 1,.v false 1],[(false,[.s])]⟩ pK HU [abW] Tryz.func34 (by kernel_rfl) (by kernel_rfl) (by kernel_rfl)
def pL:PL:=
 .loop [.a 1,.k (.int .i64 0),.k (.int .i64 0)] (
 .ins (.pr (.len) [.a 0])<|
 .ins (.pr (.bin .lss) [.a 4,.a 5])<|
 .ite 6 (
 .ins (.pr (.dC) [.a 0,.a 4])<|
 .ins (.pr (.cell 4 0) [.a 0,.a 4])<|
 .ins (.pr (.bin .neq) [.a 8,.a 2])<|
 .ite 9 (
 .ins (.pr (.bM) [.k (.int .i64 (-1))])<|
 .ret [.a 10]) (
 .ins (.pr (.bin .add) [.a 2,.k (.int .i64 1)])<|
 .ins (.pr (.dC) [.a 0,.a 4])<|
 .ins (.pr (.cell 4 1) [.a 0,.a 4])<|
 .ins (.pr (.bin .neq) [.a 12,.a 10])<|
 .ite 13 (
 .ins (.pr (.bM) [.k (.int .i64 (-1))])<|
 .ret [.a 14]) (
 .ins (.pr (.bin .add) [.a 10,.k (.int .i64 1)])<|
 .ins (.pr (.dC) [.a 0,.a 4])<|
 .ins (.pr (.cell 4 2) [.a 0,.a 4])<|
 .ins (.pr (.bin .neq) [.a 16,.a 14])<|
 .ite 17 (
 .ins (.pr (.bM) [.k (.int .i64 (-1))])<|
 .ret [.a 18]) (
 .ins (.pr (.bin .add) [.a 14,.k (.int .i64 1)])<|
 .ins (.pr (.dC) [.a 0,.a 4])<|
 .ins (.pr (.cell 4 3) [.a 0,.a 4])<|
 .ins (.pr (.bin .neq) [.a 20,.a 18])<|
 .ite 21 (
 .ins (.pr (.bM) [.k (.int .i64 (-1))])<|
 .ret [.a 22]) (
 .ins (.pr (.bin .add) [.a 18,.k (.int .i64 1)])<|
 .ins (.pr (.bin .add) [.a 4,.k (.int .i64 1)])<|
 .go 0 [.a 22,.a 3,.a 23]))))) (
 .ins (.pr (.bM) [.a 2])<|
 .ret [.a 7]))
def abY:Nat->af:=pick []
def HV:af:=λts=>pL.den abY rounds [] ts
def ap9:=gy.dP dx 210 ⟨[.v false 1,.v false 1],[(false,[.s])]⟩ pL HV [] Tryz.func210 (by kernel_rfl) (by kernel_rfl) (by kernel_rfl)
def nR:PL:=
 .loop [.a 1,.k (.int .i64 0),.k (.int .i64 0)] (
 .ins (.pr (.len) [.a 0])<|
 .ins (.pr (.bin .lss) [.a 4,.a 5])<|
 .ite 6 (
 .ins (.pr (.dC) [.a 0,.a 4])<|
 .ins (.pr (.cell 4 0) [.a 0,.a 4])<|
 .ins (.pr (.bin .neq) [.a 8,.a 2])<|
 .ite 9 (
 .ins (.pr (.bM) [.k (.int .i64 (-1))])<|
 .ret [.a 10]) (
 .ins (.pr (.bin .add) [.a 2,.k (.int .i64 1)])<|
 .ins (.pr (.dC) [.a 0,.a 4])<|
 .ins (.pr (.cell 4 1) [.a 0,.a 4])<|
 .ins (.pr (.bin .neq) [.a 12,.a 10])<|
 .ite 13 (
 .ins (.pr (.bM) [.k (.int .i64 (-1))])<|
 .ret [.a 14]) (
 .ins (.pr (.bin .add) [.a 10,.k (.int .i64 1)])<|
 .ins (.pr (.dC) [.a 0,.a 4])<|
 .ins (.pr (.cell 4 2) [.a 0,.a 4])<|
 .ins (.pr (.bin .neq) [.a 16,.a 14])<|
 .ite 17 (
 .ins (.pr (.bM) [.k (.int .i64 (-1))])<|
 .ret [.a 18]) (
 .ins (.pr (.bin .add) [.a 14,.k (.int .i64 1)])<|
 .ins (.pr (.dC) [.a 0,.a 4])<|
 .ins (.pr (.cell 4 3) [.a 0,.a 4])<|
 .ins (.pr (.bin .rem) [.a 18,.k (.int .i64 3)])<|
 .ins (.pr (.bin .eql) [.a 21,.k (.int .i64 0)])<|
 .ins (.pr (.bb .neq) [.a 20,.a 22])<|
 .ite 23 (
 .ins (.pr (.bM) [.k (.int .i64 (-1))])<|
 .ret [.a 24]) (
 .ins (.pr (.bin .add) [.a 18,.k (.int .i64 1)])<|
 .ins (.pr (.bin .add) [.a 4,.k (.int .i64 1)])<|
 .go 0 [.a 24,.a 3,.a 25]))))) (
 .ins (.pr (.bM) [.a 2])<|
 .ret [.a 7]))
def abZ:Nat->af:=pick []
def HW:af:=λts=>nR.den abZ rounds [] ts
def ap_:=gy.dP dx 211 ⟨[.v false 1,.v false 1],[(false,[.s])]⟩ nR HW [] Tryz.func211 (by kernel_rfl) (by kernel_rfl) (by kernel_rfl)
def oK:PL:=
 .ins (.cl 210 [.a 1,.a 3] 1)<|
 .ins (.pr (.bin .lss) [.a 4,.k (.int .i64 0)])<|
 .ite 5 (
 .ins (.pr (.bM) [.k (.int .i64 (-1))])<|
 .ret [.a 6]) (
 .ins (.cl 211 [.a 2,.a 4] 1)<|
 .ins (.pr (.bin .lss) [.a 6,.k (.int .i64 0)])<|
 .ite 7 (
 .ins (.pr (.bM) [.k (.int .i64 (-1))])<|
 .ret [.a 8]) (
 .ins (.pr (.bM) [.a 6])<|
 .ret [.a 8]))
def ND:Nat->af:=pick [(210,HV),(211,HW)]
def Dt:af:=λts=>oK.den ND rounds [] ts
def ap':=gy.dP dx 145 ⟨[.v true 3,.v false 1],[(false,[.s])]⟩ oK Dt [ap9,ap_] Tryz.func145 (by kernel_rfl) (by kernel_rfl) (by kernel_rfl)
def qZ:PL:=
 .loop [.a 1,.k (.int .i64 0),.k (.int .i64 0)] (
 .ins (.pr (.len) [.a 0])<|
 .ins (.pr (.bin .lss) [.a 4,.a 5])<|
 .ite 6 (
 .ins (.pr (.dC) [.a 0,.a 4])<|
 .ins (.pr (.cell 1 0) [.a 0,.a 4])<|
 .ins (.pr (.bin .neq) [.a 8,.a 2])<|
 .ite 9 (
 .ins (.pr (.bM) [.k (.int .i64 (-1))])<|
 .ret [.a 10]) (
 .ins (.pr (.bin .add) [.a 2,.k (.int .i64 1)])<|
 .ins (.pr (.bin .add) [.a 4,.k (.int .i64 1)])<|
 .go 0 [.a 10,.a 3,.a 11])) (
 .ins (.pr (.bM) [.a 2])<|
 .ret [.a 7]))
def ab0:Nat->af:=pick []
def Du:af:=λts=>qZ.den ab0 rounds [] ts
def ab1:=gy.dP dx 122 ⟨[.v false 1,.v false 1],[(false,[.s])]⟩ qZ Du [] Tryz.func122 (by kernel_rfl) (by kernel_rfl) (by kernel_rfl)
def pM:PL:=
 .loop [.a 1,.k (.int .i64 0),.k (.int .i64 0)] (
 .ins (.pr (.len) [.a 0])<|
 .ins (.pr (.bin .lss) [.a 4,.a 5])<|
 .ite 6 (
 .ins (.pr (.dC) [.a 0,.a 4])<|
 .ins (.pr (.cell 2 0) [.a 0,.a 4])<|
 .ins (.pr (.bin .neq) [.a 8,.a 2])<|
 .ite 9 (
 .ins (.pr (.bM) [.k (.int .i64 (-1))])<|
 .ret [.a 10]) (
 .ins (.pr (.bin .add) [.a 2,.k (.int .i64 1)])<|
 .ins (.pr (.dC) [.a 0,.a 4])<|
 .ins (.pr (.cell 2 1) [.a 0,.a 4])<|
 .ins (.pr (.bin .neq) [.a 12,.a 10])<|
 .ite 13 (
 .ins (.pr (.bM) [.k (.int .i64 (-1))])<|
 .ret [.a 14]) (
 .ins (.pr (.bin .add) [.a 10,.k (.int .i64 1)])<|
 .ins (.pr (.bin .add) [.a 4,.k (.int .i64 1)])<|
 .go 0 [.a 14,.a 3,.a 15]))) (
 .ins (.pr (.bM) [.a 2])<|
 .ret [.a 7]))
def ab2:Nat->af:=pick []
def NE:af:=λts=>pM.den ab2 rounds [] ts
def aqa:=gy.dP dx 199 ⟨[.v false 1,.v false 1],[(false,[.s])]⟩ pM NE [] Tryz.func199 (by kernel_rfl) (by kernel_rfl) (by kernel_rfl)
def mK:PL:=
 .loop [.a 1,.k (.int .i64 0),.k (.int .i64 0)] (
 .ins (.pr (.len) [.a 0])<|
 .ins (.pr (.bin .lss) [.a 4,.a 5])<|
 .ite 6 (
 .ins (.pr (.dC) [.a 0,.a 4])<|
 .ins (.pr (.cell 8 0) [.a 0,.a 4])<|
 .ins (.pr (.bin .neq) [.a 8,.a 2])<|
 .ite 9 (
 .ins (.pr (.bM) [.k (.int .i64 (-1))])<|
 .ret [.a 10]) (
 .ins (.pr (.bin .add) [.a 2,.k (.int .i64 1)])<|
 .ins (.pr (.dC) [.a 0,.a 4])<|
 .ins (.pr (.cell 8 1) [.a 0,.a 4])<|
 .ins (.pr (.bin .neq) [.a 12,.a 10])<|
 .ite 13 (
 .ins (.pr (.bM) [.k (.int .i64 (-1))])<|
 .ret [.a 14]) (
 .ins (.pr (.bin .add) [.a 10,.k (.int .i64 1)])<|
 .ins (.pr (.dC) [.a 0,.a 4])<|
 .ins (.pr (.cell 8 2) [.a 0,.a 4])<|
 .ins (.pr (.bin .neq) [.a 16,.a 14])<|
 .ite 17 (
 .ins (.pr (.bM) [.k (.int .i64 (-1))])<|
 .ret [.a 18]) (
 .ins (.pr (.bin .add) [.a 14,.k (.int .i64 1)])<|
 .ins (.pr (.dC) [.a 0,.a 4])<|
 .ins (.pr (.cell 8 3) [.a 0,.a 4])<|
 .ins (.pr (.bin .neq) [.a 20,.a 18])<|
 .ite 21 (
 .ins (.pr (.bM) [.k (.int .i64 (-1))])<|
 .ret [.a 22]) (
 .ins (.pr (.bin .add) [.a 18,.k (.int .i64 1)])<|
 .ins (.pr (.dC) [.a 0,.a 4])<|
 .ins (.pr (.cell 8 4) [.a 0,.a 4])<|
 .ins (.pr (.bin .neq) [.a 24,.a 22])<|
 .ite 25 (
 .ins (.pr (.bM) [.k (.int .i64 (-1))])<|
 .ret [.a 26]) (
 .ins (.pr (.bin .add) [.a 22,.k (.int .i64 1)])<|
 .ins (.pr (.dC) [.a 0,.a 4])<|
 .ins (.pr (.cell 8 5) [.a 0,.a 4])<|
 .ins (.cl 199 [.a 28,.a 26] 1)<|
 .ins (.pr (.bin .lss) [.a 29,.k (.int .i64 0)])<|
 .ite 30 (
 .ins (.pr (.bM) [.k (.int .i64 (-1))])<|
 .ret [.a 31]) (
 .ins (.pr (.dC) [.a 0,.a 4])<|
 .ins (.pr (.cell 8 6) [.a 0,.a 4])<|
 .ins (.pr (.bin .neq) [.a 32,.a 29])<|
 .ite 33 (
 .ins (.pr (.bM) [.k (.int .i64 (-1))])<|
 .ret [.a 34]) (
 .ins (.pr (.bin .add) [.a 29,.k (.int .i64 1)])<|
 .ins (.pr (.dC) [.a 0,.a 4])<|
 .ins (.pr (.cell 8 7) [.a 0,.a 4])<|
 .ins (.pr (.bin .rem) [.a 34,.k (.int .i64 3)])<|
 .ins (.pr (.bin .eql) [.a 37,.k (.int .i64 0)])<|
 .ins (.pr (.bb .neq) [.a 36,.a 38])<|
 .ite 39 (
 .ins (.pr (.bM) [.k (.int .i64 (-1))])<|
 .ret [.a 40]) (
 .ins (.pr (.bin .add) [.a 34,.k (.int .i64 1)])<|
 .ins (.pr (.bin .add) [.a 4,.k (.int .i64 1)])<|
 .go 0 [.a 40,.a 3,.a 41]))))))))) (
 .ins (.pr (.bM) [.a 2])<|
 .ret [.a 7]))
def ab3:Nat->af:=pick [(199,NE)]
def qH_:af:=λts=>mK.den ab3 rounds [] ts
def ab5:=gy.dP dx 123 ⟨[.v false 1,.v false 1],[(false,[.s])]⟩ mK qH_ [aqa] Tryz.func123 (by kernel_rfl) (by kernel_rfl) (by kernel_rfl)
def mW:PL:=
 .ins (.cl 145 [.a 2,.a 3,.a 4,.a 7] 1)<|
 .ins (.pr (.bin .lss) [.a 8,.k (.int .i64 0)])<|
 .ite 9 (
 .ins (.pr (.bM) [.k (.int .i64 (-1))])<|
 .ret [.a 10]) (
 .ins (.cl 122 [.a 5,.a 8] 1)<|
 .ins (.pr (.bin .lss) [.a 10,.k (.int .i64 0)])<|
 .ite 11 (
 .ins (.pr (.bM) [.k (.int .i64 (-1))])<|
 .ret [.a 12]) (
 .ins (.cl 123 [.a 6,.a 10] 1)<|
 .ins (.pr (.bin .lss) [.a 12,.k (.int .i64 0)])<|
 .ite 13 (
 .ins (.pr (.bM) [.k (.int .i64 (-1))])<|
 .ret [.a 14]) (
 .ins (.pr (.bM) [.a 12])<|
 .ret [.a 14])))
def HX:Nat->af:=pick [(122,Du),(123,qH_),(145,Dt)]
def Dv:af:=λts=>mW.den HX rounds [] ts
def aqb:=gy.dP dx 120 ⟨[.v true 7,.v false 1],[(false,[.s])]⟩ mW Dv [ab1,ab5,ap'] Tryz.func120 (by kernel_rfl) (by kernel_rfl) (by kernel_rfl)
def q0:PL:=
 .loop [.a 1,.k (.int .i64 0),.k (.int .i64 0)] (
 .ins (.pr (.len) [.a 0])<|
 .ins (.pr (.bin .lss) [.a 4,.a 5])<|
 .ite 6 (
 .ins (.pr (.dC) [.a 0,.a 4])<|
 .ins (.pr (.cell 4 0) [.a 0,.a 4])<|
 .ins (.pr (.bin .neq) [.a 8,.a 2])<|
 .ite 9 (
 .ins (.pr (.bM) [.k (.int .i64 (-1))])<|
 .ret [.a 10]) (
 .ins (.pr (.bin .add) [.a 2,.k (.int .i64 1)])<|
 .ins (.pr (.dC) [.a 0,.a 4])<|
 .ins (.pr (.cell 4 1) [.a 0,.a 4])<|
 .ins (.pr (.bin .neq) [.a 12,.a 10])<|
 .ite 13 (
 .ins (.pr (.bM) [.k (.int .i64 (-1))])<|
 .ret [.a 14]) (
 .ins (.pr (.bin .add) [.a 10,.k (.int .i64 1)])<|
 .ins (.pr (.dC) [.a 0,.a 4])<|
 .ins (.pr (.cell 4 2) [.a 0,.a 4])<|
 .ins (.pr (.bin .neq) [.a 16,.a 14])<|
 .ite 17 (
 .ins (.pr (.bM) [.k (.int .i64 (-1))])<|
 .ret [.a 18]) (
 .ins (.pr (.bin .add) [.a 14,.k (.int .i64 1)])<|
 .ins (.pr (.dC) [.a 0,.a 4])<|
 .ins (.pr (.cell 4 3) [.a 0,.a 4])<|
 .ins (.pr (.bin .rem) [.a 18,.k (.int .i64 3)])<|
 .ins (.pr (.bin .eql) [.a 21,.k (.int .i64 0)])<|
 .ins (.pr (.bb .neq) [.a 20,.a 22])<|
 .ite 23 (
 .ins (.pr (.bM) [.k (.int .i64 (-1))])<|
 .ret [.a 24]) (
 .ins (.pr (.bin .add) [.a 18,.k (.int .i64 1)])<|
 .ins (.pr (.bin .add) [.a 4,.k (.int .i64 1)])<|
 .go 0 [.a 24,.a 3,.a 25]))))) (
 .ins (.pr (.bM) [.a 2])<|
 .ret [.a 7]))
def ab6:Nat->af:=pick []
def HY:af:=λts=>q0.den ab6 rounds [] ts
def aqc:=gy.dP dx 121 ⟨[.v false 1,.v false 1],[(false,[.s])]⟩ q0 HY [] Tryz.func121 (by kernel_rfl) (by kernel_rfl) (by kernel_rfl)
def mX:PL:=
 .ins (.cl 120 [.a 0,.a 1,.a 2,.a 3,.a 4,.a 5,.a 6,.a 8] 1)<|
 .ins (.pr (.bin .lss) [.a 9,.k (.int .i64 0)])<|
 .ite 10 (
 .ins (.pr (.bM) [.k (.int .i64 (-1))])<|
 .ret [.a 11]) (
 .ins (.cl 121 [.a 7,.a 9] 1)<|
 .ins (.pr (.bin .lss) [.a 11,.k (.int .i64 0)])<|
 .ite 12 (
 .ins (.pr (.bM) [.k (.int .i64 (-1))])<|
 .ret [.a 13]) (
 .ins (.pr (.bM) [.a 11])<|
 .ret [.a 13]))
def NF:Nat->af:=pick [(120,Dv),(121,HY)]
def R0:af:=λts=>mX.den NF rounds [] ts
def aqd:=gy.dP dx 37 ⟨[.v true 8,.v false 1],[(false,[.s])]⟩ mX R0 [aqb,aqc] Tryz.func37 (by kernel_rfl) (by kernel_rfl) (by kernel_rfl)
def mL:PL:=
 .loop [.a 1,.k (.int .i64 0),.k (.int .i64 0)] (
 .ins (.pr (.len) [.a 0])<|
 .ins (.pr (.bin .lss) [.a 4,.a 5])<|
 .ite 6 (
 .ins (.pr (.dC) [.a 0,.a 4])<|
 .ins (.pr (.cell 6 0) [.a 0,.a 4])<|
 .ins (.pr (.bin .neq) [.a 8,.a 2])<|
 .ite 9 (
 .ins (.pr (.bM) [.k (.int .i64 (-1))])<|
 .ret [.a 10]) (
 .ins (.pr (.bin .add) [.a 2,.k (.int .i64 1)])<|
 .ins (.pr (.dC) [.a 0,.a 4])<|
 .ins (.pr (.cell 6 1) [.a 0,.a 4])<|
 .ins (.pr (.bin .neq) [.a 12,.a 10])<|
 .ite 13 (
 .ins (.pr (.bM) [.k (.int .i64 (-1))])<|
 .ret [.a 14]) (
 .ins (.pr (.bin .add) [.a 10,.k (.int .i64 1)])<|
 .ins (.pr (.dC) [.a 0,.a 4])<|
 .ins (.pr (.cell 6 2) [.a 0,.a 4])<|
 .ins (.pr (.bin .neq) [.a 16,.a 14])<|
 .ite 17 (
 .ins (.pr (.bM) [.k (.int .i64 (-1))])<|
 .ret [.a 18]) (
 .ins (.pr (.bin .add) [.a 14,.k (.int .i64 1)])<|
 .ins (.pr (.dC) [.a 0,.a 4])<|
 .ins (.pr (.cell 6 3) [.a 0,.a 4])<|
 .ins (.pr (.bin .neq) [.a 20,.a 18])<|
 .ite 21 (
 .ins (.pr (.bM) [.k (.int .i64 (-1))])<|
 .ret [.a 22]) (
 .ins (.pr (.bin .add) [.a 18,.k (.int .i64 1)])<|
 .ins (.pr (.dC) [.a 0,.a 4])<|
 .ins (.pr (.cell 6 4) [.a 0,.a 4])<|
 .ins (.cl 122 [.a 24,.a 22] 1)<|
 .ins (.pr (.bin .lss) [.a 25,.k (.int .i64 0)])<|
 .ite 26 (
 .ins (.pr (.bM) [.k (.int .i64 (-1))])<|
 .ret [.a 27]) (
 .ins (.pr (.dC) [.a 0,.a 4])<|
 .ins (.pr (.cell 6 5) [.a 0,.a 4])<|
 .ins (.cl 123 [.a 28,.a 25] 1)<|
 .ins (.pr (.bin .lss) [.a 29,.k (.int .i64 0)])<|
 .ite 30 (
 .ins (.pr (.bM) [.k (.int .i64 (-1))])<|
 .ret [.a 31]) (
 .ins (.pr (.bin .add) [.a 4,.k (.int .i64 1)])<|
 .go 0 [.a 29,.a 3,.a 31]))))))) (
 .ins (.pr (.bM) [.a 2])<|
 .ret [.a 7]))
def ab7:Nat->af:=pick [(122,Du),(123,qH_)]
def kC_:af:=λts=>mL.den ab7 rounds [] ts
def aqe:=gy.dP dx 38 ⟨[.v false 1,.v false 1],[(false,[.s])]⟩ mL kC_ [ab1,ab5] Tryz.func38 (by kernel_rfl) (by kernel_rfl) (by kernel_rfl)
def jl:PL:=
 .ins (.cl 124 [.a 4,.a 6] 1)<|
 .ins (.pr (.bin .lss) [.a 7,.k (.int .i64 0)])<|
 .ite 8 (
 .ins (.pr (.bM) [.k (.int .i64 (-1))])<|
 .ret [.a 9]) (
 .ins (.cl 125 [.a 5,.a 7] 1)<|
 .ins (.pr (.bin .lss) [.a 9,.k (.int .i64 0)])<|
 .ite 10 (
 .ins (.pr (.bM) [.k (.int .i64 (-1))])<|
 .ret [.a 11]) (
 .ins (.pr (.bM) [.a 9])<|
 .ret [.a 11]))
def NG:Nat->af:=pick [(124,zS),(125,RU)]
def NH:af:=λts=>jl.den NG rounds [] ts
def aqf:=gy.dP dx 39 ⟨[.v true 6,.v false 1],[(false,[.s])]⟩ jl NH [Xd,Xh] Tryz.func39 (by kernel_rfl) (by kernel_rfl) (by kernel_rfl)
def mY:PL:=
 .ins (.cl 126 [.a 4] 1)<|
 .ins (.cl 127 [.a 5] 1)<|
 .ins (.pr (.bM) [.a 3])<|
 .ins (.pr (.bM) [.a 2])<|
 .ins (.pr (.bM) [.a 1])<|
 .ins (.pr (.bM) [.a 0])<|
 .ret [.a 11,.a 10,.a 9,.a 8,.a 6,.a 7]
def NI:Nat->af:=pick [(126,zU),(127,RV)]
def Dw:af:=λts=>mY.den NI rounds [] ts
def aqg:=gy.dP dx 40 ⟨[.v true 6],[(true,[.s,.s,.s,.s,.o true,.o true])]⟩ mY Dw [Xm,Xq] Tryz.func40 (by kernel_rfl) (by kernel_rfl) (by kernel_rfl)
def ab8:J:=⟨98,⟨[.v true 8,.v false 1,.v false 1],[(false,[.s])]⟩,[],Tryz.f98⟩
def ab9:PL:=jp ab8
def Dx:af:=Fs ab9 []
def aqh:=cZ ab8 Dx Tryz.func98 (by kernel_rfl) (by kernel_rfl) (by kernel_rfl)
def ab_:J:=⟨29,⟨[.v true 6],[(false,[.s])]⟩,[ZD,M7,Ht,X4,ZP],Tryz.f29⟩
def ab':PL:=jp ab_
def ji_:af:=Fs ab' [(19,Hz),(65,tw),(105,rT),(106,zV),(107,HA)]
def aqi:=cZ ab_ ji_ Tryz.func29 (by kernel_rfl) (by kernel_rfl) (by kernel_rfl)
def acb:J:=⟨102,⟨[.v true 8,.v false 1,.v false 1,.v false 1],[(false,[.p])]⟩,[CW,Nl],Tryz.f102⟩
def acd:PL:=jp acb
def kb_:af:=Fs acd [(62,ug),(184,C4)]
def aqj:=cZ acb kb_ Tryz.func102 (by kernel_rfl) (by kernel_rfl) (by kernel_rfl)
def acf:J:=⟨28,⟨[.v false 1,.v false 1],[(false,[.p])]⟩,[CX,M7],Tryz.f28⟩
def acg:PL:=jp acf
def Dy:af:=Fs acg [(63,ye),(65,tw)]
def aqk:=cZ acf Dy Tryz.func28 (by kernel_rfl) (by kernel_rfl) (by kernel_rfl)
def ach:J:=⟨103,⟨[.v true 8,.v true 4,.v true 6],[(false,[.p])]⟩,[aqk,aps,Nl],Tryz.f103⟩
def aci:PL:=jp ach
def uT_:af:=Fs aci [(28,Dy),(111,C5),(184,C4)]
def aql:=cZ ach uT_ Tryz.func103 (by kernel_rfl) (by kernel_rfl) (by kernel_rfl)
def ack:J:=⟨154,⟨[.v false 1,.v true 8],[(false,[.p]),(false,[.s])]⟩,[CW,CX,XY],Tryz.f154⟩
def acm:PL:=jp ack
def u1_:af:=Fs acm [(62,ug),(63,ye),(195,M9)]
def aqm:=cZ ack u1_ Tryz.func154 (by kernel_rfl) (by kernel_rfl) (by kernel_rfl)
def aco:J:=⟨104,⟨[.v true 7,.v false 1],[(true,[.s,.s,.s,.o true,.o true,.o true,.o true]),(false,[.o true])]⟩,[Hv,M8,M7,qR_,aqm],Tryz.f104⟩
def acp:PL:=jp aco
def Dz:af:=Fs acp [(58,CS),(59,ER),(65,tw),(66,AE),(154,u1_)]
def aqn:=cZ aco Dz Tryz.func104 (by kernel_rfl) (by kernel_rfl) (by kernel_rfl)
def acq:J:=⟨27,⟨[.v true 8,.v true 6],[(true,[.s,.s,.s,.p,.p,.p,.p,.p]),(false,[.p])]⟩,[apq,aqi,ao5,aqh,apb,Y5,X9,aqj,aql,aqn],Tryz.f27⟩
def acr:PL:=jp acq
def q5_:af:=Fs acr [(12,C3),(29,ji_),(97,XA),(98,Dx),(99,CT),(100,Ng),(101,Na),(102,kb_),(103,uT_),(104,Dz)]
def aqo:=cZ acq q5_ Tryz.func27 (by kernel_rfl) (by kernel_rfl) (by kernel_rfl)
def acu:J:=⟨91,⟨[.v true 8,.v false 1,.v false 1],[(false,[.s])]⟩,[],Tryz.f91⟩
def acv:PL:=jp acu
def DA:af:=Fs acv []
def aqp:=cZ acu DA Tryz.func91 (by kernel_rfl) (by kernel_rfl) (by kernel_rfl)
def acw:J:=⟨189,⟨[.v false 1],[(false,[.s])]⟩,[tA],Tryz.f189⟩
def acx:PL:=jp acw
def j9_:af:=Fs acx [(69,rU)]
def aqq:=cZ acw j9_ Tryz.func189 (by kernel_rfl) (by kernel_rfl) (by kernel_rfl)
def acz:J:=⟨190,⟨[.v false 1],[(false,[.s])]⟩,[abv,abJ],Tryz.f190⟩
def acA:PL:=jp acz
def DB:af:=Fs acA [(158,Ny),(187,Nz)]
def aqr:=cZ acz DB Tryz.func190 (by kernel_rfl) (by kernel_rfl) (by kernel_rfl)
def acB:J:=⟨92,⟨[.v true 6],[(false,[.s])]⟩,[tA,HC,aqq,aqr],Tryz.f92⟩
def acC:PL:=jp acB
def ju_:af:=Fs acC [(69,rU),(71,C'),(189,j9_),(190,DB)]
def aqs:=cZ acB ju_ Tryz.func92 (by kernel_rfl) (by kernel_rfl) (by kernel_rfl)
def acE:J:=⟨193,⟨[.v false 1,.v false 1],[(false,[.o true])]⟩,[xk,J8],Tryz.f193⟩
def acF:PL:=jp acE
def DC:af:=Fs acF [(57,tB),(157,sw)]
def aqt:=cZ acE DC Tryz.func193 (by kernel_rfl) (by kernel_rfl) (by kernel_rfl)
def acG:J:=⟨191,⟨[.v false 1,.v false 1],[(false,[.o true])]⟩,[J8,Z2],Tryz.f191⟩
def acH:PL:=jp acG
def DD:af:=Fs acH [(157,sw),(161,zW)]
def aqu:=cZ acG DD Tryz.func191 (by kernel_rfl) (by kernel_rfl) (by kernel_rfl)
def acI:J:=⟨228,⟨[.v false 1,.v true 8],[(false,[.o true]),(false,[.s])]⟩,[xk,HC,J8,aav],Tryz.f228⟩
def acJ:PL:=jp acI
def j7_:af:=Fs acJ [(57,tB),(71,C'),(157,sw),(173,Np)]
def aqv:=cZ acI j7_ Tryz.func228 (by kernel_rfl) (by kernel_rfl) (by kernel_rfl)
def acL:J:=⟨192,⟨[.v false 1,.v false 1],[(false,[.o true]),(false,[.o true])]⟩,[qY_,Z2,aqv],Tryz.f192⟩
def acM:PL:=jp acL
def j1_:af:=Fs acM [(56,C6),(161,zW),(228,j7_)]
def aqw:=cZ acL j1_ Tryz.func192 (by kernel_rfl) (by kernel_rfl) (by kernel_rfl)
def acO:J:=⟨95,⟨[.v true 7,.v false 1],[(true,[.s,.s,.s,.o true,.o true,.o true,.o true]),(false,[.o true])]⟩,[HD,Nm,aqw],Tryz.f95⟩
def acP:PL:=jp acO
def DE:af:=Fs acP [(13,Da),(54,ET),(192,j1_)]
def aqx:=cZ acO DE Tryz.func95 (by kernel_rfl) (by kernel_rfl) (by kernel_rfl)
def acQ:J:=⟨26,⟨[.v true 8,.v true 6],[(true,[.s,.s,.s,.o true,.o true,.o true,.o true,.o true]),(false,[.o true])]⟩,[apQ,apD,apu,aaH,apR,aqp,aqs,aqx,HG,abG,aqu,aqt],Tryz.f26⟩
def acR:PL:=jp acQ
def jf_:af:=Fs acR [(11,Dp),(23,Dc),(81,Z9),(82,Nr),(86,kq_),(91,DA),(92,ju_),(95,DE),(175,Df),(186,HJ),(191,DD),(193,DC)]
def aqy:=cZ acQ jf_ Tryz.func26 (by kernel_rfl) (by kernel_rfl) (by kernel_rfl)
def eA:PL:=
 Qi 30 [.a 0,.a 1,.a 2,.a 3,.a 4,.a 5,.a 6,.a 7,I 1048576] 1<|
 Ql [.a 14,I 0]<|
 .ite 15 (
 Qz [.k (.bool true)]<|
 .ret [.a 16]) (
 Qi 39 [.a 8,.a 9,.a 10,.a 11,.a 12,.a 13,.a 14] 1<|
 Ql [.a 16,I 0]<|
 .ite 17 (
 Qz [.k (.bool true)]<|
 .ret [.a 18]) (
 Qi 32 [.a 0,.a 1,.a 2,.a 3,.a 4,.a 5,.a 6,.a 7] 8<|
 Qi 40 [.a 8,.a 9,.a 10,.a 11,.a 12,.a 13] 6<|
 Qi 27 [.a 18,.a 19,.a 20,.a 21,.a 22,.a 23,.a 24,.a 25,.a 26,.a 27,.a 28,.a 29,.a 30,.a 31] 9<|
 Qi 32 [.a 0,.a 1,.a 2,.a 3,.a 4,.a 5,.a 6,.a 7] 8<|
 Qi 40 [.a 8,.a 9,.a 10,.a 11,.a 12,.a 13] 6<|
 Qi 26 [.a 41,.a 42,.a 43,.a 44,.a 45,.a 46,.a 47,.a 48,.a 49,.a 50,.a 51,.a 52,.a 53,.a 54] 9<|
 Qi 33 [.a 55,.a 56,.a 57,.a 58,.a 59,.a 60,.a 61,.a 62,.a 32,.a 33,.a 34,.a 35,.a 36,.a 37,.a 38,.a 39] 1<|
 Qt [.a 64]<|
 .ite 65 (
 Qz [.k (.bool false)]<|
 .ret [.a 66]) (
 Qi 34 [.a 63,.a 40] 1<|
 Qt [.a 66]<|
 .ite 67 (
 Qz [.k (.bool false)]<|
 .ret [.a 68]) (
 Qi 32 [.a 0,.a 1,.a 2,.a 3,.a 4,.a 5,.a 6,.a 7] 8<|
 Qi 33 [.a 41,.a 42,.a 43,.a 44,.a 45,.a 46,.a 47,.a 48,.a 68,.a 69,.a 70,.a 71,.a 72,.a 73,.a 74,.a 75] 1<|
 Qt [.a 76]<|
 .ite 77 (
 Qz [.k (.bool false)]<|
 .ret [.a 78]) (
 Qi 40 [.a 8,.a 9,.a 10,.a 11,.a 12,.a 13] 6<|
 Qi 41 [.a 49,.a 50,.a 51,.a 52,.a 53,.a 54,.a 78,.a 79,.a 80,.a 81,.a 82,.a 83] 1<|
 Qt [.a 84]<|
 .ite 85 (
 Qz [.k (.bool false)]<|
 .ret [.a 86]) (
 .join (
 .loop [.a 86,I 0,.a 44] (
 Qn [.a 89]<|
 Ql [.a 88,.a 90]<|
 .ite 91 (
 Qb [.a 89,.a 88]<|
 Q (.put true 4 0 1) [.a 89,.a 88,.a 87]<|
 Qa [.a 87,I 1]<|
 Qb [.a 93,.a 88]<|
 Q (.put true 4 1 1) [.a 93,.a 88,.a 94]<|
 Qa [.a 94,I 1]<|
 Qb [.a 96,.a 88]<|
 Q (.put true 4 2 1) [.a 96,.a 88,.a 97]<|
 Qa [.a 97,I 1]<|
 Qb [.a 99,.a 88]<|
 Q (.put true 4 3 1) [.a 99,.a 88,.a 100]<|
 Qa [.a 100,I 1]<|
 Qa [.a 88,I 1]<|
 .go 0 [.a 103,.a 104,.a 102]) (
 .loop [.a 87,I 0,.a 45] (
 Qn [.a 94]<|
 Ql [.a 93,.a 95]<|
 .ite 96 (
 Qb [.a 94,.a 93]<|
 Q (.put true 4 0 1) [.a 94,.a 93,.a 92]<|
 Qa [.a 92,I 1]<|
 Qb [.a 98,.a 93]<|
 Q (.put true 4 1 1) [.a 98,.a 93,.a 99]<|
 Qa [.a 99,I 1]<|
 Qb [.a 101,.a 93]<|
 Q (.put true 4 2 1) [.a 101,.a 93,.a 102]<|
 Qa [.a 102,I 1]<|
 Q (.bin .rem) [.a 105,I 3]<|
 Qe [.a 106,I 0]<|
 Qb [.a 104,.a 93]<|
 Q (.put true 4 3 1) [.a 104,.a 93,.a 107]<|
 Qa [.a 105,I 1]<|
 Qa [.a 93,I 1]<|
 .go 0 [.a 110,.a 111,.a 109]) (
 .loop [.a 92,I 0,.a 46] (
 Qn [.a 99]<|
 Ql [.a 98,.a 100]<|
 .ite 101 (
 Qb [.a 99,.a 98]<|
 Q (.put true 1 0 1) [.a 99,.a 98,.a 97]<|
 Qa [.a 97,I 1]<|
 Qa [.a 98,I 1]<|
 .go 0 [.a 104,.a 105,.a 103]) (
 .loop [.a 97,I 0,.a 47] (
 Qn [.a 104]<|
 Ql [.a 103,.a 105]<|
 .ite 106 (
 Qb [.a 104,.a 103]<|
 Q (.put true 8 0 1) [.a 104,.a 103,.a 102]<|
 Qa [.a 102,I 1]<|
 Qb [.a 108,.a 103]<|
 Q (.put true 8 1 1) [.a 108,.a 103,.a 109]<|
 Qa [.a 109,I 1]<|
 Qb [.a 111,.a 103]<|
 Q (.put true 8 2 1) [.a 111,.a 103,.a 112]<|
 Qa [.a 112,I 1]<|
 Qb [.a 114,.a 103]<|
 Q (.put true 8 3 1) [.a 114,.a 103,.a 115]<|
 Qa [.a 115,I 1]<|
 Qb [.a 117,.a 103]<|
 Q (.put true 8 4 1) [.a 117,.a 103,.a 118]<|
 Qa [.a 118,I 1]<|
 Qb [.a 120,.a 103]<|
 Q (.dE 8 5) [.a 120,.a 103]<|
 .loop [.a 121,I 0,.a 120] (
 Q (.dE 8 5) [.a 126,.a 103]<|
 Qn [.a 127]<|
 Ql [.a 125,.a 128]<|
 .ite 129 (
 Q (.dE 8 5) [.a 126,.a 103]<|
 Qb [.a 130,.a 125]<|
 Q (.dE 8 5) [.a 126,.a 103]<|
 Q (.put true 2 0 1) [.a 132,.a 125,.a 124]<|
 Q (.dE 8 5) [.a 126,.a 103]<|
 Q (.iS 8 5) [.a 126,.a 103,.a 133]<|
 Qa [.a 124,I 1]<|
 Q (.dE 8 5) [.a 135,.a 103]<|
 Qb [.a 137,.a 125]<|
 Q (.dE 8 5) [.a 135,.a 103]<|
 Q (.put true 2 1 1) [.a 139,.a 125,.a 136]<|
 Q (.dE 8 5) [.a 135,.a 103]<|
 Q (.iS 8 5) [.a 135,.a 103,.a 140]<|
 Qa [.a 136,I 1]<|
 Qa [.a 125,I 1]<|
 .go 0 [.a 143,.a 144,.a 142]) (
 Qb [.a 126,.a 103]<|
 Q (.put true 8 6 1) [.a 126,.a 103,.a 124]<|
 Qa [.a 124,I 1]<|
 Q (.bin .rem) [.a 132,I 3]<|
 Qe [.a 133,I 0]<|
 Qb [.a 131,.a 103]<|
 Q (.put true 8 7 1) [.a 131,.a 103,.a 134]<|
 Qa [.a 132,I 1]<|
 Qa [.a 103,I 1]<|
 .go 1 [.a 137,.a 138,.a 136]))) (
 .loop [.a 102,I 0,.a 48] (
 Qn [.a 109]<|
 Ql [.a 108,.a 110]<|
 .ite 111 (
 Qb [.a 109,.a 108]<|
 Q (.put true 4 0 1) [.a 109,.a 108,.a 107]<|
 Qa [.a 107,I 1]<|
 Qb [.a 113,.a 108]<|
 Q (.put true 4 1 1) [.a 113,.a 108,.a 114]<|
 Qa [.a 114,I 1]<|
 Qb [.a 116,.a 108]<|
 Q (.put true 4 2 1) [.a 116,.a 108,.a 117]<|
 Qa [.a 117,I 1]<|
 Q (.bin .rem) [.a 120,I 3]<|
 Qe [.a 121,I 0]<|
 Qb [.a 119,.a 108]<|
 Q (.put true 4 3 1) [.a 119,.a 108,.a 122]<|
 Qa [.a 120,I 1]<|
 Qa [.a 108,I 1]<|
 .go 0 [.a 125,.a 126,.a 124]) (
 .loop [.a 107,I 0,.a 53] (
 Qn [.a 114]<|
 Ql [.a 113,.a 115]<|
 .ite 116 (
 Qb [.a 114,.a 113]<|
 Q (.put true 1 0 1) [.a 114,.a 113,.a 112]<|
 Qa [.a 112,I 1]<|
 Qa [.a 113,I 1]<|
 .go 0 [.a 119,.a 120,.a 118]) (
 .loop [.a 112,I 0,.a 54] (
 Qn [.a 119]<|
 Ql [.a 118,.a 120]<|
 .ite 121 (
 Qb [.a 119,.a 118]<|
 Q (.put true 8 0 1) [.a 119,.a 118,.a 117]<|
 Qa [.a 117,I 1]<|
 Qb [.a 123,.a 118]<|
 Q (.put true 8 1 1) [.a 123,.a 118,.a 124]<|
 Qa [.a 124,I 1]<|
 Qb [.a 126,.a 118]<|
 Q (.put true 8 2 1) [.a 126,.a 118,.a 127]<|
 Qa [.a 127,I 1]<|
 Qb [.a 129,.a 118]<|
 Q (.put true 8 3 1) [.a 129,.a 118,.a 130]<|
 Qa [.a 130,I 1]<|
 Qb [.a 132,.a 118]<|
 Q (.put true 8 4 1) [.a 132,.a 118,.a 133]<|
 Qa [.a 133,I 1]<|
 Qb [.a 135,.a 118]<|
 Q (.dE 8 5) [.a 135,.a 118]<|
 .loop [.a 136,I 0,.a 135] (
 Q (.dE 8 5) [.a 141,.a 118]<|
 Qn [.a 142]<|
 Ql [.a 140,.a 143]<|
 .ite 144 (
 Q (.dE 8 5) [.a 141,.a 118]<|
 Qb [.a 145,.a 140]<|
 Q (.dE 8 5) [.a 141,.a 118]<|
 Q (.put true 2 0 1) [.a 147,.a 140,.a 139]<|
 Q (.dE 8 5) [.a 141,.a 118]<|
 Q (.iS 8 5) [.a 141,.a 118,.a 148]<|
 Qa [.a 139,I 1]<|
 Q (.dE 8 5) [.a 150,.a 118]<|
 Qb [.a 152,.a 140]<|
 Q (.dE 8 5) [.a 150,.a 118]<|
 Q (.put true 2 1 1) [.a 154,.a 140,.a 151]<|
 Q (.dE 8 5) [.a 150,.a 118]<|
 Q (.iS 8 5) [.a 150,.a 118,.a 155]<|
 Qa [.a 151,I 1]<|
 Qa [.a 140,I 1]<|
 .go 0 [.a 158,.a 159,.a 157]) (
 Qb [.a 141,.a 118]<|
 Q (.put true 8 6 1) [.a 141,.a 118,.a 139]<|
 Qa [.a 139,I 1]<|
 Q (.bin .rem) [.a 147,I 3]<|
 Qe [.a 148,I 0]<|
 Qb [.a 146,.a 118]<|
 Q (.put true 8 7 1) [.a 146,.a 118,.a 149]<|
 Qa [.a 147,I 1]<|
 Qa [.a 118,I 1]<|
 .go 1 [.a 152,.a 153,.a 151]))) (
 Ql [.a 117,I 0]<|
 .ite 122 (
 Qz [.k (.bool false)]<|
 .ret [.a 123]) (
 Qi 33 [.a 55,.a 56,.a 57,.a 58,.a 59,.a 60,.a 61,.a 62,.a 32,.a 33,.a 34,.a 35,.a 36,.a 37,.a 38,.a 39] 1<|
 Qt [.a 123]<|
 .ite 124 (
 Qz [.k (.bool false)]<|
 .ret [.a 125]) (
 Qi 34 [.a 63,.a 40] 1<|
 Qt [.a 125]<|
 .ite 126 (
 Qz [.k (.bool false)]<|
 .ret [.a 127]) (
 .join (
 .loop [.a 127,I 0,.a 58] (
 Qn [.a 130]<|
 Ql [.a 129,.a 131]<|
 .ite 132 (
 Qb [.a 130,.a 129]<|
 Q (.put true 4 0 1) [.a 130,.a 129,.a 128]<|
 Qa [.a 128,I 1]<|
 Qb [.a 134,.a 129]<|
 Q (.put true 4 1 1) [.a 134,.a 129,.a 135]<|
 Qa [.a 135,I 1]<|
 Qb [.a 137,.a 129]<|
 Q (.put true 4 2 1) [.a 137,.a 129,.a 138]<|
 Qa [.a 138,I 1]<|
 Qb [.a 140,.a 129]<|
 Q (.put true 4 3 1) [.a 140,.a 129,.a 141]<|
 Qa [.a 141,I 1]<|
 Qa [.a 129,I 1]<|
 .go 0 [.a 144,.a 145,.a 143]) (
 .loop [.a 128,I 0,.a 59] (
 Qn [.a 135]<|
 Ql [.a 134,.a 136]<|
 .ite 137 (
 Qb [.a 135,.a 134]<|
 Q (.put true 4 0 1) [.a 135,.a 134,.a 133]<|
 Qa [.a 133,I 1]<|
 Qb [.a 139,.a 134]<|
 Q (.put true 4 1 1) [.a 139,.a 134,.a 140]<|
 Qa [.a 140,I 1]<|
 Qb [.a 142,.a 134]<|
 Q (.put true 4 2 1) [.a 142,.a 134,.a 143]<|
 Qa [.a 143,I 1]<|
 Q (.bin .rem) [.a 146,I 3]<|
 Qe [.a 147,I 0]<|
 Qb [.a 145,.a 134]<|
 Q (.put true 4 3 1) [.a 145,.a 134,.a 148]<|
 Qa [.a 146,I 1]<|
 Qa [.a 134,I 1]<|
 .go 0 [.a 151,.a 152,.a 150]) (
 .loop [.a 133,I 0,.a 60] (
 Qn [.a 140]<|
 Ql [.a 139,.a 141]<|
 .ite 142 (
 Qb [.a 140,.a 139]<|
 Q (.put true 1 0 1) [.a 140,.a 139,.a 138]<|
 Qa [.a 138,I 1]<|
 Qa [.a 139,I 1]<|
 .go 0 [.a 145,.a 146,.a 144]) (
 .loop [.a 138,I 0,.a 61] (
 Qn [.a 145]<|
 Ql [.a 144,.a 146]<|
 .ite 147 (
 Qb [.a 145,.a 144]<|
 Q (.put true 8 0 1) [.a 145,.a 144,.a 143]<|
 Qa [.a 143,I 1]<|
 Qb [.a 149,.a 144]<|
 Q (.put true 8 1 1) [.a 149,.a 144,.a 150]<|
 Qa [.a 150,I 1]<|
 Qb [.a 152,.a 144]<|
 Q (.put true 8 2 1) [.a 152,.a 144,.a 153]<|
 Qa [.a 153,I 1]<|
 Qb [.a 155,.a 144]<|
 Q (.put true 8 3 1) [.a 155,.a 144,.a 156]<|
 Qa [.a 156,I 1]<|
 Qb [.a 158,.a 144]<|
 Q (.put true 8 4 1) [.a 158,.a 144,.a 159]<|
 Qa [.a 159,I 1]<|
 Qb [.a 161,.a 144]<|
 Q (.dE 8 5) [.a 161,.a 144]<|
 .loop [.a 162,I 0,.a 161] (
 Q (.dE 8 5) [.a 167,.a 144]<|
 Qn [.a 168]<|
 Ql [.a 166,.a 169]<|
 .ite 170 (
 Q (.dE 8 5) [.a 167,.a 144]<|
 Qb [.a 171,.a 166]<|
 Q (.dE 8 5) [.a 167,.a 144]<|
 Q (.put true 2 0 1) [.a 173,.a 166,.a 165]<|
 Q (.dE 8 5) [.a 167,.a 144]<|
 Q (.iS 8 5) [.a 167,.a 144,.a 174]<|
 Qa [.a 165,I 1]<|
 Q (.dE 8 5) [.a 176,.a 144]<|
 Qb [.a 178,.a 166]<|
 Q (.dE 8 5) [.a 176,.a 144]<|
 Q (.put true 2 1 1) [.a 180,.a 166,.a 177]<|
 Q (.dE 8 5) [.a 176,.a 144]<|
 Q (.iS 8 5) [.a 176,.a 144,.a 181]<|
 Qa [.a 177,I 1]<|
 Qa [.a 166,I 1]<|
 .go 0 [.a 184,.a 185,.a 183]) (
 Qb [.a 167,.a 144]<|
 Q (.put true 8 6 1) [.a 167,.a 144,.a 165]<|
 Qa [.a 165,I 1]<|
 Q (.bin .rem) [.a 173,I 3]<|
 Qe [.a 174,I 0]<|
 Qb [.a 172,.a 144]<|
 Q (.put true 8 7 1) [.a 172,.a 144,.a 175]<|
 Qa [.a 173,I 1]<|
 Qa [.a 144,I 1]<|
 .go 1 [.a 178,.a 179,.a 177]))) (
 .loop [.a 143,I 0,.a 62] (
 Qn [.a 150]<|
 Ql [.a 149,.a 151]<|
 .ite 152 (
 Qb [.a 150,.a 149]<|
 Q (.put true 4 0 1) [.a 150,.a 149,.a 148]<|
 Qa [.a 148,I 1]<|
 Qb [.a 154,.a 149]<|
 Q (.put true 4 1 1) [.a 154,.a 149,.a 155]<|
 Qa [.a 155,I 1]<|
 Qb [.a 157,.a 149]<|
 Q (.put true 4 2 1) [.a 157,.a 149,.a 158]<|
 Qa [.a 158,I 1]<|
 Q (.bin .rem) [.a 161,I 3]<|
 Qe [.a 162,I 0]<|
 Qb [.a 160,.a 149]<|
 Q (.put true 4 3 1) [.a 160,.a 149,.a 163]<|
 Qa [.a 161,I 1]<|
 Qa [.a 149,I 1]<|
 .go 0 [.a 166,.a 167,.a 165]) (
 .loop [.a 148,I 0,.a 63] (
 Qn [.a 155]<|
 Ql [.a 154,.a 156]<|
 .ite 157 (
 Qb [.a 155,.a 154]<|
 Q (.put true 6 0 1) [.a 155,.a 154,.a 153]<|
 Qa [.a 153,I 1]<|
 Qb [.a 159,.a 154]<|
 Q (.put true 6 1 1) [.a 159,.a 154,.a 160]<|
 Qa [.a 160,I 1]<|
 Qb [.a 162,.a 154]<|
 Q (.put true 6 2 1) [.a 162,.a 154,.a 163]<|
 Qa [.a 163,I 1]<|
 Qb [.a 165,.a 154]<|
 Q (.put true 6 3 1) [.a 165,.a 154,.a 166]<|
 Qa [.a 166,I 1]<|
 Qb [.a 168,.a 154]<|
 Q (.dE 6 4) [.a 168,.a 154]<|
 .loop [.a 169,I 0,.a 168] (
 Q (.dE 6 4) [.a 174,.a 154]<|
 Qn [.a 175]<|
 Ql [.a 173,.a 176]<|
 .ite 177 (
 Q (.dE 6 4) [.a 174,.a 154]<|
 Qb [.a 178,.a 173]<|
 Q (.dE 6 4) [.a 174,.a 154]<|
 Q (.put true 1 0 1) [.a 180,.a 173,.a 172]<|
 Q (.dE 6 4) [.a 174,.a 154]<|
 Q (.iS 6 4) [.a 174,.a 154,.a 181]<|
 Qa [.a 172,I 1]<|
 Qa [.a 173,I 1]<|
 .go 0 [.a 184,.a 185,.a 183]) (
 Qb [.a 174,.a 154]<|
 Q (.dE 6 5) [.a 174,.a 154]<|
 .loop [.a 172,I 0,.a 174] (
 Q (.dE 6 5) [.a 182,.a 154]<|
 Qn [.a 183]<|
 Ql [.a 181,.a 184]<|
 .ite 185 (
 Q (.dE 6 5) [.a 182,.a 154]<|
 Qb [.a 186,.a 181]<|
 Q (.dE 6 5) [.a 182,.a 154]<|
 Q (.put true 8 0 1) [.a 188,.a 181,.a 180]<|
 Q (.dE 6 5) [.a 182,.a 154]<|
 Q (.iS 6 5) [.a 182,.a 154,.a 189]<|
 Qa [.a 180,I 1]<|
 Q (.dE 6 5) [.a 191,.a 154]<|
 Qb [.a 193,.a 181]<|
 Q (.dE 6 5) [.a 191,.a 154]<|
 Q (.put true 8 1 1) [.a 195,.a 181,.a 192]<|
 Q (.dE 6 5) [.a 191,.a 154]<|
 Q (.iS 6 5) [.a 191,.a 154,.a 196]<|
 Qa [.a 192,I 1]<|
 Q (.dE 6 5) [.a 198,.a 154]<|
 Qb [.a 200,.a 181]<|
 Q (.dE 6 5) [.a 198,.a 154]<|
 Q (.put true 8 2 1) [.a 202,.a 181,.a 199]<|
 Q (.dE 6 5) [.a 198,.a 154]<|
 Q (.iS 6 5) [.a 198,.a 154,.a 203]<|
 Qa [.a 199,I 1]<|
 Q (.dE 6 5) [.a 205,.a 154]<|
 Qb [.a 207,.a 181]<|
 Q (.dE 6 5) [.a 205,.a 154]<|
 Q (.put true 8 3 1) [.a 209,.a 181,.a 206]<|
 Q (.dE 6 5) [.a 205,.a 154]<|
 Q (.iS 6 5) [.a 205,.a 154,.a 210]<|
 Qa [.a 206,I 1]<|
 Q (.dE 6 5) [.a 212,.a 154]<|
 Qb [.a 214,.a 181]<|
 Q (.dE 6 5) [.a 212,.a 154]<|
 Q (.put true 8 4 1) [.a 216,.a 181,.a 213]<|
 Q (.dE 6 5) [.a 212,.a 154]<|
 Q (.iS 6 5) [.a 212,.a 154,.a 217]<|
 Qa [.a 213,I 1]<|
 Q (.dE 6 5) [.a 219,.a 154]<|
 Qb [.a 221,.a 181]<|
 Q (.dE 6 5) [.a 219,.a 154]<|
 Q (.dE 8 5) [.a 223,.a 181]<|
 .loop [.a 220,I 0,.a 219] (
 Q (.dE 6 5) [.a 227,.a 154]<|
 Q (.dE 8 5) [.a 228,.a 181]<|
 Qn [.a 229]<|
 Ql [.a 226,.a 230]<|
 .ite 231 (
 Q (.dE 6 5) [.a 227,.a 154]<|
 Q (.dE 8 5) [.a 232,.a 181]<|
 Qb [.a 233,.a 226]<|
 Q (.dE 6 5) [.a 227,.a 154]<|
 Q (.dE 8 5) [.a 235,.a 181]<|
 Q (.put true 2 0 1) [.a 236,.a 226,.a 225]<|
 Q (.dE 6 5) [.a 227,.a 154]<|
 Q (.dE 8 5) [.a 238,.a 181]<|
 Q (.iS 8 5) [.a 238,.a 181,.a 237]<|
 Q (.iS 6 5) [.a 227,.a 154,.a 240]<|
 Qa [.a 225,I 1]<|
 Q (.dE 6 5) [.a 241,.a 154]<|
 Q (.dE 8 5) [.a 243,.a 181]<|
 Qb [.a 244,.a 226]<|
 Q (.dE 6 5) [.a 241,.a 154]<|
 Q (.dE 8 5) [.a 246,.a 181]<|
 Q (.put true 2 1 1) [.a 247,.a 226,.a 242]<|
 Q (.dE 6 5) [.a 241,.a 154]<|
 Q (.dE 8 5) [.a 249,.a 181]<|
 Q (.iS 8 5) [.a 249,.a 181,.a 248]<|
 Q (.iS 6 5) [.a 241,.a 154,.a 251]<|
 Qa [.a 242,I 1]<|
 Qa [.a 226,I 1]<|
 .go 0 [.a 253,.a 254,.a 252]) (
 Q (.dE 6 5) [.a 227,.a 154]<|
 Qb [.a 232,.a 181]<|
 Q (.dE 6 5) [.a 227,.a 154]<|
 Q (.put true 8 6 1) [.a 234,.a 181,.a 225]<|
 Q (.dE 6 5) [.a 227,.a 154]<|
 Q (.iS 6 5) [.a 227,.a 154,.a 235]<|
 Qa [.a 225,I 1]<|
 Q (.bin .rem) [.a 238,I 3]<|
 Qe [.a 239,I 0]<|
 Q (.dE 6 5) [.a 237,.a 154]<|
 Qb [.a 241,.a 181]<|
 Q (.dE 6 5) [.a 237,.a 154]<|
 Q (.put true 8 7 1) [.a 243,.a 181,.a 240]<|
 Q (.dE 6 5) [.a 237,.a 154]<|
 Q (.iS 6 5) [.a 237,.a 154,.a 244]<|
 Qa [.a 238,I 1]<|
 Qa [.a 181,I 1]<|
 .go 1 [.a 247,.a 248,.a 246]))) (
 Qa [.a 154,I 1]<|
 .go 2 [.a 180,.a 186,.a 182]))))) (
 .join (
 Qi 37 [.a 55,.a 56,.a 57,.a 130,.a 135,.a 140,.a 145,.a 150,.a 158] 1<|
 Ql [.a 159,I 0]<|
 .ite 160 (
 Qz [.k (.bool false)]<|
 .ret [.a 161]) (
 Qi 38 [.a 155,.a 159] 1<|
 Ql [.a 161,I 0]<|
 .ite 162 (
 Qz [.k (.bool false)]<|
 .ret [.a 163]) (
 Qu [.a 161,.a 153]<|
 .ite 163 (
 Qz [.k (.bool false)]<|
 .ret [.a 164]) (
 Qi 32 [.a 0,.a 1,.a 2,.a 3,.a 4,.a 5,.a 6,.a 7] 8<|
 Qi 40 [.a 8,.a 9,.a 10,.a 11,.a 12,.a 13] 6<|
 Qi 26 [.a 164,.a 165,.a 166,.a 167,.a 168,.a 169,.a 170,.a 171,.a 172,.a 173,.a 174,.a 175,.a 176,.a 177] 9<|
 Qi 33 [.a 178,.a 179,.a 180,.a 181,.a 182,.a 183,.a 184,.a 185,.a 32,.a 33,.a 34,.a 35,.a 36,.a 37,.a 38,.a 39] 1<|
 Qt [.a 187]<|
 .ite 188 (
 Qz [.k (.bool false)]<|
 .ret [.a 189]) (
 Qi 34 [.a 186,.a 40] 1<|
 Qt [.a 189]<|
 .ite 190 (
 Qz [.k (.bool false)]<|
 .ret [.a 191]) (
 .join (
 Qi 37 [.a 55,.a 56,.a 57,.a 130,.a 135,.a 140,.a 145,.a 150,.a 191] 1<|
 Ql [.a 192,I 0]<|
 .ite 193 (
 Qz [.k (.bool false)]<|
 .ret [.a 194]) (
 Qi 38 [.a 155,.a 192] 1<|
 Ql [.a 194,I 0]<|
 .ite 195 (
 Qz [.k (.bool false)]<|
 .ret [.a 196]) (
 Qu [.a 194,.a 153]<|
 .ite 196 (
 Qz [.k (.bool false)]<|
 .ret [.a 197]) (
 Qz [.k (.bool true)]<|
 .ret [.a 197])))) (
 .go 0 [I 1]))))))) (
 .go 0 [I 1])))))))))))))) (
 .go 0 [I 1]))))))))))))))))))) (
 .go 0 [I 1])))))))
def AG:Nat->af:=pick [(26,jf_),(27,q5_),(30,M4),(32,CO),(33,Ds),(34,HU),(37,R0),(38,kC_),(39,NH),(40,Dw),(41,RZ)]
def R1:af:=λts=>eA.den AG rounds [] ts
def jH:=gy.dP dx 7 ⟨[.v true 8,.v true 6],[(false,[.s])]⟩ eA R1 [aqy,aqo,aoO,ao4,ap7,ap8,aqd,aqe,aqf,aqg,abW] Tryz.func7 (by kernel_rfl) (by kernel_rfl) (by kernel_rfl)
end
end Go.Proofs.YtjimmglpkndemaaGreatC

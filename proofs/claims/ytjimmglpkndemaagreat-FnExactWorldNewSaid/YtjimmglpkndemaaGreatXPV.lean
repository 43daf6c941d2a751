/- The walk: what each function does. Conditions: none. -/
import Derived.Test.YtjimmglpkndemaaGreatChecked
import Derived.Test.YtjimmglpkndemaaGreatKe
namespace Go.Proofs.YtjimmglpkndemaaGreatC
noncomputable section
theorem fc{α:Type}{p:α->Prop}{a:α}{l:List α}(h:p a∧∀x∈l,p x):∀x∈a::l,p x:=List.forall_mem_cons.2 h
theorem f0{α:Type}{p:α->Prop}:∀x∈([]:List α),p x:=λ_ h=>nomatch h
def lty:List (Nat×TI):=[
 (3,⟨1,8,false,[.p (.k (.int .i64 0))],0,[],1⟩),
 (4,⟨1,1,false,[.p (.k (.bool false))],0,[],4⟩),
 (24,⟨1,24,false,[.n],185,[],3⟩),
 (25,⟨1,24,false,[.n],122,[],3⟩),
 (27,⟨3,56,true,[.p (.k (.int .i64 0)),.n,.n],0,[(0,1),(1,1),(2,1)],0⟩),
 (28,⟨1,24,false,[.n],3,[],3⟩),
 (29,⟨1,24,false,[.n],39,[],3⟩),
 (31,⟨7,120,true,[.p (.k (.int .i64 0)),.p (.k (.int .i64 0)),.p (.k (.int .i64 0)),.n,.n,.n,.n],0,[(0,1),(1,1),(2,3),(5,1),(6,1)],0⟩),
 (37,⟨1,24,false,[.n],117,[],3⟩),
 (39,⟨8,80,true,[.p (.k (.int .i64 0)),.p (.k (.int .i64 0)),.p (.k (.int .i64 0)),.p (.k (.int .i64 0)),.p (.k (.int .i64 0)),.n,.p (.k (.int .i64 0)),.p (.k (.bool false))],0,[(0,1),(1,1),(2,1),(3,1),(4,1),(5,1),(6,1),(7,1)],0⟩),
 (46,⟨1,24,false,[.n],58,[],3⟩),
 (48,⟨8,144,true,[.p (.k (.int .i64 0)),.p (.k (.int .i64 0)),.p (.k (.int .i64 0)),.n,.n,.n,.n,.n],0,[(0,7),(7,1)],0⟩),
 (50,⟨6,80,true,[.p (.k (.int .i64 0)),.p (.k (.int .i64 0)),.p (.k (.int .i64 0)),.p (.k (.int .i64 0)),.n,.n],0,[(0,1),(1,1),(2,1),(3,1),(4,1),(5,1)],0⟩),
 (53,⟨1,24,false,[.n],50,[],3⟩),
 (58,⟨4,32,true,[.p (.k (.int .i64 0)),.p (.k (.int .i64 0)),.p (.k (.int .i64 0)),.p (.k (.bool false))],0,[(0,1),(1,1),(2,1),(3,1)],5⟩),
 (68,⟨1,24,false,[.n],217,[],3⟩),
 (69,⟨1,24,false,[.n],219,[],3⟩),
 (71,⟨3,56,true,[.p (.k (.int .i64 0)),.n,.n],0,[(0,1),(1,1),(2,1)],0⟩),
 (93,⟨1,24,false,[.n],4,[],3⟩),
 (94,⟨1,24,false,[.n],48,[],3⟩),
 (96,⟨10,208,true,[.p (.k (.int .i64 0)),.n,.n,.n,.n,.n,.n,.n,.n,.p (.k (.int .i64 0))],0,[(0,3),(3,1),(4,1),(5,1),(6,1),(7,1),(8,1),(9,1)],0⟩),
 (117,⟨2,16,true,[.p (.k (.int .i64 0)),.p (.k (.int .i64 0))],0,[(0,1),(1,1)],5⟩),
 (122,⟨4,32,true,[.p (.k (.int .i64 0)),.p (.k (.int .i64 0)),.p (.k (.int .i64 0)),.p (.k (.bool false))],0,[(0,1),(1,1),(2,1),(3,1)],5⟩),
 (185,⟨4,32,true,[.p (.k (.int .i64 0)),.p (.k (.int .i64 0)),.p (.k (.int .i64 0)),.p (.k (.int .i64 0))],0,[(0,1),(1,1),(2,1),(3,1)],5⟩),
 (190,⟨1,24,false,[.n],193,[],3⟩),
 (193,⟨3,40,true,[.p (.k (.int .i64 0)),.p (.k (.int .i64 0)),.n],0,[(0,1),(1,1),(2,1)],0⟩),
 (217,⟨4,32,true,[.p (.k (.int .i64 0)),.p (.k (.int .i64 0)),.p (.k (.int .i64 0)),.p (.k (.int .i64 0))],0,[(0,1),(1,1),(2,1),(3,1)],5⟩),
 (219,⟨4,32,true,[.p (.k (.int .i64 0)),.p (.k (.int .i64 0)),.p (.k (.int .i64 0)),.p (.k (.bool false))],0,[(0,1),(1,1),(2,1),(3,1)],5⟩),
 (236,⟨1,24,false,[.n],28,[],3⟩),
 (238,⟨1,24,false,[.n],190,[],3⟩)]
def hP(n:Nat):Nat×Bool×Rj:=(n,false,.fB false [.p])
def hD(n:Nat):Nat×Bool×Rj:=(n,false,.drop)
def hO(n:Nat):Nat×Bool×Rj:=(n,false,.fB false [.o true])
def hE(l:List Nat):Js:=l.map hD
def aj2:List ((Nat×Nat×Nat)×Js):=[
 ((135,0,0),[hP 4,(7,false,.rows [(0,true)])]),
 ((136,0,0),[hP 4,(7,false,.rows [(0,true)])]),
 ((132,0,0),[hP 2,hP 3]),
 ((132,0,2),[hP 2,hP 4]),
 ((150,0,0),[hP 8,hP 9]),
 ((164,0,0),[hP 2,hP 3]),
 ((229,0,0),[hP 2,hP 3]),
 ((106,0,0),[hP 2,hP 3]),
 ((66,0,0),[hO 3,hP 4]),
 ((78,0,0),[hO 7,hP 8]),
 ((78,2,19),[hO 7]),
 ((20,0,0),[hO 5,hP 6]),
 ((20,2,17),[hO 5]),
 ((165,0,0),[hP 6,(5,true,.fB true [.k,.k,.k,.k,.k,.o true,.k,.k])]),
 ((165,2,25),[(5,true,.fB true [.k,.k,.k,.k,.k,.o true,.k,.k])]),
 ((62,0,0),[(5,false,.fB false [.o false]),hP 6]),
 ((62,0,2),[(5,false,.fB false [.o false]),hP 7]),
 ((62,2,20),[(5,false,.fB false [.o false])]),
 ((62,2,43),[(5,false,.fB false [.o false])]),
 ((67,0,0),[hP 5,hP 6]),
 ((67,2,21),[(7,true,.fB true [.k,.k,.k,.k,.p,.k,.k,.k])]),
 ((63,0,0),[hP 4,hP 5]),
 ((242,0,0),[hP 8,hP 11]),
 ((234,0,0),[hP 6,(10,false,.rows [(0,true)])]),
 ((234,0,2),[hP 9,(10,false,.rows [(0,true)])]),
 ((234,2,48),[(10,false,.rows [(0,true)])]),
 ((100,0,0),[hP 4,hP 5]),
 ((235,0,0),[hO 5,hP 6]),
 ((235,2,19),[hO 5]),
 ((218,0,0),[hP 14,(47,false,.rows [(0,true)])]),
 ((218,0,2),[hP 15,(48,false,.rows [(0,false)]),(49,false,.rows [(0,true)]),(47,false,.rows [(0,true)])]),
 ((218,0,4),[hP 16,hP 17]),
 ((218,0,6),[hP 18,(48,false,.rows [(0,false)]),(47,false,.rows [(0,true)])]),
 ((218,0,8),[hO 7,hP 22]),
 ((218,2,126),[hP 20]),
 ((218,2,147),[(48,false,.rows [(0,false)]),(47,false,.rows [(0,true)])]),
 ((218,2,163),[(48,false,.rows [(0,false)])]),
 ((218,2,180),[hO 7]),
 ((218,2,94),[hP 16]),
 ((221,0,0),[hP 5,hP 6]),
 ((219,0,0),[(8,false,.fB false [.o false]),hP 9]),
 ((219,0,2),[(7,false,.fB false [.o false]),hP 10]),
 ((219,0,4),[hP 12,hP 13,(11,true,.fB true [.p,.p,.p])]),
 ((219,2,56),[(14,true,.fB true [.p,.p,.p])]),
 ((219,2,61),[(7,false,.fB false [.o false])]),
 ((237,0,0),[hP 6,hP 16,(12,true,.fB true [.p,.p,.p])]),
 ((237,2,81),[(18,true,.fB true [.p,.p,.p])]),
 ((220,0,0),[(11,false,.fB false [.o false]),hP 12]),
 ((220,0,2),[(9,false,.fB false [.o false]),hP 13]),
 ((220,0,4),[hP 17,hP 18,(16,true,.fB true [.p,.p,.p])]),
 ((220,2,88),[(9,false,.fB false [.o false])]),
 ((167,0,0),[hO 10,hP 11]),
 ((167,0,2),[hO 9,hP 15]),
 ((167,2,37),[hO 10]),
 ((167,2,84),[(18,true,.fB true [.p,.p,.p]),hP 19]),
 ((167,2,91),[hO 9]),
 ((60,0,0),[(5,false,.fB false [.o false]),hP 6]),
 ((60,0,2),[(7,false,.fB false [.o false]),hP 9]),
 ((60,0,4),[(7,false,.fB false [.o false]),hP 10]),
 ((60,0,6),[hP 3,hP 12]),
 ((60,2,46),[(7,false,.fB false [.o false]),hP 5,hP 40,(41,false,.fB false [.d])]),
 ((60,2,86),[(7,false,.fB false [.o false])]),
 ((19,0,0),[hP 4,hP 5]),
 ((12,0,0),[hP 5,hP 6]),
 ((12,0,2),[hP 5,hP 10]),
 ((12,0,4),[hO 3,hP 13]),
 ((133,0,0),[hP 9,(8,true,.fB true [.k,.k,.k,.k,.k,.k,.k,.o true])]),
 ((133,0,2),[hP 10,(8,true,.fB true [.k,.k,.k,.k,.k,.k,.k,.o true])]),
 ((133,2,38),[(8,true,.fB true [.k,.k,.k,.k,.k,.k,.k,.o true])]),
 ((134,0,0),[hP 5,(0,true,.fB true [.k,.k,.k,.k,.k,.k,.k,.k,.p,.k])]),
 ((134,0,2),[hP 7,hP 8]),
 ((134,2,68),[(0,true,.fB true [.k,.k,.k,.k,.k,.k,.k,.k,.p,.k])]),
 ((44,0,0),[hP 5,(4,true,.fB true [.k,.k,.k,.o true,.k,.k,.k,.k,.k,.k])]),
 ((44,0,2),[hP 6,(4,true,.fB true [.k,.k,.k,.k,.o true,.o true,.o true,.k,.p,.k])]),
 ((68,0,0),[hP 2,hP 26]),
 ((68,0,2),[hP 2,hP 55]),
 ((172,0,0),[hP 8,hP 14]),
 ((70,0,0),[hP 2,hP 3]),
 ((222,0,0),[hP 2,hP 8]),
 ((71,0,0),[hP 2,hP 7]),
 ((56,0,0),[hO 3,hP 8]),
 ((84,0,0),[hP 5]),
 ((84,4,6),[(0,false,.rows [(0,true)])]),
 ((74,0,0),[hO 5,hP 11]),
 ((74,2,24),[hO 5]),
 ((73,0,0),[hO 3,hP 14]),
 ((73,0,2),[hP 7,(6,true,.fB true [.k,.k,.k,.k,.k,.o true,.k,.k])]),
 ((73,2,36),[(6,true,.fB true [.k,.k,.k,.k,.k,.o true,.k,.k])]),
 ((57,0,0),[hP 5]),
 ((57,2,40),[hP 5]),
 ((175,0,0),[hP 4,hP 9]),
 ((76,0,0),[(7,false,.fB false [.o false]),hP 14]),
 ((76,0,2),[(7,false,.fB false [.o false]),hP 34]),
 ((76,2,26),[(7,false,.fB false [.o false])]),
 ((157,0,0),[hP 4,hP 9]),
 ((244,0,0),[hP 8,hP 25]),
 ((227,0,1),[hP 34,(5,true,.fB true [.k,.k,.o true])]),
 ((227,0,3),[hP 47,(5,true,.fB true [.k,.k,.o true])]),
 ((223,0,0),[hP 10,(3,false,.rows [(0,true)])]),
 ((223,2,47),[(12,true,.fB true [.k,.k,.o true])]),
 ((223,2,55),[(3,false,.rows [(0,true)]),(12,true,.fB true [.k,.k,.d])]),
 ((223,2,70),[(3,false,.rows [(0,true)])]),
 ((176,0,0),[hO 8,(30,false,.rows [(0,true)])]),
 ((176,0,2),[hP 9,hP 10]),
 ((176,0,4),[hO 11,hP 84,(30,false,.rows [(0,true)])]),
 ((176,2,68),[hP 9]),
 ((176,2,90),[hO 11,(87,false,.fB true [.k,.k,.d]),(13,true,.fB true [.k,.k,.d])]),
 ((176,5,16),[(7,false,.rows [(0,true)])]),
 ((178,0,0),[hP 5,hP 10]),
 ((177,2,36),[(4,true,.fB false [.o true])]),
 ((225,0,0),[hP 5]),
 ((225,5,7),[(0,false,.rows [(0,true)])]),
 ((179,0,0),[hO 7,hP 14]),
 ((179,0,2),[hO 7,hP 23,(21,false,.rows [(0,false)])]),
 ((180,0,0),[hO 10,hP 23]),
 ((77,0,0),[hO 9,hP 21]),
 ((77,0,2),[hP 43,(13,true,.fB false [.o true]),(41,false,.rows [(0,false)])]),
 ((77,0,4),[hP 58,(13,true,.fB false [.o true]),(56,false,.rows [(0,false)])]),
 ((77,2,27),[hO 9]),
 ((77,2,52),[(13,true,.fB false [.o true])]),
 ((18,0,0),[hO 3,hP 22,(19,false,.rows [(0,false)])]),
 ((18,0,2),[hO 3,hP 48]),
 ((18,0,4),[hO 3,hP 59,(57,false,.rows [(0,false)])]),
 ((18,0,6),[hO 3,hP 72]),
 ((18,2,39),[hO 3,hP 19,hP 4,hP 20]),
 ((18,2,80),[hO 3]),
 ((158,0,0),[hP 4,hP 36]),
 ((159,2,12),[hP 5]),
 ((160,2,8),[(3,true,.fB true [.k,.k,.k,.k,.k,.k,.p,.k])]),
 ((55,0,0),[hO 3,hP 15,(12,false,.rows [(0,false)])]),
 ((55,0,2),[hO 3,hP 46]),
 ((55,2,34),[hO 3,(6,true,.fB true [.k,.k,.k,.k,.p,.k,.k,.k])]),
 ((55,2,66),[hO 3,(10,true,.fB true [.k,.k,.k,.k,.p,.k,.k,.k])]),
 ((11,0,0),[hO 3,hO 6,hP 22]),
 ((87,0,0),[hO 5,hP 6]),
 ((87,0,2),[hO 5,hP 7]),
 ((87,2,23),[hO 5]),
 ((46,0,0),[hP 18,(4,true,.fB true [.k,.k,.k,.o true,.k,.k,.k,.k,.k,.k])]),
 ((46,0,2),[hP 5,(4,true,.fB true [.k,.k,.k,.k,.o true,.o true,.o true,.k,.o true,.k])]),
 ((139,0,0),[hP 4,hP 5]),
 ((140,0,0),[hP 4,hP 5]),
 ((137,0,0),[hP 4,hP 5]),
 ((128,0,0),[hP 4,hP 5]),
 ((232,0,0),[hP 4,hP 5]),
 ((129,0,0),[hP 4,hP 5]),
 ((115,0,0),[hP 4,hP 5]),
 ((138,0,0),[hP 4,hP 5]),
 ((34,0,0),[hP 4,hP 5]),
 ((141,0,0),[hP 1,hP 5,(0,false,.rows [(0,true)])]),
 ((142,0,0),[hP 1,hP 5,(0,false,.rows [(0,true)])]),
 ((143,0,0),[hP 1,hP 5,(0,false,.rows [(0,true)])]),
 ((118,0,0),[hP 1,hP 5,(0,false,.rows [(0,true)])]),
 ((198,0,0),[hP 1,hP 5,(0,false,.rows [(0,true)])]),
 ((119,0,0),[hP 1,hP 5,(0,false,.rows [(0,true)])]),
 ((117,0,0),[hP 1,hP 5,(0,false,.rows [(0,true)])]),
 ((144,0,0),[hP 1,hP 5,(0,false,.rows [(0,true)])]),
 ((36,0,0),[hP 1,hP 5,(0,false,.rows [(0,true)])]),
 ((210,0,0),[hP 1,hP 4,hP 5]),
 ((211,0,0),[hP 1,hP 4,hP 5]),
 ((146,0,0),[hP 1,hP 4,hP 5]),
 ((122,0,0),[hP 1,hP 4,hP 5]),
 ((199,0,0),[hP 1,hP 4,hP 5]),
 ((123,0,0),[hP 1,hP 4,hP 5]),
 ((121,0,0),[hP 1,hP 4,hP 5]),
 ((147,0,0),[hP 1,hP 4,hP 5]),
 ((38,0,0),[hP 1,hP 4,hP 5]),
 ((8,1,12),[hP 9]++hE [0,3,14,15,16,17,18,19,20,21,22,23,24,25,26,27,28,29,30,31,32,33,34,35,36,37,38,39,40,41,42,43,44,45]),
 ((8,1,16),[hP 10,hD 6,hD 8,hD 9,hD 46,hD 47,hD 48,hD 49,hD 50,hD 51,hD 52,hD 53,hD 54,hD 55,hD 56,hD 57,hD 58,hD 59,hD 60,hD 61,(6,true,.fB true [.d,.d,.d])]),
 ((8,1,18),[hP 11,hD 62,hD 63,hD 64]),
 ((8,1,27),[hP 11,hD 1,hD 4,hD 5,hD 12,hD 13,hD 65,hD 66,hD 67,hD 68,hD 69,hD 70,hD 71,hD 72,hD 73,hD 74,hD 75,hD 76,hD 77,hD 78,hD 79,hD 80,hD 81,hD 82,hD 83,hD 84,hD 85,hD 86,hD 87,(1,true,.fB true [.d,.d,.d]),(4,true,.fB true [.d,.d,.d,.d,.d,.d,.d,.d,.d,.d]),(12,true,.fB true [.d,.d,.d,.d,.d,.d,.d,.d,.d,.d])])]
def lfz:List (Nat×Nat×Nat):=[(176,18,1)]
def aj3:List Nat:=[11,141,142,49,143,118,198,119,117,144,36,50,8]
def lfn:List (Nat×Func):=[(134,Tryz.f134),(84,Tryz.f84),(223,Tryz.f223),(177,Tryz.f177),(225,Tryz.f225),(141,Tryz.f141),(142,Tryz.f142),(49,Tryz.f49),(143,Tryz.f143),(118,Tryz.f118),(198,Tryz.f198),(119,Tryz.f119),(117,Tryz.f117),(144,Tryz.f144),(36,Tryz.f36),(50,Tryz.f50)]
def cx:Cx:={ty:=Ak lty,sg:=λ_=>none,fn:=D5 lfn,pV:=Sr aj2,fz:=Ss lfz,nest:=Su aj3}
theorem aj4:fZ Tryz.prog 134:=.mk Tryz.func134 (by kernel_rfl) (by kernel_rfl)
theorem aj5:fZ Tryz.prog 84:=.mk Tryz.func84 (by kernel_rfl) (by kernel_rfl)
theorem aj6:fZ Tryz.prog 223:=.mk Tryz.func223 (by kernel_rfl) (by kernel_rfl)
theorem aj7:fZ Tryz.prog 177:=.mk Tryz.func177 (by kernel_rfl) (by kernel_rfl)
theorem aj8:fZ Tryz.prog 225:=.mk Tryz.func225 (by kernel_rfl) (by kernel_rfl)
theorem aj9:fZ Tryz.prog 141:=.mk Tryz.func141 (by kernel_rfl) (by kernel_rfl)
theorem aj_:fZ Tryz.prog 142:=.mk Tryz.func142 (by kernel_rfl) (by kernel_rfl)
theorem aj':fZ Tryz.prog 49:=.mk Tryz.func49 (by kernel_rfl) (by kernel_rfl)
theorem aka:fZ Tryz.prog 143:=.mk Tryz.func143 (by kernel_rfl) (by kernel_rfl)
theorem akb:fZ Tryz.prog 118:=.mk Tryz.func118 (by kernel_rfl) (by kernel_rfl)
theorem akc:fZ Tryz.prog 198:=.mk Tryz.func198 (by kernel_rfl) (by kernel_rfl)
theorem akd:fZ Tryz.prog 119:=.mk Tryz.func119 (by kernel_rfl) (by kernel_rfl)
theorem ake:fZ Tryz.prog 117:=.mk Tryz.func117 (by kernel_rfl) (by kernel_rfl)
theorem akf:fZ Tryz.prog 144:=.mk Tryz.func144 (by kernel_rfl) (by kernel_rfl)
theorem akg:fZ Tryz.prog 36:=.mk Tryz.func36 (by kernel_rfl) (by kernel_rfl)
theorem akh:fZ Tryz.prog 50:=.mk Tryz.func50 (by kernel_rfl) (by kernel_rfl)
theorem ez:Jk Tryz.prog cx:=⟨afc (l:=lty) (by kernel_rfl) rfl,afd (l:=lfn) (fc ⟨⟨Tryz.func134,aj4⟩,fc ⟨⟨Tryz.func84,aj5⟩,fc ⟨⟨Tryz.func223,aj6⟩,fc ⟨⟨Tryz.func177,aj7⟩,fc ⟨⟨Tryz.func225,aj8⟩,fc ⟨⟨Tryz.func141,aj9⟩,fc ⟨⟨Tryz.func142,aj_⟩,fc ⟨⟨Tryz.func49,aj'⟩,fc ⟨⟨Tryz.func143,aka⟩,fc ⟨⟨Tryz.func118,akb⟩,fc ⟨⟨Tryz.func198,akc⟩,fc ⟨⟨Tryz.func119,akd⟩,fc ⟨⟨Tryz.func117,ake⟩,fc ⟨⟨Tryz.func144,akf⟩,fc ⟨⟨Tryz.func36,akg⟩,fc ⟨⟨Tryz.func50,akh⟩,f0⟩⟩⟩⟩⟩⟩⟩⟩⟩⟩⟩⟩⟩⟩⟩⟩) rfl,by kernel_rfl⟩
structure J where
 g:Nat
 sg:mV
 ks:List (iC Tryz.prog)
 fn:Func
def jo(j:J):Option PL:=yZ (cx.on (Sv j.ks)) 8 j.g j.fn j.sg
def jp(j:J):PL:=(jo j).getD (.ret [])
theorem gs{o:Option PL}{d:PL}(h:o.isSome=true):o=some (o.getD d):=by cases o with|none=>cases h|some x=>rfl
def dS(j:J)(F:af)(hf:Tryz.prog.funcs[j.g]?=some j.fn)(h:(jo j).isSome=true)(h1:((j.fn.name== "runtime.NumGoroutine")||j.fn.body.isNone)=false)(hF:F=Fs (jp j) (kS j.ks)):iC Tryz.prog:=iC.dO ez j.g j.sg (jp j) F j.ks hf (gs h) h1 hF
def qy:PL:=
 .ins (.pr (.len) [.a 0])<|
 .ins (.pr (.bin .sub) [.a 1,.a 2])<|
 .ins (.pr (.bin .lss) [.a 3,.k (.int .i64 0)])<|
 .ite 4 (
 .ins (.pr (.bM) [.k (.int .i64 (-1))])<|
 .ret [.a 5]) (
 .ins (.pr (.bM) [.a 3])<|
 .ret [.a 5])
def TC:Nat->af:=pick []
def Em:af:=λts=>qy.den TC rounds [] ts
def aki:=iC.dO ez 130 ⟨[.v false 1,.v false 1],[(false,[.s])]⟩ qy Em [] Tryz.func130 (by kernel_rfl) (by kernel_rfl) (by kernel_rfl)
def pf:PL:=
 .ins (.pr (.len) [.a 0])<|
 .ins (.pr (.bin .sub) [.a 1,.a 2])<|
 .ins (.pr (.bin .lss) [.a 3,.k (.int .i64 0)])<|
 .ite 4 (
 .ins (.pr (.bM) [.k (.int .i64 (-1))])<|
 .ret [.a 5]) (
 .ins (.pr (.bM) [.a 3])<|
 .ret [.a 5])
def TD:Nat->af:=pick []
def En:af:=λts=>pf.den TD rounds [] ts
def akj:=iC.dO ez 131 ⟨[.v false 1,.v false 1],[(false,[.s])]⟩ pf En [] Tryz.func131 (by kernel_rfl) (by kernel_rfl) (by kernel_rfl)
def mN:PL:=
 .ins (.cl 130 [.a 1,.a 3] 1)<|
 .ins (.pr (.bin .lss) [.a 4,.k (.int .i64 0)])<|
 .ite 5 (
 .ins (.pr (.bM) [.k (.int .i64 (-1))])<|
 .ret [.a 6]) (
 .ins (.cl 131 [.a 2,.a 4] 1)<|
 .ins (.pr (.bin .lss) [.a 6,.k (.int .i64 0)])<|
 .ite 7 (
 .ins (.pr (.bM) [.k (.int .i64 (-1))])<|
 .ret [.a 8]) (
 .ins (.pr (.bM) [.a 6])<|
 .ret [.a 8]))
def JK:Nat->af:=pick [(130,Em),(131,En)]
def JL:af:=λts=>mN.den JK rounds [] ts
def akk:=iC.dO ez 43 ⟨[.v true 3,.v false 1],[(false,[.s])]⟩ mN JL [aki,akj] Tryz.func43 (by kernel_rfl) (by kernel_rfl) (by kernel_rfl)
def pg:PL:=
 .ins (.pr (.bM) [.a 3])<|
 .ins (.pr (.bM) [.a 2])<|
 .ins (.pr (.bM) [.a 1])<|
 .ins (.pr (.bM) [.a 0])<|
 .ret [.a 7,.a 6,.a 5,.a 4]
def akl:Nat->af:=pick []
def Eo:af:=λts=>pg.den akl rounds [] ts
def akm:=iC.dO ez 206 ⟨[.v true 4],[(true,[.s,.s,.s,.s])]⟩ pg Eo [] Tryz.func206 (by kernel_rfl) (by kernel_rfl) (by kernel_rfl)
def qz:PL:=
 .ins (.pr (.len) [.a 0])<|
 .ins (.pr (.mk) [.a 1,.a 1,.k (.int .i64 0),.k (.int .i64 0),.k (.int .i64 0),.k (.int .i64 0)])<|
 .loop [.k (.int .i64 0),.a 2] (
 .ins (.pr (.len) [.a 0])<|
 .ins (.pr (.bin .lss) [.a 3,.a 5])<|
 .ite 6 (
 .ins (.pr (.de) [.a 0,.a 3])<|
 .ins (.pr (.cell 4 0) [.a 0,.a 3])<|
 .ins (.pr (.cell 4 1) [.a 0,.a 3])<|
 .ins (.pr (.cell 4 2) [.a 0,.a 3])<|
 .ins (.pr (.cell 4 3) [.a 0,.a 3])<|
 .ins (.cl 206 [.a 8,.a 9,.a 10,.a 11] 4)<|
 .ins (.pr (.de) [.a 4,.a 3])<|
 .ins (.pr (.put true 4 0 4) [.a 4,.a 3,.a 12,.a 13,.a 14,.a 15])<|
 .ins (.pr (.bin .add) [.a 3,.k (.int .i64 1)])<|
 .go 0 [.a 18,.a 17]) (
 .ret [.a 4]))
def TE:Nat->af:=pick [(206,Eo)]
def Ep:af:=λts=>qz.den TE rounds [] ts
def akn:=iC.dO ez 135 ⟨[.v false 1],[(false,[.o true])]⟩ qz Ep [akm] Tryz.func135 (by kernel_rfl) (by kernel_rfl) (by kernel_rfl)
def nB:PL:=
 .ins (.pr (.bM) [.a 3])<|
 .ins (.pr (.bM) [.a 2])<|
 .ins (.pr (.bM) [.a 1])<|
 .ins (.pr (.bM) [.a 0])<|
 .ret [.a 7,.a 6,.a 5,.a 4]
def ako:Nat->af:=pick []
def Er:af:=λts=>nB.den ako rounds [] ts
def akp:=iC.dO ez 207 ⟨[.v true 4],[(true,[.s,.s,.s,.s])]⟩ nB Er [] Tryz.func207 (by kernel_rfl) (by kernel_rfl) (by kernel_rfl)
def ph:PL:=
 .ins (.pr (.len) [.a 0])<|
 .ins (.pr (.mk) [.a 1,.a 1,.k (.int .i64 0),.k (.int .i64 0),.k (.int .i64 0),.k (.bool false)])<|
 .loop [.k (.int .i64 0),.a 2] (
 .ins (.pr (.len) [.a 0])<|
 .ins (.pr (.bin .lss) [.a 3,.a 5])<|
 .ite 6 (
 .ins (.pr (.de) [.a 0,.a 3])<|
 .ins (.pr (.cell 4 0) [.a 0,.a 3])<|
 .ins (.pr (.cell 4 1) [.a 0,.a 3])<|
 .ins (.pr (.cell 4 2) [.a 0,.a 3])<|
 .ins (.pr (.cell 4 3) [.a 0,.a 3])<|
 .ins (.cl 207 [.a 8,.a 9,.a 10,.a 11] 4)<|
 .ins (.pr (.de) [.a 4,.a 3])<|
 .ins (.pr (.put true 4 0 4) [.a 4,.a 3,.a 12,.a 13,.a 14,.a 15])<|
 .ins (.pr (.bin .add) [.a 3,.k (.int .i64 1)])<|
 .go 0 [.a 18,.a 17]) (
 .ret [.a 4]))
def TF:Nat->af:=pick [(207,Er)]
def Es:af:=λts=>ph.den TF rounds [] ts
def akq:=iC.dO ez 136 ⟨[.v false 1],[(false,[.o true])]⟩ ph Es [akp] Tryz.func136 (by kernel_rfl) (by kernel_rfl) (by kernel_rfl)
def ru:PL:=
 .ins (.cl 135 [.a 1] 1)<|
 .ins (.cl 136 [.a 2] 1)<|
 .ins (.pr (.bM) [.a 0])<|
 .ret [.a 5,.a 3,.a 4]
def JM:Nat->af:=pick [(135,Ep),(136,Es)]
def Av:af:=λts=>ru.den JM rounds [] ts
def akr:=iC.dO ez 45 ⟨[.v true 3],[(true,[.s,.o true,.o true])]⟩ ru Av [akn,akq] Tryz.func45 (by kernel_rfl) (by kernel_rfl) (by kernel_rfl)
def TG:J:=⟨105,⟨[.v false 1,.v false 1,.v false 1],[(false,[.s])]⟩,[],Tryz.f105⟩
def TH:PL:=jp TG
def tw:af:=Fs TH []
def JN:=dS TG tw Tryz.func105 (by kernel_rfl) (by kernel_rfl) (by kernel_rfl)
def TJ:J:=⟨203,⟨[.v false 1,.v true 4],[(false,[.s])]⟩,[JN],Tryz.f203⟩
def TK:PL:=jp TJ
def TL:af:=Fs TK [(105,tw)]
def aks:=dS TJ TL Tryz.func203 (by kernel_rfl) (by kernel_rfl) (by kernel_rfl)
def TM:J:=⟨204,⟨[.v true 4,.v true 4],[(false,[.s])]⟩,[],Tryz.f204⟩
def TN:PL:=jp TM
def TO:af:=Fs TN []
def akt:=dS TM TO Tryz.func204 (by kernel_rfl) (by kernel_rfl) (by kernel_rfl)
def TP:J:=⟨205,⟨[.v true 4,.v true 4],[(false,[.s])]⟩,[],Tryz.f205⟩
def TQ:PL:=jp TP
def TR:af:=Fs TQ []
def aku:=dS TP TR Tryz.func205 (by kernel_rfl) (by kernel_rfl) (by kernel_rfl)
def TS:J:=⟨132,⟨[.v true 3],[(false,[.s])]⟩,[JN,aks,akt,aku],Tryz.f132⟩
def TT:PL:=jp TS
def JO:af:=Fs TT [(105,tw),(203,TL),(204,TO),(205,TR)]
def TU:=dS TS JO Tryz.func132 (by kernel_rfl) (by kernel_rfl) (by kernel_rfl)
def TV:J:=⟨150,⟨[.v true 3,.v false 1,.v false 1,.v false 1],[(false,[.s])]⟩,[],Tryz.f150⟩
def TW:PL:=jp TV
def Aw:af:=Fs TW []
def Et:=dS TV Aw Tryz.func150 (by kernel_rfl) (by kernel_rfl) (by kernel_rfl)
def TX:J:=⟨164,⟨[.v true 7],[(false,[.s])]⟩,[Et],Tryz.f164⟩
def TY:PL:=jp TX
def TZ:af:=Fs TY [(150,Aw)]
def akv:=dS TX TZ Tryz.func164 (by kernel_rfl) (by kernel_rfl) (by kernel_rfl)
def T0:J:=⟨229,⟨[.v true 8],[(false,[.s])]⟩,[JN],Tryz.f229⟩
def T1:PL:=jp T0
def T2:af:=Fs T1 [(105,tw)]
def akw:=dS T0 T2 Tryz.func229 (by kernel_rfl) (by kernel_rfl) (by kernel_rfl)
def T3:J:=⟨195,⟨[.v true 8],[(false,[.s])]⟩,[JN,akw],Tryz.f195⟩
def T4:PL:=jp T3
def T5:af:=Fs T4 [(105,tw),(229,T2)]
def akx:=dS T3 T5 Tryz.func195 (by kernel_rfl) (by kernel_rfl) (by kernel_rfl)
def T6:J:=⟨168,⟨[.v true 8,.v true 8],[(false,[.s])]⟩,[],Tryz.f168⟩
def T7:PL:=jp T6
def JP:af:=Fs T7 []
def T8:=dS T6 JP Tryz.func168 (by kernel_rfl) (by kernel_rfl) (by kernel_rfl)
def T9:J:=⟨106,⟨[.v false 1],[(false,[.s])]⟩,[T8,akx],Tryz.f106⟩
def T_:PL:=jp T9
def Ax:af:=Fs T_ [(168,JP),(195,T5)]
def k6_:=dS T9 Ax Tryz.func106 (by kernel_rfl) (by kernel_rfl) (by kernel_rfl)
def T':J:=⟨58,⟨[.v true 7],[(false,[.s])]⟩,[JN,k6_,TU,akv],Tryz.f58⟩
def Ua:PL:=jp T'
def Eu:af:=Fs Ua [(105,tw),(106,Ax),(132,JO),(164,TZ)]
def JQ:=dS T' Eu Tryz.func58 (by kernel_rfl) (by kernel_rfl) (by kernel_rfl)
def Ub:J:=⟨65,⟨[.v true 8],[(true,[.s,.s,.s,.s,.s,.o true,.s,.s])]⟩,[],Tryz.f65⟩
def Uc:PL:=jp Ub
def xA:af:=Fs Uc []
def Ev:=dS Ub xA Tryz.func65 (by kernel_rfl) (by kernel_rfl) (by kernel_rfl)
def Ud:J:=⟨66,⟨[.v false 1],[(false,[.o true])]⟩,[Ev],Tryz.f66⟩
def Ue:PL:=jp Ud
def BZ:af:=Fs Ue [(65,xA)]
def ke_:=dS Ud BZ Tryz.func66 (by kernel_rfl) (by kernel_rfl) (by kernel_rfl)
def Uf:J:=⟨59,⟨[.v true 7],[(true,[.s,.s,.s,.o true,.o true,.o true,.o true])]⟩,[ke_],Tryz.f59⟩
def Ug:PL:=jp Uf
def GF:af:=Fs Ug [(66,BZ)]
def Uh:=dS Uf GF Tryz.func59 (by kernel_rfl) (by kernel_rfl) (by kernel_rfl)
def Ui:J:=⟨78,⟨[.v true 3,.v false 1,.v false 1],[(false,[.p])]⟩,[Et],Tryz.f78⟩
def Uj:PL:=jp Ui
def Uk:af:=Fs Uj [(150,Aw)]
def akz:=dS Ui Uk Tryz.func78 (by kernel_rfl) (by kernel_rfl) (by kernel_rfl)
def Ul:J:=⟨20,⟨[.v true 3,.v false 1],[(false,[.p])]⟩,[akz],Tryz.f20⟩
def Um:PL:=jp Ul
def JR:af:=Fs Um [(78,Uk)]
def Un:=dS Ul JR Tryz.func20 (by kernel_rfl) (by kernel_rfl) (by kernel_rfl)
def Uo:J:=⟨165,⟨[.v true 7,.v false 1],[(true,[.s,.s,.s,.s,.s,.p,.s,.s])]⟩,[Et],Tryz.f165⟩
def Up:PL:=jp Uo
def Uq:af:=Fs Up [(150,Aw)]
def akA:=dS Uo Uq Tryz.func165 (by kernel_rfl) (by kernel_rfl) (by kernel_rfl)
def Ur:J:=⟨166,⟨[.v true 3,.v false 1],[(false,[.s])]⟩,[Un],Tryz.f166⟩
def Us:PL:=jp Ur
def Ut:af:=Fs Us [(20,JR)]
def akB:=dS Ur Ut Tryz.func166 (by kernel_rfl) (by kernel_rfl) (by kernel_rfl)
def Uu:J:=⟨62,⟨[.v false 1,.v true 8],[(false,[.p])]⟩,[T8],Tryz.f62⟩
def Uv:PL:=jp Uu
def B0:af:=Fs Uv [(168,JP)]
def JS:=dS Uu B0 Tryz.func62 (by kernel_rfl) (by kernel_rfl) (by kernel_rfl)
def Uw:J:=⟨67,⟨[.v false 1,.v false 1],[(false,[.p])]⟩,[JS],Tryz.f67⟩
def Ux:PL:=jp Uw
def JT:af:=Fs Ux [(62,B0)]
def Uy:=dS Uw JT Tryz.func67 (by kernel_rfl) (by kernel_rfl) (by kernel_rfl)
def Uz:J:=⟨72,⟨[.v true 8,.v true 8],[(false,[.s])]⟩,[],Tryz.f72⟩
def UA:PL:=jp Uz
def Ay:af:=Fs UA []
def JU:=dS Uz Ay Tryz.func72 (by kernel_rfl) (by kernel_rfl) (by kernel_rfl)
def UB:J:=⟨63,⟨[.v false 1,.v true 8],[(false,[.s])]⟩,[JU],Tryz.f63⟩
def UC:PL:=jp UB
def Ew:af:=Fs UC [(72,Ay)]
def JV:=dS UB Ew Tryz.func63 (by kernel_rfl) (by kernel_rfl) (by kernel_rfl)
def UD:J:=⟨233,⟨[.v false 1,.v false 1,.v false 1],[(true,[.s,.s,.s,.s,.s,.p,.s,.s]),(false,[.s])]⟩,[JV],Tryz.f233⟩
def UE:PL:=jp UD
def B1:af:=Fs UE [(63,Ew)]
def JW:=dS UD B1 Tryz.func233 (by kernel_rfl) (by kernel_rfl) (by kernel_rfl)
def UF:J:=⟨242,⟨[.v false 1,.v false 1,.v false 1,.v false 1],[(false,[.s])]⟩,[JW],Tryz.f242⟩
def UG:PL:=jp UF
def UH:af:=Fs UG [(233,B1)]
def akC:=dS UF UH Tryz.func242 (by kernel_rfl) (by kernel_rfl) (by kernel_rfl)
def UI:J:=⟨234,⟨[.v false 1,.v false 1],[(false,[.p])]⟩,[JN,JW,akC],Tryz.f234⟩
def UJ:PL:=jp UI
def UK:af:=Fs UJ [(105,tw),(233,B1),(242,UH)]
def akD:=dS UI UK Tryz.func234 (by kernel_rfl) (by kernel_rfl) (by kernel_rfl)
def UL:J:=⟨100,⟨[.v false 1,.v false 1],[(false,[.s])]⟩,[],Tryz.f100⟩
def UM:PL:=jp UL
def Az:af:=Fs UM []
def akE:=dS UL Az Tryz.func100 (by kernel_rfl) (by kernel_rfl) (by kernel_rfl)
def UN:J:=⟨235,⟨[.v false 1,.v false 1],[(false,[.o true])]⟩,[akE],Tryz.f235⟩
def UO:PL:=jp UN
def Ey:af:=Fs UO [(100,Az)]
def UP:=dS UN Ey Tryz.func235 (by kernel_rfl) (by kernel_rfl) (by kernel_rfl)
def UQ:J:=⟨218,⟨[.v false 1,.v false 1,.v false 1],[(false,[.p])]⟩,[JN,k6_,JW,akD,UP],Tryz.f218⟩
def UR:PL:=jp UQ
def Ez:af:=Fs UR [(105,tw),(106,Ax),(233,B1),(234,UK),(235,Ey)]
def JX:=dS UQ Ez Tryz.func218 (by kernel_rfl) (by kernel_rfl) (by kernel_rfl)
def US:J:=⟨238,⟨[.v true 3],[(true,[.s,.s,.p])]⟩,[],Tryz.f238⟩
def UT:PL:=jp US
def JY:af:=Fs UT []
def UU:=dS US JY Tryz.func238 (by kernel_rfl) (by kernel_rfl) (by kernel_rfl)
def UW:J:=⟨221,⟨[.v false 1,.v false 1],[(true,[.s,.s,.p]),(false,[.s])]⟩,[UU],Tryz.f221⟩
def UX:PL:=jp UW
def ym:af:=Fs UX [(238,JY)]
def EA:=dS UW ym Tryz.func221 (by kernel_rfl) (by kernel_rfl) (by kernel_rfl)
def UY:J:=⟨243,⟨[.v true 3,.v true 3],[(false,[.s])]⟩,[],Tryz.f243⟩
def UZ:PL:=jp UY
def U0:af:=Fs UZ []
def akF:=dS UY U0 Tryz.func243 (by kernel_rfl) (by kernel_rfl) (by kernel_rfl)
def U1:J:=⟨236,⟨[.v true 3,.v true 3],[(true,[.s,.s,.p])]⟩,[UP,UU,akF],Tryz.f236⟩
def U2:PL:=jp U1
def JZ:af:=Fs U2 [(235,Ey),(238,JY),(243,U0)]
def U3:=dS U1 JZ Tryz.func236 (by kernel_rfl) (by kernel_rfl) (by kernel_rfl)
def U4:J:=⟨219,⟨[.v false 1,.v false 1,.v false 1],[(false,[.p])]⟩,[JX,EA,U3],Tryz.f219⟩
def U5:PL:=jp U4
def J0:af:=Fs U5 [(218,Ez),(221,ym),(236,JZ)]
def U6:=dS U4 J0 Tryz.func219 (by kernel_rfl) (by kernel_rfl) (by kernel_rfl)
def U7:J:=⟨237,⟨[.v false 1,.v false 1,.v false 1,.v false 1,.v false 1,.v true 3,.v false 1],[(true,[.s,.s,.p]),(false,[.s])]⟩,[EA,U3],Tryz.f237⟩
def U8:PL:=jp U7
def U9:af:=Fs U8 [(221,ym),(236,JZ)]
def akG:=dS U7 U9 Tryz.func237 (by kernel_rfl) (by kernel_rfl) (by kernel_rfl)
def U_:J:=⟨220,⟨[.v false 1,.v false 1,.v false 1,.v false 1],[(false,[.p])]⟩,[k6_,JX,U6,EA,akG],Tryz.f220⟩
def U':PL:=jp U_
def Va:af:=Fs U' [(106,Ax),(218,Ez),(219,J0),(221,ym),(237,U9)]
def akH:=dS U_ Va Tryz.func220 (by kernel_rfl) (by kernel_rfl) (by kernel_rfl)
def Vb:J:=⟨167,⟨[.v false 1,.v false 1,.v false 1,.v false 1],[(false,[.p])]⟩,[k6_,JX,U6,akH,EA],Tryz.f167⟩
def Vc:PL:=jp Vb
def Vd:af:=Fs Vc [(106,Ax),(218,Ez),(219,J0),(220,Va),(221,ym)]
def akI:=dS Vb Vd Tryz.func167 (by kernel_rfl) (by kernel_rfl) (by kernel_rfl)
def Ve:J:=⟨60,⟨[.v true 7],[(false,[.p])]⟩,[Un,JQ,JS,ke_,Uy,akA,akB,akI],Tryz.f60⟩
def Vf:PL:=jp Ve
def Vg:af:=Fs Vf [(20,JR),(58,Eu),(62,B0),(66,BZ),(67,JT),(165,Uq),(166,Ut),(167,Vd)]
def akJ:=dS Ve Vg Tryz.func60 (by kernel_rfl) (by kernel_rfl) (by kernel_rfl)
def Vh:J:=⟨15,⟨[.v false 1,.v true 8],[(true,[.s,.s,.s,.s,.s,.o true,.s,.s]),(false,[.s])]⟩,[JV,Ev],Tryz.f15⟩
def Vi:PL:=jp Vh
def AA:af:=Fs Vi [(63,Ew),(65,xA)]
def akK:=dS Vh AA Tryz.func15 (by kernel_rfl) (by kernel_rfl) (by kernel_rfl)
def Vj:J:=⟨19,⟨[.v true 8,.v true 8],[(false,[.s])]⟩,[JU],Tryz.f19⟩
def Vk:PL:=jp Vj
def Vl:af:=Fs Vk [(72,Ay)]
def akL:=dS Vj Vl Tryz.func19 (by kernel_rfl) (by kernel_rfl) (by kernel_rfl)
def Vm:J:=⟨61,⟨[.v true 7,.v false 1],[(false,[.s])]⟩,[],Tryz.f61⟩
def Vn:PL:=jp Vm
def Vo:af:=Fs Vn []
def akM:=dS Vm Vo Tryz.func61 (by kernel_rfl) (by kernel_rfl) (by kernel_rfl)
def Vp:J:=⟨64,⟨[.v true 8],[(true,[.s,.s,.s,.s,.s,.p,.s,.s])]⟩,[],Tryz.f64⟩
def Vq:PL:=jp Vp
def Vr:af:=Fs Vq []
def akN:=dS Vp Vr Tryz.func64 (by kernel_rfl) (by kernel_rfl) (by kernel_rfl)
def Vs:J:=⟨12,⟨[.v true 7],[(true,[.s,.s,.s,.o true,.o true,.o true,.o true]),(false,[.o true])]⟩,[akK,akL,JQ,Uh,akJ,akM,JS,JV,akN,Ev,ke_,Uy],Tryz.f12⟩
def Vt:PL:=jp Vs
def AB:af:=Fs Vt [(15,AA),(19,Vl),(58,Eu),(59,GF),(60,Vg),(61,Vo),(62,B0),(63,Ew),(64,Vr),(65,xA),(66,BZ),(67,JT)]
def akO:=dS Vs AB Tryz.func12 (by kernel_rfl) (by kernel_rfl) (by kernel_rfl)
def Vu:J:=⟨133,⟨[.v true 3,.v false 1,.v false 1],[(true,[.s,.s,.s,.o true,.o true,.o true,.o true,.o true]),(false,[.s])]⟩,[akO,JQ,Et],Tryz.f133⟩
def Vv:PL:=jp Vu
def Vw:af:=Fs Vv [(12,AB),(58,Eu),(150,Aw)]
def akP:=dS Vu Vw Tryz.func133 (by kernel_rfl) (by kernel_rfl) (by kernel_rfl)
def Vx:J:=⟨97,⟨[.v true 8],[(true,[.s,.s,.s,.o true,.o true,.o true,.o true,.o true])]⟩,[Uh],Tryz.f97⟩
def Vy:PL:=jp Vx
def Vz:af:=Fs Vy [(59,GF)]
def akQ:=dS Vx Vz Tryz.func97 (by kernel_rfl) (by kernel_rfl) (by kernel_rfl)
def VA:J:=⟨44,⟨[.v true 3],[(true,[.s,.p,.p,.p,.p,.p,.p,.p,.p,.s]),(false,[.s])]⟩,[Ev,JU,akQ,TU,akP],Tryz.f44⟩
def VB:PL:=jp VA
def VC:af:=Fs VB [(65,xA),(72,Ay),(97,Vz),(132,JO),(133,Vw)]
def akR:=dS VA VC Tryz.func44 (by kernel_rfl) (by kernel_rfl) (by kernel_rfl)
def VD:J:=⟨69,⟨[.v false 1,.v false 1,.v false 1],[(false,[.s])]⟩,[],Tryz.f69⟩
def VE:PL:=jp VD
def vi:af:=Fs VE []
def xB:=dS VD vi Tryz.func69 (by kernel_rfl) (by kernel_rfl) (by kernel_rfl)
def VF:J:=⟨169,⟨[.v false 1,.v true 4],[(false,[.s])]⟩,[xB],Tryz.f169⟩
def VG:PL:=jp VF
def VH:af:=Fs VG [(69,vi)]
def akS:=dS VF VH Tryz.func169 (by kernel_rfl) (by kernel_rfl) (by kernel_rfl)
def VI:J:=⟨170,⟨[.v true 4,.v true 4],[(false,[.s])]⟩,[],Tryz.f170⟩
def VJ:PL:=jp VI
def AC:af:=Fs VJ []
def akT:=dS VI AC Tryz.func170 (by kernel_rfl) (by kernel_rfl) (by kernel_rfl)
def VK:J:=⟨171,⟨[.v true 4,.v true 4],[(false,[.s])]⟩,[],Tryz.f171⟩
def VL:PL:=jp VK
def AD:af:=Fs VL []
def akU:=dS VK AD Tryz.func171 (by kernel_rfl) (by kernel_rfl) (by kernel_rfl)
def VM:J:=⟨68,⟨[.v true 3],[(false,[.s])]⟩,[xB,akS,akT,akU],Tryz.f68⟩
def VN:PL:=jp VM
def J1:af:=Fs VN [(69,vi),(169,VH),(170,AC),(171,AD)]
def VO:=dS VM J1 Tryz.func68 (by kernel_rfl) (by kernel_rfl) (by kernel_rfl)
def VP:J:=⟨90,⟨[.v true 3],[(true,[.s,.o true,.o true])]⟩,[],Tryz.f90⟩
def VQ:PL:=jp VP
def AE:af:=Fs VQ []
def J2:=dS VP AE Tryz.func90 (by kernel_rfl) (by kernel_rfl) (by kernel_rfl)
def VR:J:=⟨172,⟨[.v true 3,.v false 1,.v false 1,.v false 1],[(false,[.s])]⟩,[],Tryz.f172⟩
def VS:PL:=jp VR
def EB:af:=Fs VS []
def J3:=dS VR EB Tryz.func172 (by kernel_rfl) (by kernel_rfl) (by kernel_rfl)
def VT:J:=⟨70,⟨[.v true 7],[(false,[.s])]⟩,[J3],Tryz.f70⟩
def VU:PL:=jp VT
def VV:af:=Fs VU [(172,EB)]
def akV:=dS VT VV Tryz.func70 (by kernel_rfl) (by kernel_rfl) (by kernel_rfl)
def VW:J:=⟨222,⟨[.v true 8],[(false,[.s])]⟩,[xB],Tryz.f222⟩
def VX:PL:=jp VW
def VY:af:=Fs VX [(69,vi)]
def akW:=dS VW VY Tryz.func222 (by kernel_rfl) (by kernel_rfl) (by kernel_rfl)
def VZ:J:=⟨173,⟨[.v true 8],[(false,[.s])]⟩,[xB,akW],Tryz.f173⟩
def V0:PL:=jp VZ
def V1:af:=Fs V0 [(69,vi),(222,VY)]
def akX:=dS VZ V1 Tryz.func173 (by kernel_rfl) (by kernel_rfl) (by kernel_rfl)
def V2:J:=⟨162,⟨[.v true 8,.v true 8],[(false,[.s])]⟩,[],Tryz.f162⟩
def V3:PL:=jp V2
def J4:af:=Fs V3 []
def V4:=dS V2 J4 Tryz.func162 (by kernel_rfl) (by kernel_rfl) (by kernel_rfl)
def V5:J:=⟨71,⟨[.v false 1],[(false,[.s])]⟩,[V4,akX],Tryz.f71⟩
def V6:PL:=jp V5
def J5:af:=Fs V6 [(162,J4),(173,V1)]
def V7:=dS V5 J5 Tryz.func71 (by kernel_rfl) (by kernel_rfl) (by kernel_rfl)
def V8:J:=⟨13,⟨[.v true 7],[(false,[.s])]⟩,[VO,xB,akV,V7],Tryz.f13⟩
def V9:PL:=jp V8
def EC:af:=Fs V9 [(68,J1),(69,vi),(70,VV),(71,J5)]
def J6:=dS V8 EC Tryz.func13 (by kernel_rfl) (by kernel_rfl) (by kernel_rfl)
def V_:J:=⟨156,⟨[.v false 1],[(false,[.o true])]⟩,[],Tryz.f156⟩
def V':PL:=jp V_
def vj:af:=Fs V' []
def Wa:=dS V_ vj Tryz.func156 (by kernel_rfl) (by kernel_rfl) (by kernel_rfl)
def Wb:J:=⟨161,⟨[.v true 8],[(true,[.s,.s,.s,.s,.s,.o true,.s,.s])]⟩,[],Tryz.f161⟩
def Wc:PL:=jp Wb
def J7:af:=Fs Wc []
def Wd:=dS Wb J7 Tryz.func161 (by kernel_rfl) (by kernel_rfl) (by kernel_rfl)
def We:J:=⟨56,⟨[.v false 1],[(false,[.o true])]⟩,[Wd],Tryz.f56⟩
def Wf:PL:=jp We
def AF:af:=Fs Wf [(161,J7)]
def u6_:=dS We AF Tryz.func56 (by kernel_rfl) (by kernel_rfl) (by kernel_rfl)
def Wg:J:=⟨54,⟨[.v true 7],[(true,[.s,.s,.s,.o true,.o true,.o true,.o true])]⟩,[u6_,J2,Wa],Tryz.f54⟩
def Wh:PL:=jp Wg
def Wi:af:=Fs Wh [(56,AF),(90,AE),(156,vj)]
def akY:=dS Wg Wi Tryz.func54 (by kernel_rfl) (by kernel_rfl) (by kernel_rfl)
def Wj:J:=⟨74,⟨[.v true 3,.v false 1],[(false,[.o true])]⟩,[Wa],Tryz.f74⟩
def Wl:PL:=jp Wj
def ED:af:=Fs Wl [(156,vj)]
def J8:=dS Wj ED Tryz.func74 (by kernel_rfl) (by kernel_rfl) (by kernel_rfl)
def Wm:J:=⟨174,⟨[.v true 3,.v false 1,.v false 1,.v false 1],[(false,[.s])]⟩,[J3],Tryz.f174⟩
def Wn:PL:=jp Wm
def Wo:af:=Fs Wn [(172,EB)]
def akZ:=dS Wm Wo Tryz.func174 (by kernel_rfl) (by kernel_rfl) (by kernel_rfl)
def Wp:J:=⟨73,⟨[.v true 7],[(false,[.o true])]⟩,[J8,akZ],Tryz.f73⟩
def Wq:PL:=jp Wp
def AG:af:=Fs Wq [(74,ED),(174,Wo)]
def ak0:=dS Wp AG Tryz.func73 (by kernel_rfl) (by kernel_rfl) (by kernel_rfl)
def Wr:J:=⟨163,⟨[.v true 8,.v true 8],[(false,[.s])]⟩,[],Tryz.f163⟩
def Ws:PL:=jp Wr
def EE:af:=Fs Ws []
def J9:=dS Wr EE Tryz.func163 (by kernel_rfl) (by kernel_rfl) (by kernel_rfl)
def Wt:J:=⟨57,⟨[.v false 1,.v true 8],[(false,[.o true])]⟩,[u6_,Wd,V4,J9],Tryz.f57⟩
def Wu:PL:=jp Wt
def vU:af:=Fs Wu [(56,AF),(161,J7),(162,J4),(163,EE)]
def AH:=dS Wt vU Tryz.func57 (by kernel_rfl) (by kernel_rfl) (by kernel_rfl)
def Wv:J:=⟨175,⟨[.v false 1,.v false 1],[(false,[.s])]⟩,[],Tryz.f175⟩
def Ww:PL:=jp Wv
def EF:af:=Fs Ww []
def J_:=dS Wv EF Tryz.func175 (by kernel_rfl) (by kernel_rfl) (by kernel_rfl)
def Wx:J:=⟨75,⟨[.v true 3,.v false 1],[(false,[.s])]⟩,[J8,J_],Tryz.f75⟩
def Wy:PL:=jp Wx
def Wz:af:=Fs Wy [(74,ED),(175,EF)]
def ak1:=dS Wx Wz Tryz.func75 (by kernel_rfl) (by kernel_rfl) (by kernel_rfl)
def WC:J:=⟨76,⟨[.v false 1,.v false 1,.v false 1],[(false,[.o false])]⟩,[AH],Tryz.f76⟩
def WD:PL:=jp WC
def AJ:af:=Fs WD [(57,vU)]
def ak2:=dS WC AJ Tryz.func76 (by kernel_rfl) (by kernel_rfl) (by kernel_rfl)
def WE:J:=⟨157,⟨[.v false 1,.v true 8],[(false,[.s])]⟩,[J9],Tryz.f157⟩
def WG:PL:=jp WE
def xC:af:=Fs WG [(163,EE)]
def AK:=dS WE xC Tryz.func157 (by kernel_rfl) (by kernel_rfl) (by kernel_rfl)
def WH:J:=⟨244,⟨[.v false 1,.v false 1,.v false 1,.v false 1],[(false,[.s])]⟩,[AK],Tryz.f244⟩
def WI:PL:=jp WH
def AL:af:=Fs WI [(157,xC)]
def ak3:=dS WH AL Tryz.func244 (by kernel_rfl) (by kernel_rfl) (by kernel_rfl)
def WJ:J:=⟨239,⟨[.v false 1,.v false 1,.v false 1,.v false 1],[(false,[.s])]⟩,[ak3],Tryz.f239⟩
def WK:PL:=jp WJ
def WL:af:=Fs WK [(244,AL)]
def ak4:=dS WJ WL Tryz.func239 (by kernel_rfl) (by kernel_rfl) (by kernel_rfl)
def WM:J:=⟨224,⟨[.v true 3],[(true,[.s,.s,.o true])]⟩,[Wa],Tryz.f224⟩
def WN:PL:=jp WM
def vV:af:=Fs WN [(156,vj)]
def EG:=dS WM vV Tryz.func224 (by kernel_rfl) (by kernel_rfl) (by kernel_rfl)
def WO:J:=⟨227,⟨[.v true 3,.v true 3],[(true,[.s,.s,.o true])]⟩,[Wa,EG],Tryz.f227⟩
def WQ:PL:=jp WO
def xD:af:=Fs WQ [(156,vj),(224,vV)]
def J':=dS WO xD Tryz.func227 (by kernel_rfl) (by kernel_rfl) (by kernel_rfl)
def WR:J:=⟨176,⟨[.v false 1,.v false 1,.v false 1],[(false,[.o true])]⟩,[xB,V7,Wa,AK,J_,J',ak4],Tryz.f176⟩
def WS:PL:=jp WR
def EH:af:=Fs WS [(69,vi),(71,J5),(156,vj),(157,xC),(175,EF),(227,xD),(239,WL)]
def Ka:=dS WR EH Tryz.func176 (by kernel_rfl) (by kernel_rfl) (by kernel_rfl)
def WU:J:=⟨178,⟨[.v false 1,.v false 1],[(true,[.s,.s,.o true]),(false,[.s])]⟩,[EG],Tryz.f178⟩
def WV:PL:=jp WU
def Kb:af:=Fs WV [(224,vV)]
def WW:=dS WU Kb Tryz.func178 (by kernel_rfl) (by kernel_rfl) (by kernel_rfl)
def WX:J:=⟨179,⟨[.v false 1,.v false 1,.v false 1],[(false,[.o true])]⟩,[Ka,EG,J'],Tryz.f179⟩
def WY:PL:=jp WX
def Kc:af:=Fs WY [(176,EH),(224,vV),(227,xD)]
def WZ:=dS WX Kc Tryz.func179 (by kernel_rfl) (by kernel_rfl) (by kernel_rfl)
def W3:J:=⟨180,⟨[.v false 1,.v false 1,.v false 1,.v false 1],[(false,[.o true])]⟩,[J_,Ka,WW,WZ,EG,J'],Tryz.f180⟩
def W4:PL:=jp W3
def W5:af:=Fs W4 [(175,EF),(176,EH),(178,Kb),(179,Kc),(224,vV),(227,xD)]
def ak5:=dS W3 W5 Tryz.func180 (by kernel_rfl) (by kernel_rfl) (by kernel_rfl)
def W6:J:=⟨77,⟨[.v false 1,.v false 1,.v false 1,.v false 1],[(false,[.o true])]⟩,[AH,AK,Ka,WW,WZ,ak5],Tryz.f77⟩
def W7:PL:=jp W6
def W8:af:=Fs W7 [(57,vU),(157,xC),(176,EH),(178,Kb),(179,Kc),(180,W5)]
def ak6:=dS W6 W8 Tryz.func77 (by kernel_rfl) (by kernel_rfl) (by kernel_rfl)
def W9:J:=⟨18,⟨[.v true 7],[(false,[.o true])]⟩,[J6,AH,ak0,J8,ak1,ak2,ak6],Tryz.f18⟩
def W_:PL:=jp W9
def NZ:af:=Fs W_ [(13,EC),(57,vU),(73,AG),(74,ED),(75,Wz),(76,AJ),(77,W8)]
def ak7:=dS W9 NZ Tryz.func18 (by kernel_rfl) (by kernel_rfl) (by kernel_rfl)
def Xa:J:=⟨158,⟨[.v true 8,.v true 8],[(false,[.s])]⟩,[J9],Tryz.f158⟩
def Xb:PL:=jp Xa
def Xc:af:=Fs Xb [(163,EE)]
def ak8:=dS Xa Xc Tryz.func158 (by kernel_rfl) (by kernel_rfl) (by kernel_rfl)
def Xd:J:=⟨159,⟨[.v true 7,.v true 8],[(false,[.s])]⟩,[AK],Tryz.f159⟩
def Xe:PL:=jp Xd
def AM:af:=Fs Xe [(157,xC)]
def ak9:=dS Xd AM Tryz.func159 (by kernel_rfl) (by kernel_rfl) (by kernel_rfl)
def Xf:J:=⟨160,⟨[.v true 8],[(true,[.s,.s,.s,.s,.s,.o true,.s,.s])]⟩,[],Tryz.f160⟩
def Xg:PL:=jp Xf
def AO:af:=Fs Xg []
def ak_:=dS Xf AO Tryz.func160 (by kernel_rfl) (by kernel_rfl) (by kernel_rfl)
def Xh:J:=⟨55,⟨[.v true 7],[(false,[.o true])]⟩,[ak7,AH,AK,ak8,ak9,ak_],Tryz.f55⟩
def Xi:PL:=jp Xh
def AP:af:=Fs Xi [(18,NZ),(57,vU),(157,xC),(158,Xc),(159,AM),(160,AO)]
def ak':=dS Xh AP Tryz.func55 (by kernel_rfl) (by kernel_rfl) (by kernel_rfl)
def Xj:J:=⟨11,⟨[.v true 7],[(true,[.s,.s,.s,.o true,.o true,.o true,.o true]),(false,[.o true])]⟩,[J6,akY,ak',u6_,AH],Tryz.f11⟩
def Xk:PL:=jp Xj
def AQ:af:=Fs Xk [(13,EC),(54,Wi),(55,AP),(56,AF),(57,vU)]
def ala:=dS Xj AQ Tryz.func11 (by kernel_rfl) (by kernel_rfl) (by kernel_rfl)
def Xl:J:=⟨87,⟨[.v true 3,.v false 1],[(false,[.o true])]⟩,[J3],Tryz.f87⟩
def Xm:PL:=jp Xl
def Xn:af:=Fs Xm [(172,EB)]
def alb:=dS Xl Xn Tryz.func87 (by kernel_rfl) (by kernel_rfl) (by kernel_rfl)
def Xo:J:=⟨25,⟨[.v true 3,.v false 1,.v false 1],[(true,[.s,.s,.s,.o true,.o true,.o true,.o true,.o true]),(false,[.s])]⟩,[ala,J6,alb,J2],Tryz.f25⟩
def Xp:PL:=jp Xo
def Xq:af:=Fs Xp [(11,AQ),(13,EC),(87,Xn),(90,AE)]
def alc:=dS Xo Xq Tryz.func25 (by kernel_rfl) (by kernel_rfl) (by kernel_rfl)
def Xr:J:=⟨46,⟨[.v true 3],[(true,[.s,.o true,.o true,.o true,.o true,.o true,.o true,.o true,.o true,.s]),(false,[.s])]⟩,[alc,u6_,VO,J2],Tryz.f46⟩
def Xs:PL:=jp Xr
def Xt:af:=Fs Xs [(25,Xq),(56,AF),(68,J1),(90,AE)]
def ald:=dS Xr Xt Tryz.func46 (by kernel_rfl) (by kernel_rfl) (by kernel_rfl)
def pi:PL:=
 .ins (.pr (.bin .neq) [.a 0,.a 4])<|
 .ite 8 (
 .ins (.pr (.bM) [.k (.bool false)])<|
 .ret [.a 9]) (
 .ins (.pr (.bin .neq) [.a 1,.a 5])<|
 .ite 9 (
 .ins (.pr (.bM) [.k (.bool false)])<|
 .ret [.a 10]) (
 .ins (.pr (.bin .neq) [.a 2,.a 6])<|
 .ite 10 (
 .ins (.pr (.bM) [.k (.bool false)])<|
 .ret [.a 11]) (
 .ins (.pr (.bin .neq) [.a 3,.a 7])<|
 .ite 11 (
 .ins (.pr (.bM) [.k (.bool false)])<|
 .ret [.a 12]) (
 .ins (.pr (.bM) [.k (.bool true)])<|
 .ret [.a 12]))))
def ale:Nat->af:=pick []
def EI:af:=λts=>pi.den ale rounds [] ts
def alf:=iC.dO ez 208 ⟨[.v true 4,.v true 4],[(false,[.s])]⟩ pi EI [] Tryz.func208 (by kernel_rfl) (by kernel_rfl) (by kernel_rfl)
def qA:PL:=
 .ins (.pr (.len) [.a 0])<|
 .ins (.pr (.len) [.a 1])<|
 .ins (.pr (.bin .neq) [.a 2,.a 3])<|
 .ite 4 (
 .ins (.pr (.bM) [.k (.bool false)])<|
 .ret [.a 5]) (
 .loop [.k (.bool false),.k (.int .i64 0)] (
 .ins (.pr (.len) [.a 0])<|
 .ins (.pr (.bin .lss) [.a 6,.a 7])<|
 .ite 8 (
 .ins (.pr (.de) [.a 0,.a 6])<|
 .ins (.pr (.cell 4 0) [.a 0,.a 6])<|
 .ins (.pr (.cell 4 1) [.a 0,.a 6])<|
 .ins (.pr (.cell 4 2) [.a 0,.a 6])<|
 .ins (.pr (.cell 4 3) [.a 0,.a 6])<|
 .ins (.pr (.de) [.a 1,.a 6])<|
 .ins (.pr (.cell 4 0) [.a 1,.a 6])<|
 .ins (.pr (.cell 4 1) [.a 1,.a 6])<|
 .ins (.pr (.cell 4 2) [.a 1,.a 6])<|
 .ins (.pr (.cell 4 3) [.a 1,.a 6])<|
 .ins (.cl 208 [.a 10,.a 11,.a 12,.a 13,.a 15,.a 16,.a 17,.a 18] 1)<|
 .ins (.pr (.un .not) [.a 19])<|
 .ite 20 (
 .ins (.pr (.bM) [.k (.bool false)])<|
 .ret [.a 21]) (
 .ins (.pr (.bin .add) [.a 6,.k (.int .i64 1)])<|
 .go 0 [.a 5,.a 21])) (
 .ins (.pr (.bM) [.k (.bool true)])<|
 .ret [.a 9])))
def Xu:Nat->af:=pick [(208,EI)]
def EJ:af:=λts=>qA.den Xu rounds [] ts
def alg:=iC.dO ez 139 ⟨[.v false 1,.v false 1],[(false,[.s])]⟩ qA EJ [alf] Tryz.func139 (by kernel_rfl) (by kernel_rfl) (by kernel_rfl)
def nC:PL:=
 .ins (.pr (.bin .neq) [.a 0,.a 4])<|
 .ite 8 (
 .ins (.pr (.bM) [.k (.bool false)])<|
 .ret [.a 9]) (
 .ins (.pr (.bin .neq) [.a 1,.a 5])<|
 .ite 9 (
 .ins (.pr (.bM) [.k (.bool false)])<|
 .ret [.a 10]) (
 .ins (.pr (.bin .neq) [.a 2,.a 6])<|
 .ite 10 (
 .ins (.pr (.bM) [.k (.bool false)])<|
 .ret [.a 11]) (
 .ins (.pr (.bb .neq) [.a 3,.a 7])<|
 .ite 11 (
 .ins (.pr (.bM) [.k (.bool false)])<|
 .ret [.a 12]) (
 .ins (.pr (.bM) [.k (.bool true)])<|
 .ret [.a 12]))))
def alh:Nat->af:=pick []
def EK:af:=λts=>nC.den alh rounds [] ts
def ali:=iC.dO ez 209 ⟨[.v true 4,.v true 4],[(false,[.s])]⟩ nC EK [] Tryz.func209 (by kernel_rfl) (by kernel_rfl) (by kernel_rfl)
def pk:PL:=
 .ins (.pr (.len) [.a 0])<|
 .ins (.pr (.len) [.a 1])<|
 .ins (.pr (.bin .neq) [.a 2,.a 3])<|
 .ite 4 (
 .ins (.pr (.bM) [.k (.bool false)])<|
 .ret [.a 5]) (
 .loop [.k (.bool false),.k (.int .i64 0)] (
 .ins (.pr (.len) [.a 0])<|
 .ins (.pr (.bin .lss) [.a 6,.a 7])<|
 .ite 8 (
 .ins (.pr (.de) [.a 0,.a 6])<|
 .ins (.pr (.cell 4 0) [.a 0,.a 6])<|
 .ins (.pr (.cell 4 1) [.a 0,.a 6])<|
 .ins (.pr (.cell 4 2) [.a 0,.a 6])<|
 .ins (.pr (.cell 4 3) [.a 0,.a 6])<|
 .ins (.pr (.de) [.a 1,.a 6])<|
 .ins (.pr (.cell 4 0) [.a 1,.a 6])<|
 .ins (.pr (.cell 4 1) [.a 1,.a 6])<|
 .ins (.pr (.cell 4 2) [.a 1,.a 6])<|
 .ins (.pr (.cell 4 3) [.a 1,.a 6])<|
 .ins (.cl 209 [.a 10,.a 11,.a 12,.a 13,.a 15,.a 16,.a 17,.a 18] 1)<|
 .ins (.pr (.un .not) [.a 19])<|
 .ite 20 (
 .ins (.pr (.bM) [.k (.bool false)])<|
 .ret [.a 21]) (
 .ins (.pr (.bin .add) [.a 6,.k (.int .i64 1)])<|
 .go 0 [.a 5,.a 21])) (
 .ins (.pr (.bM) [.k (.bool true)])<|
 .ret [.a 9])))
def Xv:Nat->af:=pick [(209,EK)]
def EL:af:=λts=>pk.den Xv rounds [] ts
def alj:=iC.dO ez 140 ⟨[.v false 1,.v false 1],[(false,[.s])]⟩ pk EL [ali] Tryz.func140 (by kernel_rfl) (by kernel_rfl) (by kernel_rfl)
def rv:PL:=
 .ins (.pr (.bin .neq) [.a 0,.a 3])<|
 .ite 6 (
 .ins (.pr (.bM) [.k (.bool false)])<|
 .ret [.a 7]) (
 .ins (.cl 139 [.a 1,.a 4] 1)<|
 .ins (.pr (.un .not) [.a 7])<|
 .ite 8 (
 .ins (.pr (.bM) [.k (.bool false)])<|
 .ret [.a 9]) (
 .ins (.cl 140 [.a 2,.a 5] 1)<|
 .ins (.pr (.un .not) [.a 9])<|
 .ite 10 (
 .ins (.pr (.bM) [.k (.bool false)])<|
 .ret [.a 11]) (
 .ins (.pr (.bM) [.k (.bool true)])<|
 .ret [.a 11])))
def Kd:Nat->af:=pick [(139,EJ),(140,EL)]
def EM:af:=λts=>rv.den Kd rounds [] ts
def Ke:=iC.dO ez 48 ⟨[.v true 3,.v true 3],[(false,[.s])]⟩ rv EM [alg,alj] Tryz.func48 (by kernel_rfl) (by kernel_rfl) (by kernel_rfl)
def qB:PL:=
 .ins (.pr (.len) [.a 0])<|
 .ins (.pr (.len) [.a 1])<|
 .ins (.pr (.bin .neq) [.a 2,.a 3])<|
 .ite 4 (
 .ins (.pr (.bM) [.k (.bool false)])<|
 .ret [.a 5]) (
 .loop [.k (.bool false),.k (.int .i64 0)] (
 .ins (.pr (.len) [.a 0])<|
 .ins (.pr (.bin .lss) [.a 6,.a 7])<|
 .ite 8 (
 .ins (.pr (.de) [.a 0,.a 6])<|
 .ins (.pr (.cell 1 0) [.a 0,.a 6])<|
 .ins (.pr (.de) [.a 1,.a 6])<|
 .ins (.pr (.cell 1 0) [.a 1,.a 6])<|
 .ins (.pr (.bb .neq) [.a 10,.a 12])<|
 .ite 13 (
 .ins (.pr (.bM) [.k (.bool false)])<|
 .ret [.a 14]) (
 .ins (.pr (.bin .add) [.a 6,.k (.int .i64 1)])<|
 .go 0 [.a 5,.a 14])) (
 .ins (.pr (.bM) [.k (.bool true)])<|
 .ret [.a 9])))
def Xw:Nat->af:=pick []
def EN:af:=λts=>qB.den Xw rounds [] ts
def alk:=iC.dO ez 137 ⟨[.v false 1,.v false 1],[(false,[.s])]⟩ qB EN [] Tryz.func137 (by kernel_rfl) (by kernel_rfl) (by kernel_rfl)
def tA:PL:=
 .ins (.pr (.len) [.a 0])<|
 .ins (.pr (.len) [.a 1])<|
 .ins (.pr (.bin .neq) [.a 2,.a 3])<|
 .ite 4 (
 .ins (.pr (.bM) [.k (.bool false)])<|
 .ret [.a 5]) (
 .loop [.k (.bool false),.k (.int .i64 0)] (
 .ins (.pr (.len) [.a 0])<|
 .ins (.pr (.bin .lss) [.a 6,.a 7])<|
 .ite 8 (
 .ins (.pr (.de) [.a 0,.a 6])<|
 .ins (.pr (.cell 1 0) [.a 0,.a 6])<|
 .ins (.pr (.de) [.a 1,.a 6])<|
 .ins (.pr (.cell 1 0) [.a 1,.a 6])<|
 .ins (.pr (.bin .neq) [.a 10,.a 12])<|
 .ite 13 (
 .ins (.pr (.bM) [.k (.bool false)])<|
 .ret [.a 14]) (
 .ins (.pr (.bin .add) [.a 6,.k (.int .i64 1)])<|
 .go 0 [.a 5,.a 14])) (
 .ins (.pr (.bM) [.k (.bool true)])<|
 .ret [.a 9])))
def Xx:Nat->af:=pick []
def GH:af:=λts=>tA.den Xx rounds [] ts
def Kf:=iC.dO ez 128 ⟨[.v false 1,.v false 1],[(false,[.s])]⟩ tA GH [] Tryz.func128 (by kernel_rfl) (by kernel_rfl) (by kernel_rfl)
def pn:PL:=
 .ins (.pr (.bin .neq) [.a 0,.a 2])<|
 .ite 4 (
 .ins (.pr (.bM) [.k (.bool false)])<|
 .ret [.a 5]) (
 .ins (.pr (.bin .neq) [.a 1,.a 3])<|
 .ite 5 (
 .ins (.pr (.bM) [.k (.bool false)])<|
 .ret [.a 6]) (
 .ins (.pr (.bM) [.k (.bool true)])<|
 .ret [.a 6]))
def alm:Nat->af:=pick []
def EO:af:=λts=>pn.den alm rounds [] ts
def aln:=iC.dO ez 241 ⟨[.v true 2,.v true 2],[(false,[.s])]⟩ pn EO [] Tryz.func241 (by kernel_rfl) (by kernel_rfl) (by kernel_rfl)
def qC:PL:=
 .ins (.pr (.len) [.a 0])<|
 .ins (.pr (.len) [.a 1])<|
 .ins (.pr (.bin .neq) [.a 2,.a 3])<|
 .ite 4 (
 .ins (.pr (.bM) [.k (.bool false)])<|
 .ret [.a 5]) (
 .loop [.k (.bool false),.k (.int .i64 0)] (
 .ins (.pr (.len) [.a 0])<|
 .ins (.pr (.bin .lss) [.a 6,.a 7])<|
 .ite 8 (
 .ins (.pr (.de) [.a 0,.a 6])<|
 .ins (.pr (.cell 2 0) [.a 0,.a 6])<|
 .ins (.pr (.cell 2 1) [.a 0,.a 6])<|
 .ins (.pr (.de) [.a 1,.a 6])<|
 .ins (.pr (.cell 2 0) [.a 1,.a 6])<|
 .ins (.pr (.cell 2 1) [.a 1,.a 6])<|
 .ins (.cl 241 [.a 10,.a 11,.a 13,.a 14] 1)<|
 .ins (.pr (.un .not) [.a 15])<|
 .ite 16 (
 .ins (.pr (.bM) [.k (.bool false)])<|
 .ret [.a 17]) (
 .ins (.pr (.bin .add) [.a 6,.k (.int .i64 1)])<|
 .go 0 [.a 5,.a 17])) (
 .ins (.pr (.bM) [.k (.bool true)])<|
 .ret [.a 9])))
def Xy:Nat->af:=pick [(241,EO)]
def EP:af:=λts=>qC.den Xy rounds [] ts
def alo:=iC.dO ez 232 ⟨[.v false 1,.v false 1],[(false,[.s])]⟩ qC EP [aln] Tryz.func232 (by kernel_rfl) (by kernel_rfl) (by kernel_rfl)
def me:PL:=
 .ins (.pr (.bin .neq) [.a 0,.a 8])<|
 .ite 16 (
 .ins (.pr (.bM) [.k (.bool false)])<|
 .ret [.a 17]) (
 .ins (.pr (.bin .neq) [.a 1,.a 9])<|
 .ite 17 (
 .ins (.pr (.bM) [.k (.bool false)])<|
 .ret [.a 18]) (
 .ins (.pr (.bin .neq) [.a 2,.a 10])<|
 .ite 18 (
 .ins (.pr (.bM) [.k (.bool false)])<|
 .ret [.a 19]) (
 .ins (.pr (.bin .neq) [.a 3,.a 11])<|
 .ite 19 (
 .ins (.pr (.bM) [.k (.bool false)])<|
 .ret [.a 20]) (
 .ins (.pr (.bin .neq) [.a 4,.a 12])<|
 .ite 20 (
 .ins (.pr (.bM) [.k (.bool false)])<|
 .ret [.a 21]) (
 .ins (.cl 232 [.a 5,.a 13] 1)<|
 .ins (.pr (.un .not) [.a 21])<|
 .ite 22 (
 .ins (.pr (.bM) [.k (.bool false)])<|
 .ret [.a 23]) (
 .ins (.pr (.bin .neq) [.a 6,.a 14])<|
 .ite 23 (
 .ins (.pr (.bM) [.k (.bool false)])<|
 .ret [.a 24]) (
 .ins (.pr (.bb .neq) [.a 7,.a 15])<|
 .ite 24 (
 .ins (.pr (.bM) [.k (.bool false)])<|
 .ret [.a 25]) (
 .ins (.pr (.bM) [.k (.bool true)])<|
 .ret [.a 25]))))))))
def Xz:Nat->af:=pick [(232,EP)]
def EQ:af:=λts=>me.den Xz rounds [] ts
def alp:=iC.dO ez 202 ⟨[.v true 8,.v true 8],[(false,[.s])]⟩ me EQ [alo] Tryz.func202 (by kernel_rfl) (by kernel_rfl) (by kernel_rfl)
def n9:PL:=
 .ins (.pr (.len) [.a 0])<|
 .ins (.pr (.len) [.a 1])<|
 .ins (.pr (.bin .neq) [.a 2,.a 3])<|
 .ite 4 (
 .ins (.pr (.bM) [.k (.bool false)])<|
 .ret [.a 5]) (
 .loop [.k (.bool false),.k (.int .i64 0)] (
 .ins (.pr (.len) [.a 0])<|
 .ins (.pr (.bin .lss) [.a 6,.a 7])<|
 .ite 8 (
 .ins (.pr (.de) [.a 0,.a 6])<|
 .ins (.pr (.cell 8 0) [.a 0,.a 6])<|
 .ins (.pr (.cell 8 1) [.a 0,.a 6])<|
 .ins (.pr (.cell 8 2) [.a 0,.a 6])<|
 .ins (.pr (.cell 8 3) [.a 0,.a 6])<|
 .ins (.pr (.cell 8 4) [.a 0,.a 6])<|
 .ins (.pr (.cell 8 5) [.a 0,.a 6])<|
 .ins (.pr (.cell 8 6) [.a 0,.a 6])<|
 .ins (.pr (.cell 8 7) [.a 0,.a 6])<|
 .ins (.pr (.de) [.a 1,.a 6])<|
 .ins (.pr (.cell 8 0) [.a 1,.a 6])<|
 .ins (.pr (.cell 8 1) [.a 1,.a 6])<|
 .ins (.pr (.cell 8 2) [.a 1,.a 6])<|
 .ins (.pr (.cell 8 3) [.a 1,.a 6])<|
 .ins (.pr (.cell 8 4) [.a 1,.a 6])<|
 .ins (.pr (.cell 8 5) [.a 1,.a 6])<|
 .ins (.pr (.cell 8 6) [.a 1,.a 6])<|
 .ins (.pr (.cell 8 7) [.a 1,.a 6])<|
 .ins (.cl 202 [.a 10,.a 11,.a 12,.a 13,.a 14,.a 15,.a 16,.a 17,.a 19,.a 20,.a 21,.a 22,.a 23,.a 24,.a 25,.a 26] 1)<|
 .ins (.pr (.un .not) [.a 27])<|
 .ite 28 (
 .ins (.pr (.bM) [.k (.bool false)])<|
 .ret [.a 29]) (
 .ins (.pr (.bin .add) [.a 6,.k (.int .i64 1)])<|
 .go 0 [.a 5,.a 29])) (
 .ins (.pr (.bM) [.k (.bool true)])<|
 .ret [.a 9])))
def XA:Nat->af:=pick [(202,EQ)]
def GI:af:=λts=>n9.den XA rounds [] ts
def Kg:=iC.dO ez 129 ⟨[.v false 1,.v false 1],[(false,[.s])]⟩ n9 GI [alp] Tryz.func129 (by kernel_rfl) (by kernel_rfl) (by kernel_rfl)
def po:PL:=
 .ins (.pr (.bin .neq) [.a 0,.a 7])<|
 .ite 14 (
 .ins (.pr (.bM) [.k (.bool false)])<|
 .ret [.a 15]) (
 .ins (.pr (.bin .neq) [.a 1,.a 8])<|
 .ite 15 (
 .ins (.pr (.bM) [.k (.bool false)])<|
 .ret [.a 16]) (
 .ins (.cl 48 [.a 2,.a 3,.a 4,.a 9,.a 10,.a 11] 1)<|
 .ins (.pr (.un .not) [.a 16])<|
 .ite 17 (
 .ins (.pr (.bM) [.k (.bool false)])<|
 .ret [.a 18]) (
 .ins (.cl 128 [.a 5,.a 12] 1)<|
 .ins (.pr (.un .not) [.a 18])<|
 .ite 19 (
 .ins (.pr (.bM) [.k (.bool false)])<|
 .ret [.a 20]) (
 .ins (.cl 129 [.a 6,.a 13] 1)<|
 .ins (.pr (.un .not) [.a 20])<|
 .ite 21 (
 .ins (.pr (.bM) [.k (.bool false)])<|
 .ret [.a 22]) (
 .ins (.pr (.bM) [.k (.bool true)])<|
 .ret [.a 22])))))
def ER:Nat->af:=pick [(48,EM),(128,GH),(129,GI)]
def AR:af:=λts=>po.den ER rounds [] ts
def alq:=iC.dO ez 114 ⟨[.v true 7,.v true 7],[(false,[.s])]⟩ po AR [Ke,Kf,Kg] Tryz.func114 (by kernel_rfl) (by kernel_rfl) (by kernel_rfl)
def ry:PL:=
 .ins (.pr (.bin .neq) [.a 0,.a 4])<|
 .ite 8 (
 .ins (.pr (.bM) [.k (.bool false)])<|
 .ret [.a 9]) (
 .ins (.pr (.bin .neq) [.a 1,.a 5])<|
 .ite 9 (
 .ins (.pr (.bM) [.k (.bool false)])<|
 .ret [.a 10]) (
 .ins (.pr (.bin .neq) [.a 2,.a 6])<|
 .ite 10 (
 .ins (.pr (.bM) [.k (.bool false)])<|
 .ret [.a 11]) (
 .ins (.pr (.bb .neq) [.a 3,.a 7])<|
 .ite 11 (
 .ins (.pr (.bM) [.k (.bool false)])<|
 .ret [.a 12]) (
 .ins (.pr (.bM) [.k (.bool true)])<|
 .ret [.a 12]))))
def alr:Nat->af:=pick []
def ES:af:=λts=>ry.den alr rounds [] ts
def als:=iC.dO ez 197 ⟨[.v true 4,.v true 4],[(false,[.s])]⟩ ry ES [] Tryz.func197 (by kernel_rfl) (by kernel_rfl) (by kernel_rfl)
def tB:PL:=
 .ins (.pr (.len) [.a 0])<|
 .ins (.pr (.len) [.a 1])<|
 .ins (.pr (.bin .neq) [.a 2,.a 3])<|
 .ite 4 (
 .ins (.pr (.bM) [.k (.bool false)])<|
 .ret [.a 5]) (
 .loop [.k (.bool false),.k (.int .i64 0)] (
 .ins (.pr (.len) [.a 0])<|
 .ins (.pr (.bin .lss) [.a 6,.a 7])<|
 .ite 8 (
 .ins (.pr (.de) [.a 0,.a 6])<|
 .ins (.pr (.cell 4 0) [.a 0,.a 6])<|
 .ins (.pr (.cell 4 1) [.a 0,.a 6])<|
 .ins (.pr (.cell 4 2) [.a 0,.a 6])<|
 .ins (.pr (.cell 4 3) [.a 0,.a 6])<|
 .ins (.pr (.de) [.a 1,.a 6])<|
 .ins (.pr (.cell 4 0) [.a 1,.a 6])<|
 .ins (.pr (.cell 4 1) [.a 1,.a 6])<|
 .ins (.pr (.cell 4 2) [.a 1,.a 6])<|
 .ins (.pr (.cell 4 3) [.a 1,.a 6])<|
 .ins (.cl 197 [.a 10,.a 11,.a 12,.a 13,.a 15,.a 16,.a 17,.a 18] 1)<|
 .ins (.pr (.un .not) [.a 19])<|
 .ite 20 (
 .ins (.pr (.bM) [.k (.bool false)])<|
 .ret [.a 21]) (
 .ins (.pr (.bin .add) [.a 6,.k (.int .i64 1)])<|
 .go 0 [.a 5,.a 21])) (
 .ins (.pr (.bM) [.k (.bool true)])<|
 .ret [.a 9])))
def XB:Nat->af:=pick [(197,ES)]
def ET:af:=λts=>tB.den XB rounds [] ts
def alt:=iC.dO ez 115 ⟨[.v false 1,.v false 1],[(false,[.s])]⟩ tB ET [als] Tryz.func115 (by kernel_rfl) (by kernel_rfl) (by kernel_rfl)
def pu:PL:=
 .ins (.cl 114 [.a 0,.a 1,.a 2,.a 3,.a 4,.a 5,.a 6,.a 8,.a 9,.a 10,.a 11,.a 12,.a 13,.a 14] 1)<|
 .ins (.pr (.un .not) [.a 16])<|
 .ite 17 (
 .ins (.pr (.bM) [.k (.bool false)])<|
 .ret [.a 18]) (
 .ins (.cl 115 [.a 7,.a 15] 1)<|
 .ins (.pr (.un .not) [.a 18])<|
 .ite 19 (
 .ins (.pr (.bM) [.k (.bool false)])<|
 .ret [.a 20]) (
 .ins (.pr (.bM) [.k (.bool true)])<|
 .ret [.a 20]))
def Kh:Nat->af:=pick [(114,AR),(115,ET)]
def EU:af:=λts=>pu.den Kh rounds [] ts
def alu:=iC.dO ez 33 ⟨[.v true 8,.v true 8],[(false,[.s])]⟩ pu EU [alq,alt] Tryz.func33 (by kernel_rfl) (by kernel_rfl) (by kernel_rfl)
def qD:PL:=
 .ins (.pr (.len) [.a 0])<|
 .ins (.pr (.len) [.a 1])<|
 .ins (.pr (.bin .neq) [.a 2,.a 3])<|
 .ite 4 (
 .ins (.pr (.bM) [.k (.bool false)])<|
 .ret [.a 5]) (
 .loop [.k (.bool false),.k (.int .i64 0)] (
 .ins (.pr (.len) [.a 0])<|
 .ins (.pr (.bin .lss) [.a 6,.a 7])<|
 .ite 8 (
 .ins (.pr (.de) [.a 0,.a 6])<|
 .ins (.pr (.cell 8 0) [.a 0,.a 6])<|
 .ins (.pr (.cell 8 1) [.a 0,.a 6])<|
 .ins (.pr (.cell 8 2) [.a 0,.a 6])<|
 .ins (.pr (.cell 8 3) [.a 0,.a 6])<|
 .ins (.pr (.cell 8 4) [.a 0,.a 6])<|
 .ins (.pr (.cell 8 5) [.a 0,.a 6])<|
 .ins (.pr (.cell 8 6) [.a 0,.a 6])<|
 .ins (.pr (.cell 8 7) [.a 0,.a 6])<|
 .ins (.pr (.de) [.a 1,.a 6])<|
 .ins (.pr (.cell 8 0) [.a 1,.a 6])<|
 .ins (.pr (.cell 8 1) [.a 1,.a 6])<|
 .ins (.pr (.cell 8 2) [.a 1,.a 6])<|
 .ins (.pr (.cell 8 3) [.a 1,.a 6])<|
 .ins (.pr (.cell 8 4) [.a 1,.a 6])<|
 .ins (.pr (.cell 8 5) [.a 1,.a 6])<|
 .ins (.pr (.cell 8 6) [.a 1,.a 6])<|
 .ins (.pr (.cell 8 7) [.a 1,.a 6])<|
 .ins (.cl 33 [.a 10,.a 11,.a 12,.a 13,.a 14,.a 15,.a 16,.a 17,.a 19,.a 20,.a 21,.a 22,.a 23,.a 24,.a 25,.a 26] 1)<|
 .ins (.pr (.un .not) [.a 27])<|
 .ite 28 (
 .ins (.pr (.bM) [.k (.bool false)])<|
 .ret [.a 29]) (
 .ins (.pr (.bin .add) [.a 6,.k (.int .i64 1)])<|
 .go 0 [.a 5,.a 29])) (
 .ins (.pr (.bM) [.k (.bool true)])<|
 .ret [.a 9])))
def XC:Nat->af:=pick [(33,EU)]
def EV:af:=λts=>qD.den XC rounds [] ts
def alv:=iC.dO ez 138 ⟨[.v false 1,.v false 1],[(false,[.s])]⟩ qD EV [alu] Tryz.func138 (by kernel_rfl) (by kernel_rfl) (by kernel_rfl)
def mf:PL:=
 .ins (.pr (.bin .neq) [.a 0,.a 6])<|
 .ite 12 (
 .ins (.pr (.bM) [.k (.bool false)])<|
 .ret [.a 13]) (
 .ins (.pr (.bin .neq) [.a 1,.a 7])<|
 .ite 13 (
 .ins (.pr (.bM) [.k (.bool false)])<|
 .ret [.a 14]) (
 .ins (.pr (.bin .neq) [.a 2,.a 8])<|
 .ite 14 (
 .ins (.pr (.bM) [.k (.bool false)])<|
 .ret [.a 15]) (
 .ins (.pr (.bin .neq) [.a 3,.a 9])<|
 .ite 15 (
 .ins (.pr (.bM) [.k (.bool false)])<|
 .ret [.a 16]) (
 .ins (.cl 128 [.a 4,.a 10] 1)<|
 .ins (.pr (.un .not) [.a 16])<|
 .ite 17 (
 .ins (.pr (.bM) [.k (.bool false)])<|
 .ret [.a 18]) (
 .ins (.cl 129 [.a 5,.a 11] 1)<|
 .ins (.pr (.un .not) [.a 18])<|
 .ite 19 (
 .ins (.pr (.bM) [.k (.bool false)])<|
 .ret [.a 20]) (
 .ins (.pr (.bM) [.k (.bool true)])<|
 .ret [.a 20]))))))
def Ki:Nat->af:=pick [(128,GH),(129,GI)]
def EW:af:=λts=>mf.den Ki rounds [] ts
def alw:=iC.dO ez 41 ⟨[.v true 6,.v true 6],[(false,[.s])]⟩ mf EW [Kf,Kg] Tryz.func41 (by kernel_rfl) (by kernel_rfl) (by kernel_rfl)
def n_:PL:=
 .ins (.pr (.len) [.a 0])<|
 .ins (.pr (.len) [.a 1])<|
 .ins (.pr (.bin .neq) [.a 2,.a 3])<|
 .ite 4 (
 .ins (.pr (.bM) [.k (.bool false)])<|
 .ret [.a 5]) (
 .loop [.k (.bool false),.k (.int .i64 0)] (
 .ins (.pr (.len) [.a 0])<|
 .ins (.pr (.bin .lss) [.a 6,.a 7])<|
 .ite 8 (
 .ins (.pr (.de) [.a 0,.a 6])<|
 .ins (.pr (.cell 6 0) [.a 0,.a 6])<|
 .ins (.pr (.cell 6 1) [.a 0,.a 6])<|
 .ins (.pr (.cell 6 2) [.a 0,.a 6])<|
 .ins (.pr (.cell 6 3) [.a 0,.a 6])<|
 .ins (.pr (.cell 6 4) [.a 0,.a 6])<|
 .ins (.pr (.cell 6 5) [.a 0,.a 6])<|
 .ins (.pr (.de) [.a 1,.a 6])<|
 .ins (.pr (.cell 6 0) [.a 1,.a 6])<|
 .ins (.pr (.cell 6 1) [.a 1,.a 6])<|
 .ins (.pr (.cell 6 2) [.a 1,.a 6])<|
 .ins (.pr (.cell 6 3) [.a 1,.a 6])<|
 .ins (.pr (.cell 6 4) [.a 1,.a 6])<|
 .ins (.pr (.cell 6 5) [.a 1,.a 6])<|
 .ins (.cl 41 [.a 10,.a 11,.a 12,.a 13,.a 14,.a 15,.a 17,.a 18,.a 19,.a 20,.a 21,.a 22] 1)<|
 .ins (.pr (.un .not) [.a 23])<|
 .ite 24 (
 .ins (.pr (.bM) [.k (.bool false)])<|
 .ret [.a 25]) (
 .ins (.pr (.bin .add) [.a 6,.k (.int .i64 1)])<|
 .go 0 [.a 5,.a 25])) (
 .ins (.pr (.bM) [.k (.bool true)])<|
 .ret [.a 9])))
def XD:Nat->af:=pick [(41,EW)]
def EX:af:=λts=>n_.den XD rounds [] ts
def alx:=iC.dO ez 34 ⟨[.v false 1,.v false 1],[(false,[.s])]⟩ n_ EX [alw] Tryz.func34 (by kernel_rfl) (by kernel_rfl) (by kernel_rfl)
def nD:PL:=
 .ins (.cl 48 [.a 0,.a 1,.a 2,.a 10,.a 11,.a 12] 1)<|
 .ins (.pr (.un .not) [.a 20])<|
 .ite 21 (
 .ins (.pr (.bM) [.k (.bool false)])<|
 .ret [.a 22]) (
 .ins (.cl 137 [.a 3,.a 13] 1)<|
 .ins (.pr (.un .not) [.a 22])<|
 .ite 23 (
 .ins (.pr (.bM) [.k (.bool false)])<|
 .ret [.a 24]) (
 .ins (.cl 137 [.a 4,.a 14] 1)<|
 .ins (.pr (.un .not) [.a 24])<|
 .ite 25 (
 .ins (.pr (.bM) [.k (.bool false)])<|
 .ret [.a 26]) (
 .ins (.cl 128 [.a 5,.a 15] 1)<|
 .ins (.pr (.un .not) [.a 26])<|
 .ite 27 (
 .ins (.pr (.bM) [.k (.bool false)])<|
 .ret [.a 28]) (
 .ins (.cl 138 [.a 6,.a 16] 1)<|
 .ins (.pr (.un .not) [.a 28])<|
 .ite 29 (
 .ins (.pr (.bM) [.k (.bool false)])<|
 .ret [.a 30]) (
 .ins (.cl 34 [.a 7,.a 17] 1)<|
 .ins (.pr (.un .not) [.a 30])<|
 .ite 31 (
 .ins (.pr (.bM) [.k (.bool false)])<|
 .ret [.a 32]) (
 .ins (.cl 129 [.a 8,.a 18] 1)<|
 .ins (.pr (.un .not) [.a 32])<|
 .ite 33 (
 .ins (.pr (.bM) [.k (.bool false)])<|
 .ret [.a 34]) (
 .ins (.pr (.bin .neq) [.a 9,.a 19])<|
 .ite 34 (
 .ins (.pr (.bM) [.k (.bool false)])<|
 .ret [.a 35]) (
 .ins (.pr (.bM) [.k (.bool true)])<|
 .ret [.a 35]))))))))
def Kj:Nat->af:=pick [(34,EX),(48,EM),(128,GH),(129,GI),(137,EN),(138,EV)]
def AS:af:=λts=>nD.den Kj rounds [] ts
def aly:=iC.dO ez 47 ⟨[.v true 10,.v true 10],[(false,[.s])]⟩ nD AS [alx,Ke,Kf,Kg,alk,alv] Tryz.func47 (by kernel_rfl) (by kernel_rfl) (by kernel_rfl)
def oa:PL:=
 .loop [.a 1,.k (.int .i64 0),.k (.int .i64 0)] (
 .ins (.pr (.len) [.a 0])<|
 .ins (.pr (.bin .lss) [.a 4,.a 5])<|
 .ite 6 (
 .ins (.pr (.de) [.a 0,.a 4])<|
 .ins (.pr (.cell 4 0) [.a 0,.a 4])<|
 .ins (.pr (.bin .neq) [.a 8,.a 2])<|
 .ite 9 (
 .ins (.pr (.bM) [.k (.int .i64 (-1))])<|
 .ret [.a 10]) (
 .ins (.pr (.bin .add) [.a 2,.k (.int .i64 1)])<|
 .ins (.pr (.de) [.a 0,.a 4])<|
 .ins (.pr (.cell 4 1) [.a 0,.a 4])<|
 .ins (.pr (.bin .neq) [.a 12,.a 10])<|
 .ite 13 (
 .ins (.pr (.bM) [.k (.int .i64 (-1))])<|
 .ret [.a 14]) (
 .ins (.pr (.bin .add) [.a 10,.k (.int .i64 1)])<|
 .ins (.pr (.de) [.a 0,.a 4])<|
 .ins (.pr (.cell 4 2) [.a 0,.a 4])<|
 .ins (.pr (.bin .neq) [.a 16,.a 14])<|
 .ite 17 (
 .ins (.pr (.bM) [.k (.int .i64 (-1))])<|
 .ret [.a 18]) (
 .ins (.pr (.bin .add) [.a 14,.k (.int .i64 1)])<|
 .ins (.pr (.de) [.a 0,.a 4])<|
 .ins (.pr (.cell 4 3) [.a 0,.a 4])<|
 .ins (.pr (.bin .neq) [.a 20,.a 18])<|
 .ite 21 (
 .ins (.pr (.bM) [.k (.int .i64 (-1))])<|
 .ret [.a 22]) (
 .ins (.pr (.bin .add) [.a 18,.k (.int .i64 1)])<|
 .ins (.pr (.bin .add) [.a 4,.k (.int .i64 1)])<|
 .go 0 [.a 22,.a 3,.a 23]))))) (
 .ins (.pr (.bM) [.a 2])<|
 .ret [.a 7]))
def XE:Nat->af:=pick []
def N0:af:=λts=>oa.den XE rounds [] ts
def XF:=iC.dO ez 210 ⟨[.v false 1,.v false 1],[(false,[.s])]⟩ oa N0 [] Tryz.func210 (by kernel_rfl) (by kernel_rfl) (by kernel_rfl)
def mO:PL:=
 .loop [.a 1,.k (.int .i64 0),.k (.int .i64 0)] (
 .ins (.pr (.len) [.a 0])<|
 .ins (.pr (.bin .lss) [.a 4,.a 5])<|
 .ite 6 (
 .ins (.pr (.de) [.a 0,.a 4])<|
 .ins (.pr (.cell 4 0) [.a 0,.a 4])<|
 .ins (.pr (.bin .neq) [.a 8,.a 2])<|
 .ite 9 (
 .ins (.pr (.bM) [.k (.int .i64 (-1))])<|
 .ret [.a 10]) (
 .ins (.pr (.bin .add) [.a 2,.k (.int .i64 1)])<|
 .ins (.pr (.de) [.a 0,.a 4])<|
 .ins (.pr (.cell 4 1) [.a 0,.a 4])<|
 .ins (.pr (.bin .neq) [.a 12,.a 10])<|
 .ite 13 (
 .ins (.pr (.bM) [.k (.int .i64 (-1))])<|
 .ret [.a 14]) (
 .ins (.pr (.bin .add) [.a 10,.k (.int .i64 1)])<|
 .ins (.pr (.de) [.a 0,.a 4])<|
 .ins (.pr (.cell 4 2) [.a 0,.a 4])<|
 .ins (.pr (.bin .neq) [.a 16,.a 14])<|
 .ite 17 (
 .ins (.pr (.bM) [.k (.int .i64 (-1))])<|
 .ret [.a 18]) (
 .ins (.pr (.bin .add) [.a 14,.k (.int .i64 1)])<|
 .ins (.pr (.de) [.a 0,.a 4])<|
 .ins (.pr (.cell 4 3) [.a 0,.a 4])<|
 .ins (.pr (.bin .rem) [.a 18,.k (.int .i64 3)])<|
 .ins (.pr (.bin .eql) [.a 21,.k (.int .i64 0)])<|
 .ins (.pr (.bb .neq) [.a 20,.a 22])<|
 .ite 23 (
 .ins (.pr (.bM) [.k (.int .i64 (-1))])<|
 .ret [.a 24]) (
 .ins (.pr (.bin .add) [.a 18,.k (.int .i64 1)])<|
 .ins (.pr (.bin .add) [.a 4,.k (.int .i64 1)])<|
 .go 0 [.a 24,.a 3,.a 25]))))) (
 .ins (.pr (.bM) [.a 2])<|
 .ret [.a 7]))
def XG:Nat->af:=pick []
def XH:af:=λts=>mO.den XG rounds [] ts
def XI:=iC.dO ez 211 ⟨[.v false 1,.v false 1],[(false,[.s])]⟩ mO XH [] Tryz.func211 (by kernel_rfl) (by kernel_rfl) (by kernel_rfl)
def nE:PL:=
 .ins (.cl 210 [.a 1,.a 3] 1)<|
 .ins (.pr (.bin .lss) [.a 4,.k (.int .i64 0)])<|
 .ite 5 (
 .ins (.pr (.bM) [.k (.int .i64 (-1))])<|
 .ret [.a 6]) (
 .ins (.cl 211 [.a 2,.a 4] 1)<|
 .ins (.pr (.bin .lss) [.a 6,.k (.int .i64 0)])<|
 .ite 7 (
 .ins (.pr (.bM) [.k (.int .i64 (-1))])<|
 .ret [.a 8]) (
 .ins (.pr (.bM) [.a 6])<|
 .ret [.a 8]))
def Kk:Nat->af:=pick [(210,N0),(211,XH)]
def AU:af:=λts=>nE.den Kk rounds [] ts
def alz:=iC.dO ez 145 ⟨[.v true 3,.v false 1],[(false,[.s])]⟩ nE AU [XF,XI] Tryz.func145 (by kernel_rfl) (by kernel_rfl) (by kernel_rfl)
def od:PL:=
 .loop [.a 1,.k (.int .i64 0),.k (.int .i64 0)] (
 .ins (.pr (.len) [.a 0])<|
 .ins (.pr (.bin .lss) [.a 4,.a 5])<|
 .ite 6 (
 .ins (.pr (.de) [.a 0,.a 4])<|
 .ins (.pr (.cell 1 0) [.a 0,.a 4])<|
 .ins (.pr (.bin .rem) [.a 2,.k (.int .i64 3)])<|
 .ins (.pr (.bin .eql) [.a 9,.k (.int .i64 0)])<|
 .ins (.pr (.bb .neq) [.a 8,.a 10])<|
 .ite 11 (
 .ins (.pr (.bM) [.k (.int .i64 (-1))])<|
 .ret [.a 12]) (
 .ins (.pr (.bin .add) [.a 2,.k (.int .i64 1)])<|
 .ins (.pr (.bin .add) [.a 4,.k (.int .i64 1)])<|
 .go 0 [.a 12,.a 3,.a 13])) (
 .ins (.pr (.bM) [.a 2])<|
 .ret [.a 7]))
def XJ:Nat->af:=pick []
def k5_:af:=λts=>od.den XJ rounds [] ts
def alA:=iC.dO ez 146 ⟨[.v false 1,.v false 1],[(false,[.s])]⟩ od k5_ [] Tryz.func146 (by kernel_rfl) (by kernel_rfl) (by kernel_rfl)
def pw:PL:=
 .loop [.a 1,.k (.int .i64 0),.k (.int .i64 0)] (
 .ins (.pr (.len) [.a 0])<|
 .ins (.pr (.bin .lss) [.a 4,.a 5])<|
 .ite 6 (
 .ins (.pr (.de) [.a 0,.a 4])<|
 .ins (.pr (.cell 1 0) [.a 0,.a 4])<|
 .ins (.pr (.bin .neq) [.a 8,.a 2])<|
 .ite 9 (
 .ins (.pr (.bM) [.k (.int .i64 (-1))])<|
 .ret [.a 10]) (
 .ins (.pr (.bin .add) [.a 2,.k (.int .i64 1)])<|
 .ins (.pr (.bin .add) [.a 4,.k (.int .i64 1)])<|
 .go 0 [.a 10,.a 3,.a 11])) (
 .ins (.pr (.bM) [.a 2])<|
 .ret [.a 7]))
def XK:Nat->af:=pick []
def N1:af:=λts=>pw.den XK rounds [] ts
def Kl:=iC.dO ez 122 ⟨[.v false 1,.v false 1],[(false,[.s])]⟩ pw N1 [] Tryz.func122 (by kernel_rfl) (by kernel_rfl) (by kernel_rfl)
def oe:PL:=
 .loop [.a 1,.k (.int .i64 0),.k (.int .i64 0)] (
 .ins (.pr (.len) [.a 0])<|
 .ins (.pr (.bin .lss) [.a 4,.a 5])<|
 .ite 6 (
 .ins (.pr (.de) [.a 0,.a 4])<|
 .ins (.pr (.cell 2 0) [.a 0,.a 4])<|
 .ins (.pr (.bin .neq) [.a 8,.a 2])<|
 .ite 9 (
 .ins (.pr (.bM) [.k (.int .i64 (-1))])<|
 .ret [.a 10]) (
 .ins (.pr (.bin .add) [.a 2,.k (.int .i64 1)])<|
 .ins (.pr (.de) [.a 0,.a 4])<|
 .ins (.pr (.cell 2 1) [.a 0,.a 4])<|
 .ins (.pr (.bin .neq) [.a 12,.a 10])<|
 .ite 13 (
 .ins (.pr (.bM) [.k (.int .i64 (-1))])<|
 .ret [.a 14]) (
 .ins (.pr (.bin .add) [.a 10,.k (.int .i64 1)])<|
 .ins (.pr (.bin .add) [.a 4,.k (.int .i64 1)])<|
 .go 0 [.a 14,.a 3,.a 15]))) (
 .ins (.pr (.bM) [.a 2])<|
 .ret [.a 7]))
def XL:Nat->af:=pick []
def Km:af:=λts=>oe.den XL rounds [] ts
def alB:=iC.dO ez 199 ⟨[.v false 1,.v false 1],[(false,[.s])]⟩ oe Km [] Tryz.func199 (by kernel_rfl) (by kernel_rfl) (by kernel_rfl)
def lX:PL:=
 .loop [.a 1,.k (.int .i64 0),.k (.int .i64 0)] (
 .ins (.pr (.len) [.a 0])<|
 .ins (.pr (.bin .lss) [.a 4,.a 5])<|
 .ite 6 (
 .ins (.pr (.de) [.a 0,.a 4])<|
 .ins (.pr (.cell 8 0) [.a 0,.a 4])<|
 .ins (.pr (.bin .neq) [.a 8,.a 2])<|
 .ite 9 (
 .ins (.pr (.bM) [.k (.int .i64 (-1))])<|
 .ret [.a 10]) (
 .ins (.pr (.bin .add) [.a 2,.k (.int .i64 1)])<|
 .ins (.pr (.de) [.a 0,.a 4])<|
 .ins (.pr (.cell 8 1) [.a 0,.a 4])<|
 .ins (.pr (.bin .neq) [.a 12,.a 10])<|
 .ite 13 (
 .ins (.pr (.bM) [.k (.int .i64 (-1))])<|
 .ret [.a 14]) (
 .ins (.pr (.bin .add) [.a 10,.k (.int .i64 1)])<|
 .ins (.pr (.de) [.a 0,.a 4])<|
 .ins (.pr (.cell 8 2) [.a 0,.a 4])<|
 .ins (.pr (.bin .neq) [.a 16,.a 14])<|
 .ite 17 (
 .ins (.pr (.bM) [.k (.int .i64 (-1))])<|
 .ret [.a 18]) (
 .ins (.pr (.bin .add) [.a 14,.k (.int .i64 1)])<|
 .ins (.pr (.de) [.a 0,.a 4])<|
 .ins (.pr (.cell 8 3) [.a 0,.a 4])<|
 .ins (.pr (.bin .neq) [.a 20,.a 18])<|
 .ite 21 (
 .ins (.pr (.bM) [.k (.int .i64 (-1))])<|
 .ret [.a 22]) (
 .ins (.pr (.bin .add) [.a 18,.k (.int .i64 1)])<|
 .ins (.pr (.de) [.a 0,.a 4])<|
 .ins (.pr (.cell 8 4) [.a 0,.a 4])<|
 .ins (.pr (.bin .neq) [.a 24,.a 22])<|
 .ite 25 (
 .ins (.pr (.bM) [.k (.int .i64 (-1))])<|
 .ret [.a 26]) (
 .ins (.pr (.bin .add) [.a 22,.k (.int .i64 1)])<|
 .ins (.pr (.de) [.a 0,.a 4])<|
 .ins (.pr (.cell 8 5) [.a 0,.a 4])<|
 .ins (.cl 199 [.a 28,.a 26] 1)<|
 .ins (.pr (.bin .lss) [.a 29,.k (.int .i64 0)])<|
 .ite 30 (
 .ins (.pr (.bM) [.k (.int .i64 (-1))])<|
 .ret [.a 31]) (
 .ins (.pr (.de) [.a 0,.a 4])<|
 .ins (.pr (.cell 8 6) [.a 0,.a 4])<|
 .ins (.pr (.bin .neq) [.a 32,.a 29])<|
 .ite 33 (
 .ins (.pr (.bM) [.k (.int .i64 (-1))])<|
 .ret [.a 34]) (
 .ins (.pr (.bin .add) [.a 29,.k (.int .i64 1)])<|
 .ins (.pr (.de) [.a 0,.a 4])<|
 .ins (.pr (.cell 8 7) [.a 0,.a 4])<|
 .ins (.pr (.bin .rem) [.a 34,.k (.int .i64 3)])<|
 .ins (.pr (.bin .eql) [.a 37,.k (.int .i64 0)])<|
 .ins (.pr (.bb .neq) [.a 36,.a 38])<|
 .ite 39 (
 .ins (.pr (.bM) [.k (.int .i64 (-1))])<|
 .ret [.a 40]) (
 .ins (.pr (.bin .add) [.a 34,.k (.int .i64 1)])<|
 .ins (.pr (.bin .add) [.a 4,.k (.int .i64 1)])<|
 .go 0 [.a 40,.a 3,.a 41]))))))))) (
 .ins (.pr (.bM) [.a 2])<|
 .ret [.a 7]))
def XM:Nat->af:=pick [(199,Km)]
def N2:af:=λts=>lX.den XM rounds [] ts
def Ko:=iC.dO ez 123 ⟨[.v false 1,.v false 1],[(false,[.s])]⟩ lX N2 [alB] Tryz.func123 (by kernel_rfl) (by kernel_rfl) (by kernel_rfl)
def pA:PL:=
 .loop [.a 1,.k (.int .i64 0),.k (.int .i64 0)] (
 .ins (.pr (.len) [.a 0])<|
 .ins (.pr (.bin .lss) [.a 4,.a 5])<|
 .ite 6 (
 .ins (.pr (.de) [.a 0,.a 4])<|
 .ins (.pr (.cell 4 0) [.a 0,.a 4])<|
 .ins (.pr (.bin .neq) [.a 8,.a 2])<|
 .ite 9 (
 .ins (.pr (.bM) [.k (.int .i64 (-1))])<|
 .ret [.a 10]) (
 .ins (.pr (.bin .add) [.a 2,.k (.int .i64 1)])<|
 .ins (.pr (.de) [.a 0,.a 4])<|
 .ins (.pr (.cell 4 1) [.a 0,.a 4])<|
 .ins (.pr (.bin .neq) [.a 12,.a 10])<|
 .ite 13 (
 .ins (.pr (.bM) [.k (.int .i64 (-1))])<|
 .ret [.a 14]) (
 .ins (.pr (.bin .add) [.a 10,.k (.int .i64 1)])<|
 .ins (.pr (.de) [.a 0,.a 4])<|
 .ins (.pr (.cell 4 2) [.a 0,.a 4])<|
 .ins (.pr (.bin .neq) [.a 16,.a 14])<|
 .ite 17 (
 .ins (.pr (.bM) [.k (.int .i64 (-1))])<|
 .ret [.a 18]) (
 .ins (.pr (.bin .add) [.a 14,.k (.int .i64 1)])<|
 .ins (.pr (.de) [.a 0,.a 4])<|
 .ins (.pr (.cell 4 3) [.a 0,.a 4])<|
 .ins (.pr (.bin .rem) [.a 18,.k (.int .i64 3)])<|
 .ins (.pr (.bin .eql) [.a 21,.k (.int .i64 0)])<|
 .ins (.pr (.bb .neq) [.a 20,.a 22])<|
 .ite 23 (
 .ins (.pr (.bM) [.k (.int .i64 (-1))])<|
 .ret [.a 24]) (
 .ins (.pr (.bin .add) [.a 18,.k (.int .i64 1)])<|
 .ins (.pr (.bin .add) [.a 4,.k (.int .i64 1)])<|
 .go 0 [.a 24,.a 3,.a 25]))))) (
 .ins (.pr (.bM) [.a 2])<|
 .ret [.a 7]))
def XN:Nat->af:=pick []
def Kp:af:=λts=>pA.den XN rounds [] ts
def alC:=iC.dO ez 121 ⟨[.v false 1,.v false 1],[(false,[.s])]⟩ pA Kp [] Tryz.func121 (by kernel_rfl) (by kernel_rfl) (by kernel_rfl)
def og:PL:=
 .loop [.a 1,.k (.int .i64 0),.k (.int .i64 0)] (
 .ins (.pr (.len) [.a 0])<|
 .ins (.pr (.bin .lss) [.a 4,.a 5])<|
 .ite 6 (
 .ins (.pr (.de) [.a 0,.a 4])<|
 .ins (.pr (.cell 8 0) [.a 0,.a 4])<|
 .ins (.pr (.bin .neq) [.a 8,.a 2])<|
 .ite 9 (
 .ins (.pr (.bM) [.k (.int .i64 (-1))])<|
 .ret [.a 10]) (
 .ins (.pr (.bin .add) [.a 2,.k (.int .i64 1)])<|
 .ins (.pr (.de) [.a 0,.a 4])<|
 .ins (.pr (.cell 8 1) [.a 0,.a 4])<|
 .ins (.pr (.bin .neq) [.a 12,.a 10])<|
 .ite 13 (
 .ins (.pr (.bM) [.k (.int .i64 (-1))])<|
 .ret [.a 14]) (
 .ins (.pr (.bin .add) [.a 10,.k (.int .i64 1)])<|
 .ins (.pr (.de) [.a 0,.a 4])<|
 .ins (.pr (.cell 8 2) [.a 0,.a 4])<|
 .ins (.pr (.bin .neq) [.a 16,.a 14])<|
 .ite 17 (
 .ins (.pr (.bM) [.k (.int .i64 (-1))])<|
 .ret [.a 18]) (
 .ins (.pr (.bin .add) [.a 14,.k (.int .i64 1)])<|
 .ins (.pr (.de) [.a 0,.a 4])<|
 .ins (.pr (.cell 8 3) [.a 0,.a 4])<|
 .ins (.cl 210 [.a 20,.a 18] 1)<|
 .ins (.pr (.bin .lss) [.a 21,.k (.int .i64 0)])<|
 .ite 22 (
 .ins (.pr (.bM) [.k (.int .i64 (-1))])<|
 .ret [.a 23]) (
 .ins (.pr (.de) [.a 0,.a 4])<|
 .ins (.pr (.cell 8 4) [.a 0,.a 4])<|
 .ins (.cl 211 [.a 24,.a 21] 1)<|
 .ins (.pr (.bin .lss) [.a 25,.k (.int .i64 0)])<|
 .ite 26 (
 .ins (.pr (.bM) [.k (.int .i64 (-1))])<|
 .ret [.a 27]) (
 .ins (.pr (.de) [.a 0,.a 4])<|
 .ins (.pr (.cell 8 5) [.a 0,.a 4])<|
 .ins (.cl 122 [.a 28,.a 25] 1)<|
 .ins (.pr (.bin .lss) [.a 29,.k (.int .i64 0)])<|
 .ite 30 (
 .ins (.pr (.bM) [.k (.int .i64 (-1))])<|
 .ret [.a 31]) (
 .ins (.pr (.de) [.a 0,.a 4])<|
 .ins (.pr (.cell 8 6) [.a 0,.a 4])<|
 .ins (.cl 123 [.a 32,.a 29] 1)<|
 .ins (.pr (.bin .lss) [.a 33,.k (.int .i64 0)])<|
 .ite 34 (
 .ins (.pr (.bM) [.k (.int .i64 (-1))])<|
 .ret [.a 35]) (
 .ins (.pr (.de) [.a 0,.a 4])<|
 .ins (.pr (.cell 8 7) [.a 0,.a 4])<|
 .ins (.cl 121 [.a 36,.a 33] 1)<|
 .ins (.pr (.bin .lss) [.a 37,.k (.int .i64 0)])<|
 .ite 38 (
 .ins (.pr (.bM) [.k (.int .i64 (-1))])<|
 .ret [.a 39]) (
 .ins (.pr (.bin .add) [.a 4,.k (.int .i64 1)])<|
 .go 0 [.a 37,.a 3,.a 39]))))))))) (
 .ins (.pr (.bM) [.a 2])<|
 .ret [.a 7]))
def XO:Nat->af:=pick [(121,Kp),(122,N1),(123,N2),(210,N0),(211,XH)]
def k8_:af:=λts=>og.den XO rounds [] ts
def alD:=iC.dO ez 147 ⟨[.v false 1,.v false 1],[(false,[.s])]⟩ og k8_ [alC,Kl,Ko,XF,XI] Tryz.func147 (by kernel_rfl) (by kernel_rfl) (by kernel_rfl)
def lY:PL:=
 .loop [.a 1,.k (.int .i64 0),.k (.int .i64 0)] (
 .ins (.pr (.len) [.a 0])<|
 .ins (.pr (.bin .lss) [.a 4,.a 5])<|
 .ite 6 (
 .ins (.pr (.de) [.a 0,.a 4])<|
 .ins (.pr (.cell 6 0) [.a 0,.a 4])<|
 .ins (.pr (.bin .neq) [.a 8,.a 2])<|
 .ite 9 (
 .ins (.pr (.bM) [.k (.int .i64 (-1))])<|
 .ret [.a 10]) (
 .ins (.pr (.bin .add) [.a 2,.k (.int .i64 1)])<|
 .ins (.pr (.de) [.a 0,.a 4])<|
 .ins (.pr (.cell 6 1) [.a 0,.a 4])<|
 .ins (.pr (.bin .neq) [.a 12,.a 10])<|
 .ite 13 (
 .ins (.pr (.bM) [.k (.int .i64 (-1))])<|
 .ret [.a 14]) (
 .ins (.pr (.bin .add) [.a 10,.k (.int .i64 1)])<|
 .ins (.pr (.de) [.a 0,.a 4])<|
 .ins (.pr (.cell 6 2) [.a 0,.a 4])<|
 .ins (.pr (.bin .neq) [.a 16,.a 14])<|
 .ite 17 (
 .ins (.pr (.bM) [.k (.int .i64 (-1))])<|
 .ret [.a 18]) (
 .ins (.pr (.bin .add) [.a 14,.k (.int .i64 1)])<|
 .ins (.pr (.de) [.a 0,.a 4])<|
 .ins (.pr (.cell 6 3) [.a 0,.a 4])<|
 .ins (.pr (.bin .neq) [.a 20,.a 18])<|
 .ite 21 (
 .ins (.pr (.bM) [.k (.int .i64 (-1))])<|
 .ret [.a 22]) (
 .ins (.pr (.bin .add) [.a 18,.k (.int .i64 1)])<|
 .ins (.pr (.de) [.a 0,.a 4])<|
 .ins (.pr (.cell 6 4) [.a 0,.a 4])<|
 .ins (.cl 122 [.a 24,.a 22] 1)<|
 .ins (.pr (.bin .lss) [.a 25,.k (.int .i64 0)])<|
 .ite 26 (
 .ins (.pr (.bM) [.k (.int .i64 (-1))])<|
 .ret [.a 27]) (
 .ins (.pr (.de) [.a 0,.a 4])<|
 .ins (.pr (.cell 6 5) [.a 0,.a 4])<|
 .ins (.cl 123 [.a 28,.a 25] 1)<|
 .ins (.pr (.bin .lss) [.a 29,.k (.int .i64 0)])<|
 .ite 30 (
 .ins (.pr (.bM) [.k (.int .i64 (-1))])<|
 .ret [.a 31]) (
 .ins (.pr (.bin .add) [.a 4,.k (.int .i64 1)])<|
 .go 0 [.a 29,.a 3,.a 31]))))))) (
 .ins (.pr (.bM) [.a 2])<|
 .ret [.a 7]))
def XP:Nat->af:=pick [(122,N1),(123,N2)]
def jF_:af:=λts=>lY.den XP rounds [] ts
def alE:=iC.dO ez 38 ⟨[.v false 1,.v false 1],[(false,[.s])]⟩ lY jF_ [Kl,Ko] Tryz.func38 (by kernel_rfl) (by kernel_rfl) (by kernel_rfl)
def kZ:PL:=
 .ins (.cl 145 [.a 0,.a 1,.a 2,.a 10] 1)<|
 .ins (.pr (.bin .lss) [.a 11,.k (.int .i64 0)])<|
 .ite 12 (
 .ins (.pr (.bM) [.k (.int .i64 (-1))])<|
 .ret [.a 13]) (
 .ins (.cl 146 [.a 3,.a 11] 1)<|
 .ins (.pr (.bin .lss) [.a 13,.k (.int .i64 0)])<|
 .ite 14 (
 .ins (.pr (.bM) [.k (.int .i64 (-1))])<|
 .ret [.a 15]) (
 .ins (.cl 146 [.a 4,.a 13] 1)<|
 .ins (.pr (.bin .lss) [.a 15,.k (.int .i64 0)])<|
 .ite 16 (
 .ins (.pr (.bM) [.k (.int .i64 (-1))])<|
 .ret [.a 17]) (
 .ins (.cl 122 [.a 5,.a 15] 1)<|
 .ins (.pr (.bin .lss) [.a 17,.k (.int .i64 0)])<|
 .ite 18 (
 .ins (.pr (.bM) [.k (.int .i64 (-1))])<|
 .ret [.a 19]) (
 .ins (.cl 147 [.a 6,.a 17] 1)<|
 .ins (.pr (.bin .lss) [.a 19,.k (.int .i64 0)])<|
 .ite 20 (
 .ins (.pr (.bM) [.k (.int .i64 (-1))])<|
 .ret [.a 21]) (
 .ins (.cl 38 [.a 7,.a 19] 1)<|
 .ins (.pr (.bin .lss) [.a 21,.k (.int .i64 0)])<|
 .ite 22 (
 .ins (.pr (.bM) [.k (.int .i64 (-1))])<|
 .ret [.a 23]) (
 .ins (.cl 123 [.a 8,.a 21] 1)<|
 .ins (.pr (.bin .lss) [.a 23,.k (.int .i64 0)])<|
 .ite 24 (
 .ins (.pr (.bM) [.k (.int .i64 (-1))])<|
 .ret [.a 25]) (
 .ins (.pr (.bM) [.a 23])<|
 .ret [.a 25])))))))
def Kq:Nat->af:=pick [(38,jF_),(122,N1),(123,N2),(145,AU),(146,k5_),(147,k8_)]
def XQ:af:=λts=>kZ.den Kq rounds [] ts
def alF:=iC.dO ez 51 ⟨[.v true 10,.v false 1],[(false,[.s])]⟩ kZ XQ [alE,Kl,Ko,alz,alA,alD] Tryz.func51 (by kernel_rfl) (by kernel_rfl) (by kernel_rfl)
def dV:PL:=
 Qi 43 [.a 0,.a 1,.a 2,I 1048576] 1<|
 Ql [.a 3,I 0]<|
 .ite 4 (
 Qz [.k (.bool true)]<|
 .ret [.a 5]) (
 Qi 45 [.a 0,.a 1,.a 2] 3<|
 Qi 44 [.a 5,.a 6,.a 7] 11<|
 Qi 45 [.a 0,.a 1,.a 2] 3<|
 Qi 46 [.a 19,.a 20,.a 21] 11<|
 Qi 47 [.a 22,.a 23,.a 24,.a 25,.a 26,.a 27,.a 28,.a 29,.a 30,.a 31,.a 8,.a 9,.a 10,.a 11,.a 12,.a 13,.a 14,.a 15,.a 16,.a 17] 1<|
 Qt [.a 33]<|
 .ite 34 (
 Qz [.k (.bool false)]<|
 .ret [.a 35]) (
 Q (.bb .neq) [.a 32,.a 18]<|
 .ite 35 (
 Qz [.k (.bool false)]<|
 .ret [.a 36]) (
 Qi 45 [.a 0,.a 1,.a 2] 3<|
 Qi 48 [.a 19,.a 20,.a 21,.a 36,.a 37,.a 38] 1<|
 Qt [.a 39]<|
 .ite 40 (
 Qz [.k (.bool false)]<|
 .ret [.a 41]) (
 .join (
 .loop [.a 41,I 0,.a 20] (
 Qn [.a 44]<|
 Ql [.a 43,.a 45]<|
 .ite 46 (
 Qb [.a 44,.a 43]<|
 Q (.put true 4 0 1) [.a 44,.a 43,.a 42]<|
 Qa [.a 42,I 1]<|
 Qb [.a 48,.a 43]<|
 Q (.put true 4 1 1) [.a 48,.a 43,.a 49]<|
 Qa [.a 49,I 1]<|
 Qb [.a 51,.a 43]<|
 Q (.put true 4 2 1) [.a 51,.a 43,.a 52]<|
 Qa [.a 52,I 1]<|
 Qb [.a 54,.a 43]<|
 Q (.put true 4 3 1) [.a 54,.a 43,.a 55]<|
 Qa [.a 55,I 1]<|
 Qa [.a 43,I 1]<|
 .go 0 [.a 58,.a 59,.a 57]) (
 .loop [.a 42,I 0,.a 21] (
 Qn [.a 49]<|
 Ql [.a 48,.a 50]<|
 .ite 51 (
 Qb [.a 49,.a 48]<|
 Q (.put true 4 0 1) [.a 49,.a 48,.a 47]<|
 Qa [.a 47,I 1]<|
 Qb [.a 53,.a 48]<|
 Q (.put true 4 1 1) [.a 53,.a 48,.a 54]<|
 Qa [.a 54,I 1]<|
 Qb [.a 56,.a 48]<|
 Q (.put true 4 2 1) [.a 56,.a 48,.a 57]<|
 Qa [.a 57,I 1]<|
 Q (.bin .rem) [.a 60,I 3]<|
 Qe [.a 61,I 0]<|
 Qb [.a 59,.a 48]<|
 Q (.put true 4 3 1) [.a 59,.a 48,.a 62]<|
 Qa [.a 60,I 1]<|
 Qa [.a 48,I 1]<|
 .go 0 [.a 65,.a 66,.a 64]) (
 Ql [.a 47,I 0]<|
 .ite 52 (
 Qz [.k (.bool false)]<|
 .ret [.a 53]) (
 Qi 47 [.a 22,.a 23,.a 24,.a 25,.a 26,.a 27,.a 28,.a 29,.a 30,.a 31,.a 8,.a 9,.a 10,.a 11,.a 12,.a 13,.a 14,.a 15,.a 16,.a 17] 1<|
 Qt [.a 53]<|
 .ite 54 (
 Qz [.k (.bool false)]<|
 .ret [.a 55]) (
 Q (.bb .neq) [.a 32,.a 18]<|
 .ite 55 (
 Qz [.k (.bool false)]<|
 .ret [.a 56]) (
 .join (
 .loop [.a 56,I 0,.a 23] (
 Qn [.a 59]<|
 Ql [.a 58,.a 60]<|
 .ite 61 (
 Qb [.a 59,.a 58]<|
 Q (.put true 4 0 1) [.a 59,.a 58,.a 57]<|
 Qa [.a 57,I 1]<|
 Qb [.a 63,.a 58]<|
 Q (.put true 4 1 1) [.a 63,.a 58,.a 64]<|
 Qa [.a 64,I 1]<|
 Qb [.a 66,.a 58]<|
 Q (.put true 4 2 1) [.a 66,.a 58,.a 67]<|
 Qa [.a 67,I 1]<|
 Qb [.a 69,.a 58]<|
 Q (.put true 4 3 1) [.a 69,.a 58,.a 70]<|
 Qa [.a 70,I 1]<|
 Qa [.a 58,I 1]<|
 .go 0 [.a 73,.a 74,.a 72]) (
 .loop [.a 57,I 0,.a 24] (
 Qn [.a 64]<|
 Ql [.a 63,.a 65]<|
 .ite 66 (
 Qb [.a 64,.a 63]<|
 Q (.put true 4 0 1) [.a 64,.a 63,.a 62]<|
 Qa [.a 62,I 1]<|
 Qb [.a 68,.a 63]<|
 Q (.put true 4 1 1) [.a 68,.a 63,.a 69]<|
 Qa [.a 69,I 1]<|
 Qb [.a 71,.a 63]<|
 Q (.put true 4 2 1) [.a 71,.a 63,.a 72]<|
 Qa [.a 72,I 1]<|
 Q (.bin .rem) [.a 75,I 3]<|
 Qe [.a 76,I 0]<|
 Qb [.a 74,.a 63]<|
 Q (.put true 4 3 1) [.a 74,.a 63,.a 77]<|
 Qa [.a 75,I 1]<|
 Qa [.a 63,I 1]<|
 .go 0 [.a 80,.a 81,.a 79]) (
 .loop [.a 62,I 0,.a 25] (
 Qn [.a 69]<|
 Ql [.a 68,.a 70]<|
 .ite 71 (
 Q (.bin .rem) [.a 67,I 3]<|
 Qe [.a 72,I 0]<|
 Qb [.a 69,.a 68]<|
 Q (.put true 1 0 1) [.a 69,.a 68,.a 73]<|
 Qa [.a 67,I 1]<|
 Qa [.a 68,I 1]<|
 .go 0 [.a 76,.a 77,.a 75]) (
 .loop [.a 67,I 0,.a 26] (
 Qn [.a 74]<|
 Ql [.a 73,.a 75]<|
 .ite 76 (
 Q (.bin .rem) [.a 72,I 3]<|
 Qe [.a 77,I 0]<|
 Qb [.a 74,.a 73]<|
 Q (.put true 1 0 1) [.a 74,.a 73,.a 78]<|
 Qa [.a 72,I 1]<|
 Qa [.a 73,I 1]<|
 .go 0 [.a 81,.a 82,.a 80]) (
 .loop [.a 72,I 0,.a 27] (
 Qn [.a 79]<|
 Ql [.a 78,.a 80]<|
 .ite 81 (
 Qb [.a 79,.a 78]<|
 Q (.put true 1 0 1) [.a 79,.a 78,.a 77]<|
 Qa [.a 77,I 1]<|
 Qa [.a 78,I 1]<|
 .go 0 [.a 84,.a 85,.a 83]) (
 .loop [.a 77,I 0,.a 28] (
 Qn [.a 84]<|
 Ql [.a 83,.a 85]<|
 .ite 86 (
 Qb [.a 84,.a 83]<|
 Q (.put true 8 0 1) [.a 84,.a 83,.a 82]<|
 Qa [.a 82,I 1]<|
 Qb [.a 88,.a 83]<|
 Q (.put true 8 1 1) [.a 88,.a 83,.a 89]<|
 Qa [.a 89,I 1]<|
 Qb [.a 91,.a 83]<|
 Q (.put true 8 2 1) [.a 91,.a 83,.a 92]<|
 Qa [.a 92,I 1]<|
 Qb [.a 94,.a 83]<|
 Q (.bD 8 3) [.a 94,.a 83]<|
 .loop [.a 95,I 0,.a 94] (
 Q (.bD 8 3) [.a 100,.a 83]<|
 Qn [.a 101]<|
 Ql [.a 99,.a 102]<|
 .ite 103 (
 Q (.bD 8 3) [.a 100,.a 83]<|
 Qb [.a 104,.a 99]<|
 Q (.bD 8 3) [.a 100,.a 83]<|
 Q (.put true 4 0 1) [.a 106,.a 99,.a 98]<|
 Q (.bD 8 3) [.a 100,.a 83]<|
 Q (.dT 8 3) [.a 100,.a 83,.a 107]<|
 Qa [.a 98,I 1]<|
 Q (.bD 8 3) [.a 109,.a 83]<|
 Qb [.a 111,.a 99]<|
 Q (.bD 8 3) [.a 109,.a 83]<|
 Q (.put true 4 1 1) [.a 113,.a 99,.a 110]<|
 Q (.bD 8 3) [.a 109,.a 83]<|
 Q (.dT 8 3) [.a 109,.a 83,.a 114]<|
 Qa [.a 110,I 1]<|
 Q (.bD 8 3) [.a 116,.a 83]<|
 Qb [.a 118,.a 99]<|
 Q (.bD 8 3) [.a 116,.a 83]<|
 Q (.put true 4 2 1) [.a 120,.a 99,.a 117]<|
 Q (.bD 8 3) [.a 116,.a 83]<|
 Q (.dT 8 3) [.a 116,.a 83,.a 121]<|
 Qa [.a 117,I 1]<|
 Q (.bD 8 3) [.a 123,.a 83]<|
 Qb [.a 125,.a 99]<|
 Q (.bD 8 3) [.a 123,.a 83]<|
 Q (.put true 4 3 1) [.a 127,.a 99,.a 124]<|
 Q (.bD 8 3) [.a 123,.a 83]<|
 Q (.dT 8 3) [.a 123,.a 83,.a 128]<|
 Qa [.a 124,I 1]<|
 Qa [.a 99,I 1]<|
 .go 0 [.a 131,.a 132,.a 130]) (
 Qb [.a 100,.a 83]<|
 Q (.bD 8 4) [.a 100,.a 83]<|
 .loop [.a 98,I 0,.a 100] (
 Q (.bD 8 4) [.a 108,.a 83]<|
 Qn [.a 109]<|
 Ql [.a 107,.a 110]<|
 .ite 111 (
 Q (.bD 8 4) [.a 108,.a 83]<|
 Qb [.a 112,.a 107]<|
 Q (.bD 8 4) [.a 108,.a 83]<|
 Q (.put true 4 0 1) [.a 114,.a 107,.a 106]<|
 Q (.bD 8 4) [.a 108,.a 83]<|
 Q (.dT 8 4) [.a 108,.a 83,.a 115]<|
 Qa [.a 106,I 1]<|
 Q (.bD 8 4) [.a 117,.a 83]<|
 Qb [.a 119,.a 107]<|
 Q (.bD 8 4) [.a 117,.a 83]<|
 Q (.put true 4 1 1) [.a 121,.a 107,.a 118]<|
 Q (.bD 8 4) [.a 117,.a 83]<|
 Q (.dT 8 4) [.a 117,.a 83,.a 122]<|
 Qa [.a 118,I 1]<|
 Q (.bD 8 4) [.a 124,.a 83]<|
 Qb [.a 126,.a 107]<|
 Q (.bD 8 4) [.a 124,.a 83]<|
 Q (.put true 4 2 1) [.a 128,.a 107,.a 125]<|
 Q (.bD 8 4) [.a 124,.a 83]<|
 Q (.dT 8 4) [.a 124,.a 83,.a 129]<|
 Qa [.a 125,I 1]<|
 Q (.bin .rem) [.a 132,I 3]<|
 Qe [.a 133,I 0]<|
 Q (.bD 8 4) [.a 131,.a 83]<|
 Qb [.a 135,.a 107]<|
 Q (.bD 8 4) [.a 131,.a 83]<|
 Q (.put true 4 3 1) [.a 137,.a 107,.a 134]<|
 Q (.bD 8 4) [.a 131,.a 83]<|
 Q (.dT 8 4) [.a 131,.a 83,.a 138]<|
 Qa [.a 132,I 1]<|
 Qa [.a 107,I 1]<|
 .go 0 [.a 141,.a 142,.a 140]) (
 Qb [.a 108,.a 83]<|
 Q (.bD 8 5) [.a 108,.a 83]<|
 .loop [.a 106,I 0,.a 108] (
 Q (.bD 8 5) [.a 116,.a 83]<|
 Qn [.a 117]<|
 Ql [.a 115,.a 118]<|
 .ite 119 (
 Q (.bD 8 5) [.a 116,.a 83]<|
 Qb [.a 120,.a 115]<|
 Q (.bD 8 5) [.a 116,.a 83]<|
 Q (.put true 1 0 1) [.a 122,.a 115,.a 114]<|
 Q (.bD 8 5) [.a 116,.a 83]<|
 Q (.dT 8 5) [.a 116,.a 83,.a 123]<|
 Qa [.a 114,I 1]<|
 Qa [.a 115,I 1]<|
 .go 0 [.a 126,.a 127,.a 125]) (
 Qb [.a 116,.a 83]<|
 Q (.bD 8 6) [.a 116,.a 83]<|
 .loop [.a 114,I 0,.a 116] (
 Q (.bD 8 6) [.a 124,.a 83]<|
 Qn [.a 125]<|
 Ql [.a 123,.a 126]<|
 .ite 127 (
 Q (.bD 8 6) [.a 124,.a 83]<|
 Qb [.a 128,.a 123]<|
 Q (.bD 8 6) [.a 124,.a 83]<|
 Q (.put true 8 0 1) [.a 130,.a 123,.a 122]<|
 Q (.bD 8 6) [.a 124,.a 83]<|
 Q (.dT 8 6) [.a 124,.a 83,.a 131]<|
 Qa [.a 122,I 1]<|
 Q (.bD 8 6) [.a 133,.a 83]<|
 Qb [.a 135,.a 123]<|
 Q (.bD 8 6) [.a 133,.a 83]<|
 Q (.put true 8 1 1) [.a 137,.a 123,.a 134]<|
 Q (.bD 8 6) [.a 133,.a 83]<|
 Q (.dT 8 6) [.a 133,.a 83,.a 138]<|
 Qa [.a 134,I 1]<|
 Q (.bD 8 6) [.a 140,.a 83]<|
 Qb [.a 142,.a 123]<|
 Q (.bD 8 6) [.a 140,.a 83]<|
 Q (.put true 8 2 1) [.a 144,.a 123,.a 141]<|
 Q (.bD 8 6) [.a 140,.a 83]<|
 Q (.dT 8 6) [.a 140,.a 83,.a 145]<|
 Qa [.a 141,I 1]<|
 Q (.bD 8 6) [.a 147,.a 83]<|
 Qb [.a 149,.a 123]<|
 Q (.bD 8 6) [.a 147,.a 83]<|
 Q (.put true 8 3 1) [.a 151,.a 123,.a 148]<|
 Q (.bD 8 6) [.a 147,.a 83]<|
 Q (.dT 8 6) [.a 147,.a 83,.a 152]<|
 Qa [.a 148,I 1]<|
 Q (.bD 8 6) [.a 154,.a 83]<|
 Qb [.a 156,.a 123]<|
 Q (.bD 8 6) [.a 154,.a 83]<|
 Q (.put true 8 4 1) [.a 158,.a 123,.a 155]<|
 Q (.bD 8 6) [.a 154,.a 83]<|
 Q (.dT 8 6) [.a 154,.a 83,.a 159]<|
 Qa [.a 155,I 1]<|
 Q (.bD 8 6) [.a 161,.a 83]<|
 Qb [.a 163,.a 123]<|
 Q (.bD 8 6) [.a 161,.a 83]<|
 Q (.bD 8 5) [.a 165,.a 123]<|
 .loop [.a 162,I 0,.a 161] (
 Q (.bD 8 6) [.a 169,.a 83]<|
 Q (.bD 8 5) [.a 170,.a 123]<|
 Qn [.a 171]<|
 Ql [.a 168,.a 172]<|
 .ite 173 (
 Q (.bD 8 6) [.a 169,.a 83]<|
 Q (.bD 8 5) [.a 174,.a 123]<|
 Qb [.a 175,.a 168]<|
 Q (.bD 8 6) [.a 169,.a 83]<|
 Q (.bD 8 5) [.a 177,.a 123]<|
 Q (.put true 2 0 1) [.a 178,.a 168,.a 167]<|
 Q (.bD 8 6) [.a 169,.a 83]<|
 Q (.bD 8 5) [.a 180,.a 123]<|
 Q (.dT 8 5) [.a 180,.a 123,.a 179]<|
 Q (.dT 8 6) [.a 169,.a 83,.a 182]<|
 Qa [.a 167,I 1]<|
 Q (.bD 8 6) [.a 183,.a 83]<|
 Q (.bD 8 5) [.a 185,.a 123]<|
 Qb [.a 186,.a 168]<|
 Q (.bD 8 6) [.a 183,.a 83]<|
 Q (.bD 8 5) [.a 188,.a 123]<|
 Q (.put true 2 1 1) [.a 189,.a 168,.a 184]<|
 Q (.bD 8 6) [.a 183,.a 83]<|
 Q (.bD 8 5) [.a 191,.a 123]<|
 Q (.dT 8 5) [.a 191,.a 123,.a 190]<|
 Q (.dT 8 6) [.a 183,.a 83,.a 193]<|
 Qa [.a 184,I 1]<|
 Qa [.a 168,I 1]<|
 .go 0 [.a 195,.a 196,.a 194]) (
 Q (.bD 8 6) [.a 169,.a 83]<|
 Qb [.a 174,.a 123]<|
 Q (.bD 8 6) [.a 169,.a 83]<|
 Q (.put true 8 6 1) [.a 176,.a 123,.a 167]<|
 Q (.bD 8 6) [.a 169,.a 83]<|
 Q (.dT 8 6) [.a 169,.a 83,.a 177]<|
 Qa [.a 167,I 1]<|
 Q (.bin .rem) [.a 180,I 3]<|
 Qe [.a 181,I 0]<|
 Q (.bD 8 6) [.a 179,.a 83]<|
 Qb [.a 183,.a 123]<|
 Q (.bD 8 6) [.a 179,.a 83]<|
 Q (.put true 8 7 1) [.a 185,.a 123,.a 182]<|
 Q (.bD 8 6) [.a 179,.a 83]<|
 Q (.dT 8 6) [.a 179,.a 83,.a 186]<|
 Qa [.a 180,I 1]<|
 Qa [.a 123,I 1]<|
 .go 1 [.a 189,.a 190,.a 188]))) (
 Qb [.a 124,.a 83]<|
 Q (.bD 8 7) [.a 124,.a 83]<|
 .loop [.a 122,I 0,.a 124] (
 Q (.bD 8 7) [.a 132,.a 83]<|
 Qn [.a 133]<|
 Ql [.a 131,.a 134]<|
 .ite 135 (
 Q (.bD 8 7) [.a 132,.a 83]<|
 Qb [.a 136,.a 131]<|
 Q (.bD 8 7) [.a 132,.a 83]<|
 Q (.put true 4 0 1) [.a 138,.a 131,.a 130]<|
 Q (.bD 8 7) [.a 132,.a 83]<|
 Q (.dT 8 7) [.a 132,.a 83,.a 139]<|
 Qa [.a 130,I 1]<|
 Q (.bD 8 7) [.a 141,.a 83]<|
 Qb [.a 143,.a 131]<|
 Q (.bD 8 7) [.a 141,.a 83]<|
 Q (.put true 4 1 1) [.a 145,.a 131,.a 142]<|
 Q (.bD 8 7) [.a 141,.a 83]<|
 Q (.dT 8 7) [.a 141,.a 83,.a 146]<|
 Qa [.a 142,I 1]<|
 Q (.bD 8 7) [.a 148,.a 83]<|
 Qb [.a 150,.a 131]<|
 Q (.bD 8 7) [.a 148,.a 83]<|
 Q (.put true 4 2 1) [.a 152,.a 131,.a 149]<|
 Q (.bD 8 7) [.a 148,.a 83]<|
 Q (.dT 8 7) [.a 148,.a 83,.a 153]<|
 Qa [.a 149,I 1]<|
 Q (.bin .rem) [.a 156,I 3]<|
 Qe [.a 157,I 0]<|
 Q (.bD 8 7) [.a 155,.a 83]<|
 Qb [.a 159,.a 131]<|
 Q (.bD 8 7) [.a 155,.a 83]<|
 Q (.put true 4 3 1) [.a 161,.a 131,.a 158]<|
 Q (.bD 8 7) [.a 155,.a 83]<|
 Q (.dT 8 7) [.a 155,.a 83,.a 162]<|
 Qa [.a 156,I 1]<|
 Qa [.a 131,I 1]<|
 .go 0 [.a 165,.a 166,.a 164]) (
 Qa [.a 83,I 1]<|
 .go 5 [.a 130,.a 136,.a 132]))))))))))) (
 .loop [.a 82,I 0,.a 29] (
 Qn [.a 89]<|
 Ql [.a 88,.a 90]<|
 .ite 91 (
 Qb [.a 89,.a 88]<|
 Q (.put true 6 0 1) [.a 89,.a 88,.a 87]<|
 Qa [.a 87,I 1]<|
 Qb [.a 93,.a 88]<|
 Q (.put true 6 1 1) [.a 93,.a 88,.a 94]<|
 Qa [.a 94,I 1]<|
 Qb [.a 96,.a 88]<|
 Q (.put true 6 2 1) [.a 96,.a 88,.a 97]<|
 Qa [.a 97,I 1]<|
 Qb [.a 99,.a 88]<|
 Q (.put true 6 3 1) [.a 99,.a 88,.a 100]<|
 Qa [.a 100,I 1]<|
 Qb [.a 102,.a 88]<|
 Q (.bD 6 4) [.a 102,.a 88]<|
 .loop [.a 103,I 0,.a 102] (
 Q (.bD 6 4) [.a 108,.a 88]<|
 Qn [.a 109]<|
 Ql [.a 107,.a 110]<|
 .ite 111 (
 Q (.bD 6 4) [.a 108,.a 88]<|
 Qb [.a 112,.a 107]<|
 Q (.bD 6 4) [.a 108,.a 88]<|
 Q (.put true 1 0 1) [.a 114,.a 107,.a 106]<|
 Q (.bD 6 4) [.a 108,.a 88]<|
 Q (.dT 6 4) [.a 108,.a 88,.a 115]<|
 Qa [.a 106,I 1]<|
 Qa [.a 107,I 1]<|
 .go 0 [.a 118,.a 119,.a 117]) (
 Qb [.a 108,.a 88]<|
 Q (.bD 6 5) [.a 108,.a 88]<|
 .loop [.a 106,I 0,.a 108] (
 Q (.bD 6 5) [.a 116,.a 88]<|
 Qn [.a 117]<|
 Ql [.a 115,.a 118]<|
 .ite 119 (
 Q (.bD 6 5) [.a 116,.a 88]<|
 Qb [.a 120,.a 115]<|
 Q (.bD 6 5) [.a 116,.a 88]<|
 Q (.put true 8 0 1) [.a 122,.a 115,.a 114]<|
 Q (.bD 6 5) [.a 116,.a 88]<|
 Q (.dT 6 5) [.a 116,.a 88,.a 123]<|
 Qa [.a 114,I 1]<|
 Q (.bD 6 5) [.a 125,.a 88]<|
 Qb [.a 127,.a 115]<|
 Q (.bD 6 5) [.a 125,.a 88]<|
 Q (.put true 8 1 1) [.a 129,.a 115,.a 126]<|
 Q (.bD 6 5) [.a 125,.a 88]<|
 Q (.dT 6 5) [.a 125,.a 88,.a 130]<|
 Qa [.a 126,I 1]<|
 Q (.bD 6 5) [.a 132,.a 88]<|
 Qb [.a 134,.a 115]<|
 Q (.bD 6 5) [.a 132,.a 88]<|
 Q (.put true 8 2 1) [.a 136,.a 115,.a 133]<|
 Q (.bD 6 5) [.a 132,.a 88]<|
 Q (.dT 6 5) [.a 132,.a 88,.a 137]<|
 Qa [.a 133,I 1]<|
 Q (.bD 6 5) [.a 139,.a 88]<|
 Qb [.a 141,.a 115]<|
 Q (.bD 6 5) [.a 139,.a 88]<|
 Q (.put true 8 3 1) [.a 143,.a 115,.a 140]<|
 Q (.bD 6 5) [.a 139,.a 88]<|
 Q (.dT 6 5) [.a 139,.a 88,.a 144]<|
 Qa [.a 140,I 1]<|
 Q (.bD 6 5) [.a 146,.a 88]<|
 Qb [.a 148,.a 115]<|
 Q (.bD 6 5) [.a 146,.a 88]<|
 Q (.put true 8 4 1) [.a 150,.a 115,.a 147]<|
 Q (.bD 6 5) [.a 146,.a 88]<|
 Q (.dT 6 5) [.a 146,.a 88,.a 151]<|
 Qa [.a 147,I 1]<|
 Q (.bD 6 5) [.a 153,.a 88]<|
 Qb [.a 155,.a 115]<|
 Q (.bD 6 5) [.a 153,.a 88]<|
 Q (.bD 8 5) [.a 157,.a 115]<|
 .loop [.a 154,I 0,.a 153] (
 Q (.bD 6 5) [.a 161,.a 88]<|
 Q (.bD 8 5) [.a 162,.a 115]<|
 Qn [.a 163]<|
 Ql [.a 160,.a 164]<|
 .ite 165 (
 Q (.bD 6 5) [.a 161,.a 88]<|
 Q (.bD 8 5) [.a 166,.a 115]<|
 Qb [.a 167,.a 160]<|
 Q (.bD 6 5) [.a 161,.a 88]<|
 Q (.bD 8 5) [.a 169,.a 115]<|
 Q (.put true 2 0 1) [.a 170,.a 160,.a 159]<|
 Q (.bD 6 5) [.a 161,.a 88]<|
 Q (.bD 8 5) [.a 172,.a 115]<|
 Q (.dT 8 5) [.a 172,.a 115,.a 171]<|
 Q (.dT 6 5) [.a 161,.a 88,.a 174]<|
 Qa [.a 159,I 1]<|
 Q (.bD 6 5) [.a 175,.a 88]<|
 Q (.bD 8 5) [.a 177,.a 115]<|
 Qb [.a 178,.a 160]<|
 Q (.bD 6 5) [.a 175,.a 88]<|
 Q (.bD 8 5) [.a 180,.a 115]<|
 Q (.put true 2 1 1) [.a 181,.a 160,.a 176]<|
 Q (.bD 6 5) [.a 175,.a 88]<|
 Q (.bD 8 5) [.a 183,.a 115]<|
 Q (.dT 8 5) [.a 183,.a 115,.a 182]<|
 Q (.dT 6 5) [.a 175,.a 88,.a 185]<|
 Qa [.a 176,I 1]<|
 Qa [.a 160,I 1]<|
 .go 0 [.a 187,.a 188,.a 186]) (
 Q (.bD 6 5) [.a 161,.a 88]<|
 Qb [.a 166,.a 115]<|
 Q (.bD 6 5) [.a 161,.a 88]<|
 Q (.put true 8 6 1) [.a 168,.a 115,.a 159]<|
 Q (.bD 6 5) [.a 161,.a 88]<|
 Q (.dT 6 5) [.a 161,.a 88,.a 169]<|
 Qa [.a 159,I 1]<|
 Q (.bin .rem) [.a 172,I 3]<|
 Qe [.a 173,I 0]<|
 Q (.bD 6 5) [.a 171,.a 88]<|
 Qb [.a 175,.a 115]<|
 Q (.bD 6 5) [.a 171,.a 88]<|
 Q (.put true 8 7 1) [.a 177,.a 115,.a 174]<|
 Q (.bD 6 5) [.a 171,.a 88]<|
 Q (.dT 6 5) [.a 171,.a 88,.a 178]<|
 Qa [.a 172,I 1]<|
 Qa [.a 115,I 1]<|
 .go 1 [.a 181,.a 182,.a 180]))) (
 Qa [.a 88,I 1]<|
 .go 2 [.a 114,.a 120,.a 116]))))) (
 .loop [.a 87,I 0,.a 30] (
 Qn [.a 94]<|
 Ql [.a 93,.a 95]<|
 .ite 96 (
 Qb [.a 94,.a 93]<|
 Q (.put true 8 0 1) [.a 94,.a 93,.a 92]<|
 Qa [.a 92,I 1]<|
 Qb [.a 98,.a 93]<|
 Q (.put true 8 1 1) [.a 98,.a 93,.a 99]<|
 Qa [.a 99,I 1]<|
 Qb [.a 101,.a 93]<|
 Q (.put true 8 2 1) [.a 101,.a 93,.a 102]<|
 Qa [.a 102,I 1]<|
 Qb [.a 104,.a 93]<|
 Q (.put true 8 3 1) [.a 104,.a 93,.a 105]<|
 Qa [.a 105,I 1]<|
 Qb [.a 107,.a 93]<|
 Q (.put true 8 4 1) [.a 107,.a 93,.a 108]<|
 Qa [.a 108,I 1]<|
 Qb [.a 110,.a 93]<|
 Q (.bD 8 5) [.a 110,.a 93]<|
 .loop [.a 111,I 0,.a 110] (
 Q (.bD 8 5) [.a 116,.a 93]<|
 Qn [.a 117]<|
 Ql [.a 115,.a 118]<|
 .ite 119 (
 Q (.bD 8 5) [.a 116,.a 93]<|
 Qb [.a 120,.a 115]<|
 Q (.bD 8 5) [.a 116,.a 93]<|
 Q (.put true 2 0 1) [.a 122,.a 115,.a 114]<|
 Q (.bD 8 5) [.a 116,.a 93]<|
 Q (.dT 8 5) [.a 116,.a 93,.a 123]<|
 Qa [.a 114,I 1]<|
 Q (.bD 8 5) [.a 125,.a 93]<|
 Qb [.a 127,.a 115]<|
 Q (.bD 8 5) [.a 125,.a 93]<|
 Q (.put true 2 1 1) [.a 129,.a 115,.a 126]<|
 Q (.bD 8 5) [.a 125,.a 93]<|
 Q (.dT 8 5) [.a 125,.a 93,.a 130]<|
 Qa [.a 126,I 1]<|
 Qa [.a 115,I 1]<|
 .go 0 [.a 133,.a 134,.a 132]) (
 Qb [.a 116,.a 93]<|
 Q (.put true 8 6 1) [.a 116,.a 93,.a 114]<|
 Qa [.a 114,I 1]<|
 Q (.bin .rem) [.a 122,I 3]<|
 Qe [.a 123,I 0]<|
 Qb [.a 121,.a 93]<|
 Q (.put true 8 7 1) [.a 121,.a 93,.a 124]<|
 Qa [.a 122,I 1]<|
 Qa [.a 93,I 1]<|
 .go 1 [.a 127,.a 128,.a 126]))) (
 .join (
 Qi 51 [.a 22,.a 59,.a 64,.a 69,.a 74,.a 79,.a 84,.a 89,.a 94,.a 31,.a 97] 1<|
 Ql [.a 98,I 0]<|
 .ite 99 (
 Qz [.k (.bool false)]<|
 .ret [.a 100]) (
 Qu [.a 98,.a 92]<|
 .ite 100 (
 Qz [.k (.bool false)]<|
 .ret [.a 101]) (
 Qi 45 [.a 0,.a 1,.a 2] 3<|
 Qi 46 [.a 101,.a 102,.a 103] 11<|
 Qi 47 [.a 104,.a 105,.a 106,.a 107,.a 108,.a 109,.a 110,.a 111,.a 112,.a 113,.a 8,.a 9,.a 10,.a 11,.a 12,.a 13,.a 14,.a 15,.a 16,.a 17] 1<|
 Qt [.a 115]<|
 .ite 116 (
 Qz [.k (.bool false)]<|
 .ret [.a 117]) (
 Q (.bb .neq) [.a 114,.a 18]<|
 .ite 117 (
 Qz [.k (.bool false)]<|
 .ret [.a 118]) (
 .join (
 Qi 51 [.a 22,.a 59,.a 64,.a 69,.a 74,.a 79,.a 84,.a 89,.a 94,.a 31,.a 118] 1<|
 Ql [.a 119,I 0]<|
 .ite 120 (
 Qz [.k (.bool false)]<|
 .ret [.a 121]) (
 Qu [.a 119,.a 92]<|
 .ite 121 (
 Qz [.k (.bool false)]<|
 .ret [.a 122]) (
 Qz [.k (.bool true)]<|
 .ret [.a 122]))) (
 .go 0 [I 1])))))) (
 .go 0 [I 1])))))))))))))))))) (
 .go 0 [I 1]))))))))) (
 .go 0 [I 1])))))
def GJ:Nat->af:=pick [(43,JL),(44,VC),(45,Av),(46,Xt),(47,AS),(48,EM),(51,XQ)]
def N3:af:=λts=>dV.den GJ rounds [] ts
def iX:=iC.dO ez 8 ⟨[.v true 3],[(false,[.s])]⟩ dV N3 [akk,akR,akr,ald,aly,Ke,alF] Tryz.func8 (by kernel_rfl) (by kernel_rfl) (by kernel_rfl)
end
end Go.Proofs.YtjimmglpkndemaaGreatC

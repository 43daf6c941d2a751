/- The walk: each function does as its plain program says (printed by a program). Conditions: none. -/
import Derived.Test.YtbhplkilhknciaaDoorChecked
import Derived.Test.YtbhplkilhknciaaDoorKe
import Derived.Test.YtbhplkilhknciaaDoorXPS
import Derived.Test.YtbhplkilhknciaaDoorXItoaW
namespace Go.Proofs.YtbhplkilhknciaaDoorWS
open Go.Proofs.YtbhplkilhknciaaDoorC
theorem fc {α:Type} {p:α→Prop} {a:α} {l:List α} (h:p a∧∀ x∈l,p x):∀ x∈a :: l,p x:=List.forall_mem_cons.2 h
theorem f0 {α:Type} {p:α→Prop}:∀ x∈([]:List α),p x:=fun _ h=>nomatch h
def lty:List (Nat × TI):=[
 (3,⟨1,8,false,[.p (.k (.int .i64 0))],0,[],1⟩),
 (4,⟨1,1,false,[.p (.k (.bool false))],0,[],4⟩),
 (5,⟨1,1,false,[.p (.k (.int .u8 0))],0,[],1⟩),
 (9,⟨1,16,false,[.p (.k (.string ByteArray.empty))],0,[],2⟩),
 (22,⟨1,24,false,[.n],5,[],3⟩),
 (24,⟨1,24,false,[.n],3,[],3⟩),
 (26,⟨6,64,true,[.p (.k (.bool false)),.p (.k (.int .i64 0)),.p (.k (.int .i64 0)),.p (.k (.int .i64 0)),.p (.k (.int .i64 0)),.n],0,[(0,1),(1,1),(2,1),(3,1),(4,1),(5,1)],0⟩),
 (31,⟨6,64,true,[.p (.k (.bool false)),.p (.k (.int .i64 0)),.p (.k (.int .i64 0)),.p (.k (.int .i64 0)),.p (.k (.int .i64 0)),.n],0,[(0,1),(1,1),(2,1),(3,1),(4,1),(5,1)],0⟩),
 (38,⟨1,24,false,[.n],26,[],3⟩),
 (46,⟨3,40,true,[.n,.p (.k (.int .i64 0)),.p (.k (.int .i64 0))],0,[(0,1),(1,1),(2,1)],0⟩),
 (47,⟨1,24,false,[.n],58,[],3⟩),
 (48,⟨1,24,false,[.n],62,[],3⟩),
 (50,⟨3,56,true,[.p (.k (.int .i64 0)),.n,.n],0,[(0,1),(1,1),(2,1)],0⟩),
 (52,⟨1,24,false,[.n],4,[],3⟩),
 (58,⟨4,32,true,[.p (.k (.int .i64 0)),.p (.k (.int .i64 0)),.p (.k (.int .i64 0)),.p (.k (.int .i64 0))],0,[(0,1),(1,1),(2,1),(3,1)],5⟩),
 (62,⟨4,32,true,[.p (.k (.int .i64 0)),.p (.k (.int .i64 0)),.p (.k (.int .i64 0)),.p (.k (.bool false))],0,[(0,1),(1,1),(2,1),(3,1)],5⟩),
 (63,⟨1,24,false,[.n],76,[],3⟩),
 (74,⟨1,24,false,[.n],79,[],3⟩),
 (76,⟨8,80,true,[.p (.k (.int .i64 0)),.p (.k (.int .i64 0)),.p (.k (.int .i64 0)),.p (.k (.int .i64 0)),.p (.k (.int .i64 0)),.n,.p (.k (.int .i64 0)),.p (.k (.bool false))],0,[(0,1),(1,1),(2,1),(3,1),(4,1),(5,1),(6,1),(7,1)],0⟩),
 (79,⟨2,16,true,[.p (.k (.int .i64 0)),.p (.k (.int .i64 0))],0,[(0,1),(1,1)],5⟩),
 (83,⟨1,24,false,[.n],88,[],3⟩),
 (88,⟨3,40,true,[.p (.k (.int .i64 0)),.p (.k (.int .i64 0)),.n],0,[(0,1),(1,1),(2,1)],0⟩),
 (98,⟨1,24,false,[.n],83,[],3⟩),
 (117,⟨1,24,false,[.n],24,[],3⟩)]
def lhint:List ((Nat × Nat × Nat) × Js):=[
 ((20,0,0),[(4,false,.phi false [.p]),(7,false,.rows [(0,true)])]),
 ((8,0,0),[(0,false,.phi false [.p]),(4,false,.phi false [.p])]),
 ((8,2,15),[(5,false,.phi false [.p])]),
 ((11,0,0),[(3,false,.phi false [.p]),(4,false,.phi false [.p])]),
 ((11,2,19),[(3,false,.phi false [.p])]),
 ((11,2,6),[(3,false,.phi false [.p])]),
 ((7,0,0),[(3,false,.phi false [.p]),(32,false,.phi false [.p])]),
 ((7,2,20),[(3,false,.phi false [.p])]),
 ((7,2,7),[(3,false,.phi false [.p])]),
 ((21,0,0),[(4,false,.phi false [.p]),(5,false,.phi false [.p])]),
 ((14,0,0),[(3,false,.phi false [.p]),(4,false,.phi false [.p])])]
def lfz:List (Nat × Nat × Nat):=[]
def lnest:List Nat:=[4,3]
noncomputable def lfn:List (Nat × Func):=[(14,Tryd.f14)]
noncomputable def cx:Cx:={ ty:=tiOf lty,sg:=fun _=>none,fn:=fnOf lfn,hint:=hintOf lhint,fz:=fzOf lfz,nest:=memN lnest }
theorem in_s_l01New:FnIn Tryd.prog 14:=.mk Tryd.func14 (by kernel_rfl) (by kernel_rfl)
theorem seat:Seat Tryd.prog cx:=⟨tys_ok (l:=lty) (by kernel_rfl) rfl,into_of (l:=lfn) (fc ⟨⟨Tryd.func14,in_s_l01New⟩,f0⟩) rfl,by kernel_rfl⟩
noncomputable def k_szIntS:=Kok.mk2 seat 19 ⟨[.v false 1,.v false 1],[(false,[.s])]⟩ p_szIntS F_szIntS [] Tryd.func19 (by kernel_rfl) (by kernel_rfl) (by kernel_rfl)
noncomputable def k_szRoute:=Kok.mk2 seat 10 ⟨[.v true 6,.v false 1],[(false,[.s])]⟩ p_szRoute F_szRoute [k_szIntS] Tryd.func10 (by kernel_rfl) (by kernel_rfl) (by kernel_rfl)
noncomputable def k_toIntS:=Kok.mk2 seat 20 ⟨[.v false 1],[(false,[.o true])]⟩ p_toIntS F_toIntS [] Tryd.func20 (by kernel_rfl) (by kernel_rfl) (by kernel_rfl)
noncomputable def k_toRoute:=Kok.mk2 seat 12 ⟨[.v true 6],[(true,[.s,.s,.s,.s,.s,.o true])]⟩ p_toRoute F_toRoute [k_toIntS] Tryd.func12 (by kernel_rfl) (by kernel_rfl) (by kernel_rfl)
noncomputable def k_s_l01Figure:=Kok.mk2 seat 18 ⟨[.v false 1],[(false,[.s])]⟩ p_s_l01Figure F_s_l01Figure [] Tryd.func18 (by kernel_rfl) (by kernel_rfl) (by kernel_rfl)
noncomputable def k_s_Decimal:=Kok.mk2 seat 8 ⟨[.v false 1],[(false,[.s])]⟩ p_s_Decimal F_s_Decimal [k_s_l01Figure] Tryd.func8 (by kernel_rfl) (by kernel_rfl) (by kernel_rfl)
noncomputable def k_s_ShowRoute:=Kok.mk2 seat 11 ⟨[.v true 6],[(false,[.s])]⟩ p_s_ShowRoute F_s_ShowRoute [k_s_Decimal] Tryd.func11 (by kernel_rfl) (by kernel_rfl) (by kernel_rfl)
noncomputable def k_i_Decimal:=Kok.mk2 seat 17 ⟨[.v false 1],[(false,[.s])]⟩ p_i_Decimal F_i_Decimal [k_strconv_Itoa] Tryd.func17 (by kernel_rfl) (by kernel_rfl) (by kernel_rfl)
noncomputable def k_i_ShowRoute:=Kok.mk2 seat 7 ⟨[.v true 6],[(false,[.s])]⟩ p_i_ShowRoute F_i_ShowRoute [k_i_Decimal] Tryd.func7 (by kernel_rfl) (by kernel_rfl) (by kernel_rfl)
noncomputable def k_eqIntS:=Kok.mk2 seat 21 ⟨[.v false 1,.v false 1],[(false,[.s])]⟩ p_eqIntS F_eqIntS [] Tryd.func21 (by kernel_rfl) (by kernel_rfl) (by kernel_rfl)
noncomputable def k_eqRoute:=Kok.mk2 seat 13 ⟨[.v true 6,.v true 6],[(false,[.s])]⟩ p_eqRoute F_eqRoute [k_eqIntS] Tryd.func13 (by kernel_rfl) (by kernel_rfl) (by kernel_rfl)
noncomputable def k_FnExactShowRoute:=Kok.mk2 seat 4 ⟨[.v true 6],[(false,[.s])]⟩ p_FnExactShowRoute F_FnExactShowRoute [k_i_ShowRoute,k_szRoute,k_s_ShowRoute,k_toRoute,k_eqRoute] Tryd.func4 (by kernel_rfl) (by kernel_rfl) (by kernel_rfl)
end Go.Proofs.YtbhplkilhknciaaDoorWS

/- The walk: each function does as its plain program says (printed by a program). Conditions: none. -/
import Derived.Test.YtjimmglpkndemaaChecked
import Derived.Test.YtjimmglpkndemaaKe
import Derived.Test.YtjimmglpkndemaaXPT
namespace Go.Proofs.YtjimmglpkndemaaWT
open Go.Proofs.YtjimmglpkndemaaC
theorem fc {α:Type} {p:α→Prop} {a:α} {l:List α} (h:p a∧∀ x∈l,p x):∀ x∈a :: l,p x:=List.forall_mem_cons.2 h
theorem f0 {α:Type} {p:α→Prop}:∀ x∈([]:List α),p x:=fun _ h=>nomatch h
def lty:List (Nat × TI):=[
 (3,⟨1,8,false,[.p (.k (.int .i64 0))],0,[],1⟩),
 (4,⟨1,1,false,[.p (.k (.bool false))],0,[],4⟩),
 (5,⟨1,1,false,[.p (.k (.int .u8 0))],0,[],1⟩),
 (22,⟨1,24,false,[.n],5,[],3⟩),
 (25,⟨4,32,true,[.p (.k (.int .i64 0)),.p (.k (.int .i64 0)),.p (.k (.int .i64 0)),.p (.k (.int .i64 0))],0,[(0,1),(1,1),(2,1),(3,1)],5⟩),
 (26,⟨1,24,false,[.n],25,[],3⟩),
 (28,⟨4,32,true,[.p (.k (.int .i64 0)),.p (.k (.int .i64 0)),.p (.k (.int .i64 0)),.p (.k (.bool false))],0,[(0,1),(1,1),(2,1),(3,1)],5⟩),
 (29,⟨1,24,false,[.n],28,[],3⟩),
 (31,⟨3,56,true,[.p (.k (.int .i64 0)),.n,.n],0,[(0,1),(1,1),(2,1)],0⟩),
 (32,⟨1,24,false,[.n],3,[],3⟩),
 (33,⟨1,24,false,[.n],79,[],3⟩),
 (35,⟨7,120,true,[.p (.k (.int .i64 0)),.p (.k (.int .i64 0)),.p (.k (.int .i64 0)),.n,.n,.n,.n],0,[(0,1),(1,1),(2,3),(5,1),(6,1)],0⟩),
 (36,⟨1,24,false,[.n],62,[],3⟩),
 (38,⟨8,144,true,[.p (.k (.int .i64 0)),.p (.k (.int .i64 0)),.p (.k (.int .i64 0)),.n,.n,.n,.n,.n],0,[(0,7),(7,1)],0⟩),
 (41,⟨1,24,false,[.n],45,[],3⟩),
 (45,⟨6,80,true,[.p (.k (.int .i64 0)),.p (.k (.int .i64 0)),.p (.k (.int .i64 0)),.p (.k (.int .i64 0)),.n,.n],0,[(0,1),(1,1),(2,1),(3,1),(4,1),(5,1)],0⟩),
 (47,⟨1,24,false,[.n],51,[],3⟩),
 (51,⟨6,64,true,[.p (.k (.bool false)),.p (.k (.int .i64 0)),.p (.k (.int .i64 0)),.p (.k (.int .i64 0)),.p (.k (.int .i64 0)),.n],0,[(0,1),(1,1),(2,1),(3,1),(4,1),(5,1)],0⟩),
 (62,⟨4,32,true,[.p (.k (.int .i64 0)),.p (.k (.int .i64 0)),.p (.k (.int .i64 0)),.p (.k (.bool false))],0,[(0,1),(1,1),(2,1),(3,1)],5⟩),
 (77,⟨1,24,false,[.n],104,[],3⟩),
 (79,⟨8,80,true,[.p (.k (.int .i64 0)),.p (.k (.int .i64 0)),.p (.k (.int .i64 0)),.p (.k (.int .i64 0)),.p (.k (.int .i64 0)),.n,.p (.k (.int .i64 0)),.p (.k (.bool false))],0,[(0,1),(1,1),(2,1),(3,1),(4,1),(5,1),(6,1),(7,1)],0⟩),
 (96,⟨1,24,false,[.n],100,[],3⟩),
 (100,⟨3,40,true,[.p (.k (.int .i64 0)),.p (.k (.int .i64 0)),.n],0,[(0,1),(1,1),(2,1)],0⟩),
 (104,⟨2,16,true,[.p (.k (.int .i64 0)),.p (.k (.int .i64 0))],0,[(0,1),(1,1)],5⟩)]
def lhint:List ((Nat × Nat × Nat) × Js):=[
 ((32,0,0),[(2,false,.phi false [.p]),(26,false,.phi false [.p])]),
 ((32,0,2),[(2,false,.phi false [.p]),(55,false,.phi false [.p])]),
 ((40,0,0),[(8,false,.phi false [.p]),(14,false,.phi false [.p])]),
 ((34,0,0),[(2,false,.phi false [.p]),(3,false,.phi false [.p])]),
 ((71,0,0),[(2,false,.phi false [.p]),(8,false,.phi false [.p])]),
 ((35,0,0),[(2,false,.phi false [.p]),(7,false,.phi false [.p])]),
 ((38,0,0),[(3,false,.phi false [.o true]),(8,false,.phi false [.p])]),
 ((19,0,0),[(5,false,.phi false [.p])]),
 ((19,4,6),[(0,false,.rows [(0,true)])]),
 ((29,0,0),[(5,false,.phi false [.o true]),(11,false,.phi false [.p])]),
 ((29,2,24),[(5,false,.phi false [.o true])]),
 ((72,0,0),[(3,false,.phi false [.o true]),(14,false,.phi false [.p])]),
 ((72,0,2),[(7,false,.phi false [.p]),(6,true,.phi true [.k,.k,.k,.k,.k,.o true,.k,.k])]),
 ((72,2,36),[(6,true,.phi true [.k,.k,.k,.k,.k,.o true,.k,.k])]),
 ((39,0,0),[(5,false,.phi false [.p])]),
 ((39,2,40),[(5,false,.phi false [.p])]),
 ((47,0,0),[(4,false,.phi false [.p]),(9,false,.phi false [.p])]),
 ((73,0,0),[(7,false,.phi false [.o false]),(14,false,.phi false [.p])]),
 ((73,0,2),[(7,false,.phi false [.o false]),(34,false,.phi false [.p])]),
 ((73,2,26),[(7,false,.phi false [.o false])]),
 ((60,0,0),[(4,false,.phi false [.p]),(9,false,.phi false [.p])]),
 ((80,0,0),[(8,false,.phi false [.p]),(25,false,.phi false [.p])]),
 ((70,0,1),[(34,false,.phi false [.p]),(5,true,.phi true [.k,.k,.o true])]),
 ((70,0,3),[(47,false,.phi false [.p]),(5,true,.phi true [.k,.k,.o true])]),
 ((75,0,0),[(10,false,.phi false [.p]),(3,false,.rows [(0,true)])]),
 ((75,2,47),[(12,true,.phi true [.k,.k,.o true])]),
 ((75,2,55),[(3,false,.rows [(0,true)]),(12,true,.phi true [.k,.k,.d])]),
 ((75,2,70),[(3,false,.rows [(0,true)])]),
 ((67,0,0),[(8,false,.phi false [.o true]),(30,false,.rows [(0,true)])]),
 ((67,0,2),[(9,false,.phi false [.p]),(10,false,.phi false [.p])]),
 ((67,0,4),[(11,false,.phi false [.o true]),(84,false,.phi false [.p]),(30,false,.rows [(0,true)])]),
 ((67,2,68),[(9,false,.phi false [.p])]),
 ((67,2,90),[(11,false,.phi false [.o true]),(87,false,.phi true [.k,.k,.d]),(13,true,.phi true [.k,.k,.d])]),
 ((67,5,16),[(7,false,.rows [(0,true)])]),
 ((69,0,0),[(5,false,.phi false [.p]),(10,false,.phi false [.p])]),
 ((78,2,36),[(4,true,.phi false [.o true])]),
 ((68,0,0),[(5,false,.phi false [.p])]),
 ((68,5,7),[(0,false,.rows [(0,true)])]),
 ((51,0,0),[(7,false,.phi false [.o true]),(14,false,.phi false [.p])]),
 ((51,0,2),[(7,false,.phi false [.o true]),(23,false,.phi false [.p]),(21,false,.rows [(0,false)])]),
 ((52,0,0),[(10,false,.phi false [.o true]),(23,false,.phi false [.p])]),
 ((74,0,0),[(9,false,.phi false [.o true]),(21,false,.phi false [.p])]),
 ((74,0,2),[(43,false,.phi false [.p]),(13,true,.phi false [.o true]),(41,false,.rows [(0,false)])]),
 ((74,0,4),[(58,false,.phi false [.p]),(13,true,.phi false [.o true]),(56,false,.rows [(0,false)])]),
 ((74,2,27),[(9,false,.phi false [.o true])]),
 ((74,2,52),[(13,true,.phi false [.o true])]),
 ((59,0,0),[(3,false,.phi false [.o true]),(22,false,.phi false [.p]),(19,false,.rows [(0,false)])]),
 ((59,0,2),[(3,false,.phi false [.o true]),(48,false,.phi false [.p])]),
 ((59,0,4),[(3,false,.phi false [.o true]),(59,false,.phi false [.p]),(57,false,.rows [(0,false)])]),
 ((59,0,6),[(3,false,.phi false [.o true]),(72,false,.phi false [.p])]),
 ((59,2,39),[(3,false,.phi false [.o true]),(19,false,.phi false [.p]),(4,false,.phi false [.p]),(20,false,.phi false [.p])]),
 ((59,2,80),[(3,false,.phi false [.o true])]),
 ((61,0,0),[(4,false,.phi false [.p]),(36,false,.phi false [.p])]),
 ((62,2,12),[(5,false,.phi false [.p])]),
 ((63,2,8),[(3,true,.phi true [.k,.k,.k,.k,.k,.k,.p,.k])]),
 ((37,0,0),[(3,false,.phi false [.o true]),(15,false,.phi false [.p]),(12,false,.rows [(0,false)])]),
 ((37,0,2),[(3,false,.phi false [.o true]),(46,false,.phi false [.p])]),
 ((37,2,34),[(3,false,.phi false [.o true]),(6,true,.phi true [.k,.k,.k,.k,.p,.k,.k,.k])]),
 ((37,2,66),[(3,false,.phi false [.o true]),(10,true,.phi true [.k,.k,.k,.k,.p,.k,.k,.k])]),
 ((13,0,0),[(3,false,.phi false [.o true]),(6,false,.phi false [.o true]),(22,false,.phi false [.p])]),
 ((14,0,0),[(5,false,.phi false [.o true]),(6,false,.phi false [.p])]),
 ((14,0,2),[(5,false,.phi false [.o true]),(7,false,.phi false [.p])]),
 ((14,2,23),[(5,false,.phi false [.o true])]),
 ((17,0,0),[(3,false,.phi false [.o true]),(8,false,.phi false [.p])]),
 ((17,2,13),[(3,false,.phi false [.o true])]),
 ((41,0,0),[(4,false,.phi false [.p]),(13,false,.phi false [.p])]),
 ((16,0,0),[(2,false,.phi false [.p]),(26,false,.phi false [.p])]),
 ((43,0,0),[(5,false,.phi false [.o true]),(10,false,.phi false [.p])]),
 ((43,2,22),[(5,false,.phi false [.o true])]),
 ((44,2,17),[(3,true,.phi true [.k,.k,.k,.k,.k,.k,.p,.k])]),
 ((21,0,0),[(5,false,.phi false [.o true]),(12,false,.phi false [.p]),(10,false,.rows [(0,false)])]),
 ((6,0,0),[(22,false,.phi false [.p]),(14,false,.rows [(7,true)])]),
 ((6,0,2),[(7,false,.phi false [.o false]),(62,false,.phi false [.p]),(4,true,.phi true [.p,.p,.p,.p,.p,.p,.p,.p]),(14,false,.phi true [.k,.k,.k,.k,.k,.k,.k,.p]),(20,false,.phi false [.p]),(54,false,.phi false [.p]),(60,false,.phi false [.p])]),
 ((6,0,4),[(10,false,.phi false [.o true]),(69,false,.phi false [.p])]),
 ((6,2,82),[(10,false,.phi false [.o true])]),
 ((6,2,95),[(4,true,.phi true [.p,.p,.p,.p,.p,.p,.p,.p]),(7,false,.phi false [.o false]),(93,false,.phi false [.d])]),
 ((22,0,0),[(6,false,.phi false [.p]),(12,false,.phi false [.p])]),
 ((45,0,0),[(2,false,.phi false [.p]),(7,false,.phi false [.p])]),
 ((46,0,0),[(2,false,.phi false [.p]),(8,false,.phi false [.p])]),
 ((23,0,0),[(2,false,.phi false [.p]),(49,false,.phi false [.p])]),
 ((50,0,0),[(5,false,.phi false [.o true]),(13,false,.phi false [.p])]),
 ((50,0,2),[(5,false,.phi false [.o true]),(23,false,.phi false [.p])]),
 ((50,2,41),[(5,false,.phi false [.o true])]),
 ((27,0,0),[(9,false,.phi false [.o false]),(25,false,.phi false [.p]),(0,true,.phi true [.p,.p,.p,.p,.p,.p,.p,.p]),(23,false,.phi false [.p])]),
 ((27,2,36),[(14,false,.phi false [.o true])]),
 ((27,2,47),[(0,true,.phi true [.p,.p,.p,.p,.p,.p,.p,.p]),(9,false,.phi false [.o false]),(23,false,.phi false [.p]),(14,false,.phi false [.p]),(44,false,.drop)]),
 ((48,0,0),[(5,false,.phi false [.o true]),(11,false,.phi false [.p])]),
 ((48,2,29),[(5,false,.phi false [.o true])]),
 ((25,2,32),[(0,true,.phi true [.p,.p,.p,.p,.p,.p,.p,.p]),(9,false,.phi false [.o false]),(14,false,.phi false [.p]),(22,false,.phi false [.p]),(29,false,.phi false [.p]),(10,false,.phi false [.p]),(30,false,.phi false [.p])]),
 ((25,2,45),[(0,true,.phi true [.p,.p,.p,.p,.p,.p,.p,.p]),(9,false,.phi false [.o false])]),
 ((49,0,0),[(6,false,.phi false [.o true]),(7,false,.phi false [.o true]),(16,false,.phi false [.p])]),
 ((49,2,26),[(6,false,.phi false [.o true]),(7,false,.phi false [.o true]),(10,false,.phi false [.d])]),
 ((53,0,0),[(12,false,.phi false [.p]),(13,false,.phi false [.p]),(14,false,.phi false [.p]),(21,false,.phi false [.p]),(10,true,.phi true [.p,.p,.o true]),(11,true,.phi true [.p,.p,.o true])]),
 ((53,2,49),[(17,true,.phi true [.p,.p,.o true]),(18,false,.phi false [.p])]),
 ((53,2,64),[(17,true,.phi true [.p,.p,.o true])]),
 ((53,2,75),[(17,true,.phi true [.p,.p,.o true])]),
 ((53,2,86),[(11,true,.phi true [.p,.p,.o true]),(13,false,.phi false [.p]),(14,false,.phi false [.p]),(17,true,.phi true [.k,.k,.d])]),
 ((28,0,0),[(9,false,.phi false [.o true]),(35,false,.phi false [.p]),(27,false,.rows [(0,false)])]),
 ((28,0,2),[(9,false,.phi false [.o true]),(57,false,.phi false [.p]),(32,false,.rows [(0,false)])]),
 ((28,0,4),[(16,false,.phi false [.o true]),(75,false,.phi false [.p])]),
 ((28,0,6),[(9,false,.phi false [.o true]),(98,false,.phi false [.p])]),
 ((28,2,110),[(9,false,.phi false [.o true]),(108,false,.phi true [.k,.k,.k,.k,.k,.d]),(22,true,.phi true [.k,.k,.k,.k,.k,.d])]),
 ((28,2,42),[(9,false,.phi false [.o true])]),
 ((28,2,86),[(16,false,.phi false [.o true])]),
 ((31,0,0),[(4,false,.phi false [.p]),(5,false,.phi false [.p])]),
 ((9,0,0),[(4,false,.phi false [.p]),(5,false,.phi false [.p])]),
 ((10,0,0),[(4,false,.phi false [.p]),(5,false,.phi false [.p])]),
 ((3,0,0),[(2,false,.phi false [.p]),(8,false,.phi false [.p]),(4,true,.phi true [.p,.p,.p,.p,.p,.p,.p,.p]),(6,true,.phi true [.p,.p,.p,.p,.p,.p,.p,.p])]),
 ((3,0,2),[(9,false,.phi false [.o false]),(11,false,.phi false [.p]),(4,true,.phi true [.p,.p,.p,.p,.p,.p,.p,.p]),(6,true,.phi true [.p,.p,.p,.p,.p,.p,.p,.p]),(50,false,.phi true [.k,.k,.k,.d,.d,.d,.d,.d]),(58,false,.phi true [.k,.k,.k,.d,.d,.d,.d,.d])]),
 ((3,2,77),[(4,true,.phi true [.p,.p,.p,.p,.p,.p,.p,.p]),(12,false,.phi false [.p]),(6,true,.phi true [.p,.p,.p,.p,.p,.p,.p,.p])])]
def lfz:List (Nat × Nat × Nat):=[(67,18,1)]
def lnest:List Nat:=[13,3]
noncomputable def lfn:List (Nat × Func):=[(19,Try.f19),(75,Try.f75),(78,Try.f78),(68,Try.f68),(18,Try.f18),(27,Try.f27),(24,Try.f24),(25,Try.f25)]
noncomputable def cx:Cx:={ ty:=tiOf lty,sg:=fun _=>none,fn:=fnOf lfn,hint:=hintOf lhint,fz:=fzOf lfz,nest:=memN lnest }
theorem in_i_with:FnIn Try.prog 19:=.mk Try.func19 (by kernel_rfl) (by kernel_rfl)
theorem in_i_spread:FnIn Try.prog 75:=.mk Try.func75 (by kernel_rfl) (by kernel_rfl)
theorem in_i_Beyond_1:FnIn Try.prog 78:=.mk Try.func78 (by kernel_rfl) (by kernel_rfl)
theorem in_i_also:FnIn Try.prog 68:=.mk Try.func68 (by kernel_rfl) (by kernel_rfl)
theorem in_i_Node_renew:FnIn Try.prog 18:=.mk Try.func18 (by kernel_rfl) (by kernel_rfl)
theorem in_i_Node_spread:FnIn Try.prog 27:=.mk Try.func27 (by kernel_rfl) (by kernel_rfl)
theorem in_i_Node_hello:FnIn Try.prog 24:=.mk Try.func24 (by kernel_rfl) (by kernel_rfl)
theorem in_i_Node_sum:FnIn Try.prog 25:=.mk Try.func25 (by kernel_rfl) (by kernel_rfl)
theorem seat:Seat Try.prog cx:=⟨tys_ok (l:=lty) (by kernel_rfl) rfl,into_of (l:=lfn) (fc ⟨⟨Try.func19,in_i_with⟩,fc ⟨⟨Try.func75,in_i_spread⟩,fc ⟨⟨Try.func78,in_i_Beyond_1⟩,fc ⟨⟨Try.func68,in_i_also⟩,fc ⟨⟨Try.func18,in_i_Node_renew⟩,fc ⟨⟨Try.func27,in_i_Node_spread⟩,fc ⟨⟨Try.func24,in_i_Node_hello⟩,fc ⟨⟨Try.func25,in_i_Node_sum⟩,f0⟩⟩⟩⟩⟩⟩⟩⟩) rfl,by kernel_rfl⟩
noncomputable def k_big:=Kok.mk2 seat 4 ⟨[.v false 1],[(false,[.s])]⟩ p_big F_big [] Try.func4 (by kernel_rfl) (by kernel_rfl) (by kernel_rfl)
noncomputable def k_i_copyNet:=Kok.mk2 seat 11 ⟨[.v true 3],[(true,[.s,.o true,.o true])]⟩ p_i_copyNet F_i_copyNet [] Try.func11 (by kernel_rfl) (by kernel_rfl) (by kernel_rfl)
noncomputable def k_i_in:=Kok.mk2 seat 33 ⟨[.v false 1,.v false 1,.v false 1],[(false,[.s])]⟩ p_i_in F_i_in [] Try.func33 (by kernel_rfl) (by kernel_rfl) (by kernel_rfl)
noncomputable def k_i_LinkOk:=Kok.mk2 seat 54 ⟨[.v false 1,.v true 4],[(false,[.s])]⟩ p_i_LinkOk F_i_LinkOk [k_i_in] Try.func54 (by kernel_rfl) (by kernel_rfl) (by kernel_rfl)
noncomputable def k_i_ahead:=Kok.mk2 seat 55 ⟨[.v true 4,.v true 4],[(false,[.s])]⟩ p_i_ahead F_i_ahead [] Try.func55 (by kernel_rfl) (by kernel_rfl) (by kernel_rfl)
noncomputable def k_i_less:=Kok.mk2 seat 56 ⟨[.v true 4,.v true 4],[(false,[.s])]⟩ p_i_less F_i_less [] Try.func56 (by kernel_rfl) (by kernel_rfl) (by kernel_rfl)
noncomputable def k_i_NetOk:=Kok.mk2 seat 32 ⟨[.v true 3],[(false,[.s])]⟩ p_i_NetOk F_i_NetOk [k_i_in,k_i_LinkOk,k_i_ahead,k_i_less] Try.func32 (by kernel_rfl) (by kernel_rfl) (by kernel_rfl)
noncomputable def k_i_linkAt:=Kok.mk2 seat 40 ⟨[.v true 3,.v false 1,.v false 1,.v false 1],[(false,[.s])]⟩ p_i_linkAt F_i_linkAt [] Try.func40 (by kernel_rfl) (by kernel_rfl) (by kernel_rfl)
noncomputable def k_i_heardOk:=Kok.mk2 seat 34 ⟨[.v true 7],[(false,[.s])]⟩ p_i_heardOk F_i_heardOk [k_i_linkAt] Try.func34 (by kernel_rfl) (by kernel_rfl) (by kernel_rfl)
noncomputable def k_i_nearOk:=Kok.mk2 seat 71 ⟨[.v true 8],[(false,[.s])]⟩ p_i_nearOk F_i_nearOk [k_i_in] Try.func71 (by kernel_rfl) (by kernel_rfl) (by kernel_rfl)
noncomputable def k_i_RecordOk:=Kok.mk2 seat 57 ⟨[.v true 8],[(false,[.s])]⟩ p_i_RecordOk F_i_RecordOk [k_i_in,k_i_nearOk] Try.func57 (by kernel_rfl) (by kernel_rfl) (by kernel_rfl)
noncomputable def k_i_Before:=Kok.mk2 seat 58 ⟨[.v true 8,.v true 8],[(false,[.s])]⟩ p_i_Before F_i_Before [] Try.func58 (by kernel_rfl) (by kernel_rfl) (by kernel_rfl)
noncomputable def k_i_StoreOk:=Kok.mk2 seat 35 ⟨[.v false 1],[(false,[.s])]⟩ p_i_StoreOk F_i_StoreOk [k_i_RecordOk,k_i_Before] Try.func35 (by kernel_rfl) (by kernel_rfl) (by kernel_rfl)
noncomputable def k_i_SelfOk:=Kok.mk2 seat 12 ⟨[.v true 7],[(false,[.s])]⟩ p_i_SelfOk F_i_SelfOk [k_i_NetOk,k_i_in,k_i_heardOk,k_i_StoreOk] Try.func12 (by kernel_rfl) (by kernel_rfl) (by kernel_rfl)
noncomputable def k_i_copyInts:=Kok.mk2 seat 42 ⟨[.v false 1],[(false,[.o true])]⟩ p_i_copyInts F_i_copyInts [] Try.func42 (by kernel_rfl) (by kernel_rfl) (by kernel_rfl)
noncomputable def k_i_copyRecord:=Kok.mk2 seat 64 ⟨[.v true 8],[(true,[.s,.s,.s,.s,.s,.o true,.s,.s])]⟩ p_i_copyRecord F_i_copyRecord [] Try.func64 (by kernel_rfl) (by kernel_rfl) (by kernel_rfl)
noncomputable def k_i_copyRecords:=Kok.mk2 seat 38 ⟨[.v false 1],[(false,[.o true])]⟩ p_i_copyRecords F_i_copyRecords [k_i_copyRecord] Try.func38 (by kernel_rfl) (by kernel_rfl) (by kernel_rfl)
noncomputable def k_i_copySelf:=Kok.mk2 seat 36 ⟨[.v true 7],[(true,[.s,.s,.s,.o true,.o true,.o true,.o true])]⟩ p_i_copySelf F_i_copySelf [k_i_copyNet,k_i_copyRecords,k_i_copyInts] Try.func36 (by kernel_rfl) (by kernel_rfl) (by kernel_rfl)
noncomputable def k_i_AreasOf:=Kok.mk2 seat 29 ⟨[.v true 3,.v false 1],[(false,[.o true])]⟩ p_i_AreasOf F_i_AreasOf [k_i_copyInts] Try.func29 (by kernel_rfl) (by kernel_rfl) (by kernel_rfl)
noncomputable def k_i_CostTo:=Kok.mk2 seat 77 ⟨[.v true 3,.v false 1,.v false 1,.v false 1],[(false,[.s])]⟩ p_i_CostTo F_i_CostTo [k_i_linkAt] Try.func77 (by kernel_rfl) (by kernel_rfl) (by kernel_rfl)
noncomputable def k_i_own:=Kok.mk2 seat 72 ⟨[.v true 7],[(false,[.o true])]⟩ p_i_own F_i_own [k_i_AreasOf,k_i_CostTo] Try.func72 (by kernel_rfl) (by kernel_rfl) (by kernel_rfl)
noncomputable def k_i_SameKey:=Kok.mk2 seat 65 ⟨[.v true 8,.v true 8],[(false,[.s])]⟩ p_i_SameKey F_i_SameKey [] Try.func65 (by kernel_rfl) (by kernel_rfl) (by kernel_rfl)
noncomputable def k_i_put:=Kok.mk2 seat 39 ⟨[.v false 1,.v true 8],[(false,[.o true])]⟩ p_i_put F_i_put [k_i_copyRecords,k_i_Before,k_i_copyRecord,k_i_SameKey] Try.func39 (by kernel_rfl) (by kernel_rfl) (by kernel_rfl)
noncomputable def k_i_hasInt:=Kok.mk2 seat 47 ⟨[.v false 1,.v false 1],[(false,[.s])]⟩ p_i_hasInt F_i_hasInt [] Try.func47 (by kernel_rfl) (by kernel_rfl) (by kernel_rfl)
noncomputable def k_i_Border:=Kok.mk2 seat 30 ⟨[.v true 3,.v false 1],[(false,[.s])]⟩ p_i_Border F_i_Border [k_i_AreasOf,k_i_hasInt] Try.func30 (by kernel_rfl) (by kernel_rfl) (by kernel_rfl)
noncomputable def k_i_by:=Kok.mk2 seat 73 ⟨[.v false 1,.v false 1,.v false 1],[(false,[.o false])]⟩ p_i_by F_i_by [k_i_put] Try.func73 (by kernel_rfl) (by kernel_rfl) (by kernel_rfl)
noncomputable def k_i_keyAt:=Kok.mk2 seat 60 ⟨[.v false 1,.v true 8],[(false,[.s])]⟩ p_i_keyAt F_i_keyAt [k_i_SameKey] Try.func60 (by kernel_rfl) (by kernel_rfl) (by kernel_rfl)
noncomputable def k_i_told:=Kok.mk2 seat 80 ⟨[.v false 1,.v false 1,.v false 1,.v false 1],[(false,[.s])]⟩ p_i_told F_i_told [k_i_keyAt] Try.func80 (by kernel_rfl) (by kernel_rfl) (by kernel_rfl)
noncomputable def k_i_Linked:=Kok.mk2 seat 79 ⟨[.v false 1,.v false 1,.v false 1,.v false 1],[(false,[.s])]⟩ p_i_Linked F_i_Linked [k_i_told] Try.func79 (by kernel_rfl) (by kernel_rfl) (by kernel_rfl)
noncomputable def k_i_copyWay:=Kok.mk2 seat 76 ⟨[.v true 3],[(true,[.s,.s,.o true])]⟩ p_i_copyWay F_i_copyWay [k_i_copyInts] Try.func76 (by kernel_rfl) (by kernel_rfl) (by kernel_rfl)
noncomputable def k_i_Together:=Kok.mk2 seat 70 ⟨[.v true 3,.v true 3],[(true,[.s,.s,.o true])]⟩ p_i_Together F_i_Together [k_i_copyInts,k_i_copyWay] Try.func70 (by kernel_rfl) (by kernel_rfl) (by kernel_rfl)
noncomputable def k_i_WaysIn:=Kok.mk2 seat 67 ⟨[.v false 1,.v false 1,.v false 1],[(false,[.o true])]⟩ p_i_WaysIn F_i_WaysIn [k_i_in,k_i_StoreOk,k_i_copyInts,k_i_hasInt,k_i_keyAt,k_i_Together,k_i_Linked] Try.func67 (by kernel_rfl) (by kernel_rfl) (by kernel_rfl)
noncomputable def k_i_WayTo:=Kok.mk2 seat 69 ⟨[.v false 1,.v false 1],[(true,[.s,.s,.o true]),(false,[.s])]⟩ p_i_WayTo F_i_WayTo [k_i_copyWay] Try.func69 (by kernel_rfl) (by kernel_rfl) (by kernel_rfl)
noncomputable def k_i_RoutesWithin:=Kok.mk2 seat 51 ⟨[.v false 1,.v false 1,.v false 1],[(false,[.o true])]⟩ p_i_RoutesWithin F_i_RoutesWithin [k_i_WaysIn,k_i_Together,k_i_copyWay] Try.func51 (by kernel_rfl) (by kernel_rfl) (by kernel_rfl)
noncomputable def k_i_RoutesBeyond:=Kok.mk2 seat 52 ⟨[.v false 1,.v false 1,.v false 1,.v false 1],[(false,[.o true])]⟩ p_i_RoutesBeyond F_i_RoutesBeyond [k_i_hasInt,k_i_RoutesWithin,k_i_WaysIn,k_i_WayTo,k_i_Together,k_i_copyWay] Try.func52 (by kernel_rfl) (by kernel_rfl) (by kernel_rfl)
noncomputable def k_i_Beyond:=Kok.mk2 seat 74 ⟨[.v false 1,.v false 1,.v false 1,.v false 1],[(false,[.o true])]⟩ p_i_Beyond F_i_Beyond [k_i_put,k_i_RoutesWithin,k_i_RoutesBeyond,k_i_keyAt,k_i_WaysIn,k_i_WayTo] Try.func74 (by kernel_rfl) (by kernel_rfl) (by kernel_rfl)
noncomputable def k_i_Wanted:=Kok.mk2 seat 59 ⟨[.v true 7],[(false,[.o true])]⟩ p_i_Wanted F_i_Wanted [k_i_SelfOk,k_i_AreasOf,k_i_Border,k_i_put,k_i_own,k_i_by,k_i_Beyond] Try.func59 (by kernel_rfl) (by kernel_rfl) (by kernel_rfl)
noncomputable def k_i_SameBody:=Kok.mk2 seat 61 ⟨[.v true 8,.v true 8],[(false,[.s])]⟩ p_i_SameBody F_i_SameBody [k_i_SameKey] Try.func61 (by kernel_rfl) (by kernel_rfl) (by kernel_rfl)
noncomputable def k_i_seqOf:=Kok.mk2 seat 62 ⟨[.v true 7,.v true 8],[(false,[.s])]⟩ p_i_seqOf F_i_seqOf [k_i_keyAt] Try.func62 (by kernel_rfl) (by kernel_rfl) (by kernel_rfl)
noncomputable def k_i_gone:=Kok.mk2 seat 63 ⟨[.v true 8],[(true,[.s,.s,.s,.s,.s,.o true,.s,.s])]⟩ p_i_gone F_i_gone [] Try.func63 (by kernel_rfl) (by kernel_rfl) (by kernel_rfl)
noncomputable def k_i_fresh:=Kok.mk2 seat 37 ⟨[.v true 7],[(false,[.o true])]⟩ p_i_fresh F_i_fresh [k_i_put,k_i_Wanted,k_i_keyAt,k_i_SameBody,k_i_seqOf,k_i_gone] Try.func37 (by kernel_rfl) (by kernel_rfl) (by kernel_rfl)
noncomputable def k_i_Renew:=Kok.mk2 seat 13 ⟨[.v true 7],[(true,[.s,.s,.s,.o true,.o true,.o true,.o true]),(false,[.o true])]⟩ p_i_Renew F_i_Renew [k_i_SelfOk,k_i_copySelf,k_i_fresh,k_i_copyRecords,k_i_put] Try.func13 (by kernel_rfl) (by kernel_rfl) (by kernel_rfl)
noncomputable def k_i_earsOf:=Kok.mk2 seat 14 ⟨[.v true 3,.v false 1],[(false,[.o true])]⟩ p_i_earsOf F_i_earsOf [k_i_linkAt] Try.func14 (by kernel_rfl) (by kernel_rfl) (by kernel_rfl)
noncomputable def k_i_NodeNew:=Kok.mk2 seat 5 ⟨[.v true 3,.v false 1,.v false 1],[(true,[.s,.s,.s,.o true,.o true,.o true,.o true,.o true]),(false,[.s])]⟩ p_i_NodeNew F_i_NodeNew [k_i_copyNet,k_i_SelfOk,k_i_Renew,k_i_earsOf] Try.func5 (by kernel_rfl) (by kernel_rfl) (by kernel_rfl)
noncomputable def k_i_copyNode:=Kok.mk2 seat 15 ⟨[.v true 8],[(true,[.s,.s,.s,.o true,.o true,.o true,.o true,.o true])]⟩ p_i_copyNode F_i_copyNode [k_i_copySelf] Try.func15 (by kernel_rfl) (by kernel_rfl) (by kernel_rfl)
noncomputable def k_i_heardBy:=Kok.mk2 seat 17 ⟨[.v false 1],[(false,[.o true])]⟩ p_i_heardBy F_i_heardBy [] Try.func17 (by kernel_rfl) (by kernel_rfl) (by kernel_rfl)
noncomputable def k_i_sameInts:=Kok.mk2 seat 41 ⟨[.v false 1,.v false 1],[(false,[.s])]⟩ p_i_sameInts F_i_sameInts [] Try.func41 (by kernel_rfl) (by kernel_rfl) (by kernel_rfl)
noncomputable def k_i_NodeOk:=Kok.mk2 seat 16 ⟨[.v true 8],[(false,[.s])]⟩ p_i_NodeOk F_i_NodeOk [k_i_SelfOk,k_i_earsOf,k_i_heardBy,k_i_in,k_i_sameInts] Try.func16 (by kernel_rfl) (by kernel_rfl) (by kernel_rfl)
noncomputable def k_i_Node_say:=Kok.mk2 seat 20 ⟨[.x 8,.v false 1,.v true 4,.v false 1,.v false 1],[(true,[.s,.s,.s,.s,.p,.p])]⟩ p_i_Node_say F_i_Node_say [] Try.func20 (by kernel_rfl) (by kernel_rfl) (by kernel_rfl)
noncomputable def k_i_Scope:=Kok.mk2 seat 43 ⟨[.v false 1,.v false 1],[(false,[.o true])]⟩ p_i_Scope F_i_Scope [k_i_copyRecord] Try.func43 (by kernel_rfl) (by kernel_rfl) (by kernel_rfl)
noncomputable def k_i_header:=Kok.mk2 seat 44 ⟨[.v true 8],[(true,[.s,.s,.s,.s,.s,.o true,.s,.s])]⟩ p_i_header F_i_header [] Try.func44 (by kernel_rfl) (by kernel_rfl) (by kernel_rfl)
noncomputable def k_i_Headers:=Kok.mk2 seat 21 ⟨[.v false 1,.v false 1],[(false,[.o true])]⟩ p_i_Headers F_i_Headers [k_i_Scope,k_i_header] Try.func21 (by kernel_rfl) (by kernel_rfl) (by kernel_rfl)
noncomputable def k_i_TickNode:=Kok.mk2 seat 6 ⟨[.v true 8],[(true,[.s,.s,.s,.p,.p,.p,.p,.p]),(false,[.p])]⟩ p_i_TickNode F_i_TickNode [k_i_Renew,k_i_copyNode,k_i_NodeOk,k_i_heardBy,k_i_Node_say,k_i_Headers,k_i_copyInts] Try.func6 (by kernel_rfl) (by kernel_rfl) (by kernel_rfl)
noncomputable def k_i_earAt:=Kok.mk2 seat 22 ⟨[.v true 8,.v false 1,.v false 1],[(false,[.s])]⟩ p_i_earAt F_i_earAt [] Try.func22 (by kernel_rfl) (by kernel_rfl) (by kernel_rfl)
noncomputable def k_i_heardUp:=Kok.mk2 seat 45 ⟨[.v false 1],[(false,[.s])]⟩ p_i_heardUp F_i_heardUp [k_i_in] Try.func45 (by kernel_rfl) (by kernel_rfl) (by kernel_rfl)
noncomputable def k_i_sumsOk:=Kok.mk2 seat 46 ⟨[.v false 1],[(false,[.s])]⟩ p_i_sumsOk F_i_sumsOk [k_i_header,k_i_SameBody] Try.func46 (by kernel_rfl) (by kernel_rfl) (by kernel_rfl)
noncomputable def k_i_PacketOk:=Kok.mk2 seat 23 ⟨[.v true 6],[(false,[.s])]⟩ p_i_PacketOk F_i_PacketOk [k_i_in,k_i_StoreOk,k_i_heardUp,k_i_sumsOk] Try.func23 (by kernel_rfl) (by kernel_rfl) (by kernel_rfl)
noncomputable def k_i_newest:=Kok.mk2 seat 50 ⟨[.v false 1,.v false 1],[(false,[.o true])]⟩ p_i_newest F_i_newest [k_i_put,k_i_keyAt] Try.func50 (by kernel_rfl) (by kernel_rfl) (by kernel_rfl)
noncomputable def k_i_Newer:=Kok.mk2 seat 48 ⟨[.v false 1,.v false 1],[(false,[.o true])]⟩ p_i_Newer F_i_Newer [k_i_keyAt,k_i_copyRecord] Try.func48 (by kernel_rfl) (by kernel_rfl) (by kernel_rfl)
noncomputable def k_i_Install:=Kok.mk2 seat 66 ⟨[.v false 1,.v true 8],[(false,[.o true]),(false,[.s])]⟩ p_i_Install F_i_Install [k_i_StoreOk,k_i_put,k_i_RecordOk,k_i_keyAt] Try.func66 (by kernel_rfl) (by kernel_rfl) (by kernel_rfl)
noncomputable def k_i_learned:=Kok.mk2 seat 49 ⟨[.v false 1,.v false 1],[(false,[.o true]),(false,[.o true])]⟩ p_i_learned F_i_learned [k_i_copyRecords,k_i_copyRecord,k_i_Install] Try.func49 (by kernel_rfl) (by kernel_rfl) (by kernel_rfl)
noncomputable def k_i_Learn:=Kok.mk2 seat 26 ⟨[.v true 7,.v false 1],[(true,[.s,.s,.s,.o true,.o true,.o true,.o true]),(false,[.o true])]⟩ p_i_Learn F_i_Learn [k_i_SelfOk,k_i_copySelf,k_i_learned] Try.func26 (by kernel_rfl) (by kernel_rfl) (by kernel_rfl)
noncomputable def k_i_HearNode:=Kok.mk2 seat 7 ⟨[.v true 8,.v true 6],[(true,[.s,.s,.s,.p,.p,.p,.p,.p]),(false,[.p])]⟩ p_i_HearNode F_i_HearNode [k_i_Renew,k_i_copyNode,k_i_NodeOk,k_i_heardBy,k_i_Node_say,k_i_Headers,k_i_earAt,k_i_PacketOk,k_i_Learn,k_i_Scope,k_i_hasInt,k_i_Newer,k_i_newest] Try.func7 (by kernel_rfl) (by kernel_rfl) (by kernel_rfl)
noncomputable def k_i_thing:=Kok.mk2 seat 53 ⟨[.v false 1,.v false 1,.v false 1,.v false 1],[(true,[.s,.s,.s,.s,.s,.o true]),(false,[.s])]⟩ p_i_thing F_i_thing [k_i_WayTo,k_i_Together] Try.func53 (by kernel_rfl) (by kernel_rfl) (by kernel_rfl)
noncomputable def k_i_RoutesOf:=Kok.mk2 seat 28 ⟨[.v false 1,.v false 1,.v false 1,.v false 1],[(false,[.o true])]⟩ p_i_RoutesOf F_i_RoutesOf [k_i_copyInts,k_i_RoutesWithin,k_i_RoutesBeyond,k_i_thing] Try.func28 (by kernel_rfl) (by kernel_rfl) (by kernel_rfl)
noncomputable def k_i_Routes:=Kok.mk2 seat 8 ⟨[.v true 8],[(false,[.o true])]⟩ p_i_Routes F_i_Routes [k_i_NodeOk,k_i_RoutesOf,k_i_AreasOf,k_i_Border] Try.func8 (by kernel_rfl) (by kernel_rfl) (by kernel_rfl)
noncomputable def k_same:=Kok.mk2 seat 31 ⟨[.v true 8,.v true 8],[(false,[.s])]⟩ p_same F_same [] Try.func31 (by kernel_rfl) (by kernel_rfl) (by kernel_rfl)
noncomputable def k_sameStore:=Kok.mk2 seat 9 ⟨[.v false 1,.v false 1],[(false,[.s])]⟩ p_sameStore F_sameStore [k_same] Try.func9 (by kernel_rfl) (by kernel_rfl) (by kernel_rfl)
noncomputable def k_sameInts:=Kok.mk2 seat 10 ⟨[.v false 1,.v false 1],[(false,[.s])]⟩ p_sameInts F_sameInts [] Try.func10 (by kernel_rfl) (by kernel_rfl) (by kernel_rfl)
noncomputable def k_FnTalks:=Kok.mk2 seat 3 ⟨[.v false 1],[(false,[.s])]⟩ p_FnTalks F_FnTalks [k_big,k_i_NodeNew,k_i_TickNode,k_i_HearNode,k_i_Routes,k_sameStore,k_sameInts] Try.func3 (by kernel_rfl) (by kernel_rfl) (by kernel_rfl)
end Go.Proofs.YtjimmglpkndemaaWT

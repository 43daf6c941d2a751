/- Drawn nets with links and nodes that are down; drawn places. Conditions: none. -/
import Derived.Test.YtbhplkilhknciaaDoorXSDb
namespace Go.Proofs.YtbhplkilhknciaaDoorC
open Int (reduceLE reduceLT reduceEq reduceGT reduceGE reduceAdd reduceSub reduceMul reduceNeg)
set_option linter.unusedVariables false
set_option linter.unusedSimpArgs false
theorem netOk_n {x:Net} (h:netOk x=true):1≤x.n∧x.n≤6:=by
 unfold netOk at h
 simp only [Bool.and_eq_true] at h
 exact inB_iff.1 h.1.1.1.1
theorem step131 {B:List Int} (hB:∀ x∈B,OkByte x) (hl:B.length≤1048576) (h:Int) {k:Nat} (hc:(k:Int) < B.length) :
  ∃ m a c d,Prim.ev (.bin .mul) [ii h,ii 131]=some (ii m)∧Prim.ev .bnd [.l (B.map eByte),ii k]=some (bb true)∧Prim.ev (.cell 1 0) [.l (B.map eByte),ii k]=some (u8 (gt B k))∧Prim.ev (.cnv .i64) [u8 (gt B k)]=some (ii (gt B k)) ∧
   Prim.ev (.bin .add) [ii m,ii (gt B k)]=some (ii a)∧Prim.ev (.bin .add) [ii a,ii 7]=some (ii c)∧Prim.ev (.bin .and) [ii c,ii 1073741823]=some (ii d):=by
 have hx:=hB _ (gt_mem (l:=B) (n:=(k:Int)) (by omega) hc)
 obtain ⟨m,hm⟩:∃ m,Prim.ev (.bin .mul) [ii h,ii 131]=some (ii m):=⟨_,ev_mul _ _ _⟩
 obtain ⟨a,ha⟩:∃ a,Prim.ev (.bin .add) [ii m,ii (gt B k)]=some (ii a):=⟨_,ev_add _ _ _⟩
 obtain ⟨c,hcc⟩:∃ c,Prim.ev (.bin .add) [ii a,ii 7]=some (ii c):=⟨_,ev_add _ _ _⟩
 obtain ⟨d,hd⟩:=ev_andw c 1073741823
 exact ⟨m,a,c,d,hm,ev_bndZ (by omega) hc,cell_Byte (by omega) hc,ev_cnv8 hx.1 hx.2,ha,hcc,hd⟩
theorem dec_code (ts:List T) (h:WTs [.sl yByte] ts):∃ B:List Int,ts=[.l (B.map eByte)]∧∀ x∈B,OkByte x:=by
 obtain ⟨t1,_,rfl,q1,rfl⟩:=WTsU_of h
 unfold WT at q1
 obtain ⟨z1,rfl,m1,g1⟩:=q1
 obtain ⟨B,rfl,hB⟩:=dec_list dByte g1
 exact ⟨B,rfl,hB⟩
theorem e_big (B:List Int):F_big [.l (B.map eByte)]=some [bb (decide ((B.length:Int) > 1048576))]:=by
 have hn:Prim.ev .len [.l (B.map eByte)]=some (ii B.length):=ev_lenM
 rw [g_big]
 simp (disch:=omega) only [↓pq,↓pj,ps,pz,↓reduceIte,reduceLE,reduceLT,reduceEq,reduceGT,reduceGE,reduceAdd,reduceSub,reduceMul,reduceNeg,G_big,hn]
 try rfl
end Go.Proofs.YtbhplkilhknciaaDoorC

/- Drawn nets with links and nodes that are down; drawn places. Conditions: none. -/
import Derived.Test.YtjimmglpkndemaaGreatXSDb
namespace Go.Proofs.YtjimmglpkndemaaGreatC
open Int renaming reduceLE → Q0_, reduceLT → Q1_, reduceEq → Q2_, reduceGT → Q3_, reduceGE → Q4_, reduceAdd → Q5_, reduceSub → Q6_, reduceMul → Q7_, reduceNeg → Q8_
set_option linter.unusedVariables false
set_option linter.unusedSimpArgs false
theorem ap7_ {x:Net} (h:wn_ x=true):1≤x.n∧x.n≤6:=by
 unfold wn_ at h
 simp only [bA_] at h
 exact inB_iff.1 h.1.1.1.1
theorem aMl_ {B:List Int} (hB:∀ x∈B,vA_ x) (hl:B.length≤1048576) (h:Int) {k:Nat} (hc:(k:Int) < B.length) :
  ∃ m a c d,Prim.ev (.bin .mul) [ii h,ii 131]=some (ii m)∧Prim.ev .bnd [.l (B.map yl_),ii k]=some (bb true)∧Prim.ev (.cell 1 0) [.l (B.map yl_),ii k]=some (u8 (gt B k))∧Prim.ev (.cnv .i64) [u8 (gt B k)]=some (ii (gt B k)) ∧
   Prim.ev (.bin .add) [ii m,ii (gt B k)]=some (ii a)∧Prim.ev (.bin .add) [ii a,ii 7]=some (ii c)∧Prim.ev (.bin .and) [ii c,ii 1073741823]=some (ii d):=by
 have hx:=hB _ (zS_ (l:=B) (n:=(k:Int)) (by omega) hc)
 obtain ⟨m,hm⟩:∃ m,Prim.ev (.bin .mul) [ii h,ii 131]=some (ii m):=⟨_,at9_ _ _ _⟩
 obtain ⟨a,ha⟩:∃ a,Prim.ev (.bin .add) [ii m,ii (gt B k)]=some (ii a):=⟨_,k5_ _ _ _⟩
 obtain ⟨c,hcc⟩:∃ c,Prim.ev (.bin .add) [ii a,ii 7]=some (ii c):=⟨_,k5_ _ _ _⟩
 obtain ⟨d,hd⟩:=aL3_ c 1073741823
 exact ⟨m,a,c,d,hm,akd_ (by omega) hc,aq3_ (by omega) hc,aBa_ hx.1 hx.2,ha,hcc,hd⟩
theorem aKr_ (ts:List T) (h:WTs [.sl aE9_] ts):∃ B:List Int,ts=[.l (B.map yl_)]∧∀ x∈B,vA_ x:=by
 obtain ⟨t1,_,rfl,q1,rfl⟩:=apo_ h
 unfold WT at q1
 obtain ⟨z1,rfl,m1,g1⟩:=q1
 obtain ⟨B,rfl,hB⟩:=awp_ aPn_ g1
 exact ⟨B,rfl,hB⟩
theorem aLy_ (B:List Int):aky_ [.l (B.map yl_)]=some [bb (decide ((B.length:Int) > 1048576))]:=by
 have hn:Prim.ev .len [.l (B.map yl_)]=some (ii B.length):=ky_
 rw [aPh_]
 simp (disch:=omega) only [↓pq,↓pj,ps,pz,↓reduceIte,Q0_,Q1_,Q2_,Q3_,Q4_,Q5_,Q6_,Q7_,Q8_,aEp_,hn]
 try rfl
end Go.Proofs.YtjimmglpkndemaaGreatC

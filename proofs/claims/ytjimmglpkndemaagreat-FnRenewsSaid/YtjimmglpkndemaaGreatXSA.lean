/- What the small functions compute: words, nets, records, stores. Conditions: none. -/
import Derived.Test.YtjimmglpkndemaaGreatXGN
namespace Go.Proofs.YtjimmglpkndemaaGreatC
open Int renaming reduceLE → Q0_, reduceLT → Q1_, reduceEq → Q2_, reduceGT → Q3_, reduceGE → Q4_, reduceAdd → Q5_, reduceSub → Q6_, reduceMul → Q7_, reduceNeg → Q8_
set_option linter.unusedVariables false
set_option linter.unusedSimpArgs false
theorem yx_ (p:Prop) [Decidable p] (x y:Bool):(if p then some [bb x] else some [bb y])=some [bb (if p then x else y)]:=by by_cases h:p <;> simp [h]
def inB (a lo hi:Int):Bool:=decide (lo≤a) && decide (a≤hi)
theorem inB_iff {a lo hi:Int}:inB a lo hi=true↔lo≤a∧a≤hi:=by simp [inB]
theorem aco_ (a lo hi:Int):wd_ [ii a,ii lo,ii hi]=some [bb (inB a lo hi)]:=by
 rw [aOv_];simp (disch:=omega) only [↓pq,↓pj,ps,pz,↓reduceIte,Q0_,Q1_,Q2_,Q3_,Q4_,Q5_,Q6_,Q7_,Q8_,awn_,yx_];unfold inB
 by_cases h:a ≥ lo <;> simp [h] <;> omega
theorem uB_ (a lo hi:Int):yt_ [ii a,ii lo,ii hi]=some [bb (inB a lo hi)]:=by
 rw [aIz_];simp (disch:=omega) only [↓pq,↓pj,ps,pz,↓reduceIte,Q0_,Q1_,Q2_,Q3_,Q4_,Q5_,Q6_,Q7_,Q8_,aiy_,yx_];unfold inB
 by_cases h:a ≥ lo <;> simp [h] <;> omega
def yo_ (n:Int) (l:Link):Bool:=inB n 1 6 && inB l.a 1 n && inB l.b 1 n && decide (l.a < l.b) && inB l.cost 1 1000 && inB l.area 0 2
theorem aDt_ (n a b c ar:Int):qM_ [ii n,ii a,ii b,ii c,ii ar]=some [bb (yo_ n ⟨a,b,c,ar⟩)]:=by
 rw [aB1_];simp (disch:=omega) only [↓pq,↓pj,ps,pz,↓reduceIte,Q0_,Q1_,Q2_,Q3_,Q4_,Q5_,Q6_,Q7_,Q8_,aht_,aco_,yx_];unfold yo_
 grind
theorem aDq_ (n a b c ar:Int):qC_ [ii n,ii a,ii b,ii c,ii ar]=some [bb (yo_ n ⟨a,b,c,ar⟩)]:=by
 rw [aB4_];simp (disch:=omega) only [↓pq,↓pj,ps,pz,↓reduceIte,Q0_,Q1_,Q2_,Q3_,Q4_,Q5_,Q6_,Q7_,Q8_,ag8_,uB_,yx_];unfold yo_
 grind
def zI_ (x y:Link):Bool:=decide (x.a < y.a∨x.a=y.a∧(x.b < y.b∨x.b=y.b∧x.area < y.area))
theorem aIa_ (a b c d a' b' c' d':Int):jY_ [ii a,ii b,ii c,ii d,ii a',ii b',ii c',ii d']=some [bb (zI_ ⟨a,b,c,d⟩ ⟨a',b',c',d'⟩)]:=by
 rw [aFz_];simp (disch:=omega) only [↓pq,↓pj,ps,pz,↓reduceIte,Q0_,Q1_,Q2_,Q3_,Q4_,Q5_,Q6_,Q7_,Q8_,air_,yx_];unfold zI_
 grind
theorem qx_ (a b c d a' b' c' d':Int):wq_ [ii a,ii b,ii c,ii d,ii a',ii b',ii c',ii d']=some [bb (zI_ ⟨a,b,c,d⟩ ⟨a',b',c',d'⟩)]:=by
 rw [axh_];simp (disch:=omega) only [↓pq,↓pj,ps,pz,↓reduceIte,Q0_,Q1_,Q2_,Q3_,Q4_,Q5_,Q6_,Q7_,Q8_,abk_,yx_];unfold zI_
 grind
def yR_ (x y:Thing):Bool:=decide (x.key < y.key∨x.key=y.key∧x.owner < y.owner)
theorem aKg_ (a b c a' b' c':Int) (d d':Bool):kB_ [ii a,ii b,ii c,bb d,ii a',ii b',ii c',bb d']=some [bb (yR_ ⟨a,b,c,d⟩ ⟨a',b',c',d'⟩)]:=by
 rw [aJp_];simp (disch:=omega) only [↓pq,↓pj,ps,pz,↓reduceIte,Q0_,Q1_,Q2_,Q3_,Q4_,Q5_,Q6_,Q7_,Q8_,amq_,yx_];unfold yR_
 grind
theorem qo_ (a b c a' b' c':Int) (d d':Bool):wD_ [ii a,ii b,ii c,bb d,ii a',ii b',ii c',bb d']=some [bb (yR_ ⟨a,b,c,d⟩ ⟨a',b',c',d'⟩)]:=by
 rw [awj_];simp (disch:=omega) only [↓pq,↓pj,ps,pz,↓reduceIte,Q0_,Q1_,Q2_,Q3_,Q4_,Q5_,Q6_,Q7_,Q8_,acy_,yx_];unfold yR_
 grind
def ascB {α:Type} [Inhabited α] (ok:α→Bool) (lt:α→α→Bool) (l:List α):Bool :=
 allB l.length fun i=>ok (gt l i) && (!decide ((i:Int) > 0) || lt (gt l (i - 1:Int)) (gt l i))
def vc_ (n:Int) (t:Thing):Bool:=inB t.owner 1 n && inB t.key 1 9 && inB t.cost 1 1000
def wn_ (x:Net):Bool:=inB x.n 1 6 && decide (x.links.length≤12) && decide (x.things.length≤4) && ascB (yo_ x.n) zI_ x.links && ascB (vc_ x.n) yR_ x.things
theorem aif_ (n:Int) (ls:List Link) (ts:List Thing) (h1:ls.length≤1048576) (h2:ts.length≤1048576):vQ_ [ii n,.l (ls.map zr_),.l (ts.map zo_)]=some [bb (wn_ ⟨n,ls,ts⟩)]:=by
 rw [aF5_];simp (disch:=omega) only [↓pq,↓pj,ps,pz,↓reduceIte,Q0_,Q1_,Q2_,Q3_,Q4_,Q5_,Q6_,Q7_,Q8_,vz_,vG_,aja_,uB_]
 rw [show iter _ _ _=(some [bb (ascB (yo_ n) zI_ ls && ascB (vc_ n) yR_ ts)]:Option (List T)) from ?_]
 ·simp (disch:=omega) only [↓pq,↓pj,ps,pz,↓reduceIte,Q0_,Q1_,Q2_,Q3_,Q4_,Q5_,Q6_,Q7_,Q8_,vz_,vG_,yx_];unfold wn_;grind
 refine (acm_ ls.length (fun i=>[bb false,ii i]) (fun i=>yo_ n (gt ls i) && (!decide ((i:Int) > 0) || zI_ (gt ls (i - 1:Int)) (gt ls i))) (outF:=some [bb false]) (outT:=some [bb (ascB (vc_ n) yR_ ts)]) ?_ ?_ (by unfold rounds;omega)).trans ?_
 ·intro i hi s
  simp (disch:=omega) only [↓pq,↓pj,ps,pz,↓reduceIte,Q0_,Q1_,Q2_,Q3_,Q4_,Q5_,Q6_,Q7_,Q8_,vz_,vG_,hi,aDq_,qx_]
  grind
 ·intro s
  simp (disch:=omega) only [↓pq,↓pj,ps,pz,↓reduceIte,Q0_,Q1_,Q2_,Q3_,Q4_,Q5_,Q6_,Q7_,Q8_,vz_,vG_,]
  refine (acm_ ts.length (fun i=>[bb false,ii i]) (fun i=>vc_ n (gt ts i) && (!decide ((i:Int) > 0) || yR_ (gt ts (i - 1:Int)) (gt ts i))) (outF:=some [bb false]) (outT:=some [bb true]) ?_ ?_ (by unfold rounds;omega)).trans ?_
  ·intro i hi s
   simp (disch:=omega) only [↓pq,↓pj,ps,pz,↓reduceIte,Q0_,Q1_,Q2_,Q3_,Q4_,Q5_,Q6_,Q7_,Q8_,vz_,vG_,hi,uB_,qo_]
   unfold vc_
   grind
  ·intro s
   simp (disch:=omega) only [↓pq,↓pj,ps,pz,↓reduceIte,Q0_,Q1_,Q2_,Q3_,Q4_,Q5_,Q6_,Q7_,Q8_,vz_,vG_,]
  ·rw [yx_];unfold ascB;simp
 ·rw [yx_];unfold ascB;simp
theorem aHe_ (n:Int) (ls:List Link) (ts:List Thing) (h1:ls.length≤1048576) (h2:ts.length≤1048576):jM_ [ii n,.l (ls.map zr_),.l (ts.map zo_)]=some [bb (wn_ ⟨n,ls,ts⟩)]:=by
 rw [aHj_];simp (disch:=omega) only [↓pq,↓pj,ps,pz,↓reduceIte,Q0_,Q1_,Q2_,Q3_,Q4_,Q5_,Q6_,Q7_,Q8_,vH_,vD_,ajk_,aco_]
 rw [show iter _ _ _=(some [bb (ascB (yo_ n) zI_ ls && ascB (vc_ n) yR_ ts)]:Option (List T)) from ?_]
 ·simp (disch:=omega) only [↓pq,↓pj,ps,pz,↓reduceIte,Q0_,Q1_,Q2_,Q3_,Q4_,Q5_,Q6_,Q7_,Q8_,vH_,vD_,yx_];unfold wn_;grind
 refine (acm_ ls.length (fun i=>[bb false,ii i]) (fun i=>yo_ n (gt ls i) && (!decide ((i:Int) > 0) || zI_ (gt ls (i - 1:Int)) (gt ls i))) (outF:=some [bb false]) (outT:=some [bb (ascB (vc_ n) yR_ ts)]) ?_ ?_ (by unfold rounds;omega)).trans ?_
 ·intro i hi s
  simp (disch:=omega) only [↓pq,↓pj,ps,pz,↓reduceIte,Q0_,Q1_,Q2_,Q3_,Q4_,Q5_,Q6_,Q7_,Q8_,vH_,vD_,hi,aDt_,aIa_]
  grind
 ·intro s
  simp (disch:=omega) only [↓pq,↓pj,ps,pz,↓reduceIte,Q0_,Q1_,Q2_,Q3_,Q4_,Q5_,Q6_,Q7_,Q8_,vH_,vD_,]
  refine (acm_ ts.length (fun i=>[bb false,ii i]) (fun i=>vc_ n (gt ts i) && (!decide ((i:Int) > 0) || yR_ (gt ts (i - 1:Int)) (gt ts i))) (outF:=some [bb false]) (outT:=some [bb true]) ?_ ?_ (by unfold rounds;omega)).trans ?_
  ·intro i hi s
   simp (disch:=omega) only [↓pq,↓pj,ps,pz,↓reduceIte,Q0_,Q1_,Q2_,Q3_,Q4_,Q5_,Q6_,Q7_,Q8_,vH_,vD_,hi,aco_,aKg_]
   unfold vc_
   grind
  ·intro s
   simp (disch:=omega) only [↓pq,↓pj,ps,pz,↓reduceIte,Q0_,Q1_,Q2_,Q3_,Q4_,Q5_,Q6_,Q7_,Q8_,vH_,vD_,]
  ·rw [yx_];unfold ascB;simp
 ·rw [yx_];unfold ascB;simp
def zt_ (a b ar:Int) (l:Link):Bool:=l.area == ar && (l.a == a && l.b == b || l.a == b && l.b == a)
theorem ain_ {α:Type} (p:α→Bool) (l:List α):(if zn_ p l < 0 then some [ii (-1)] else some [ii (zn_ p l)])=some [ii (zn_ p l)]:=by
 have h:=aKd_ p l
 by_cases h':zn_ p l < 0
 ·rw [if_pos h',show zn_ p l=-1 by omega]
 ·rw [if_neg h']
theorem am7_ (t0 t2:T) (ls:List Link) (a b ar:Int) (h1:ls.length≤1048576):vl_ [t0,.l (ls.map zr_),t2,ii a,ii b,ii ar]=some [ii (zn_ (zt_ a b ar) ls)]:=by
 rw [aC3_];simp (disch:=omega) only [↓pq,↓pj,ps,pz,↓reduceIte,Q0_,Q1_,Q2_,Q3_,Q4_,Q5_,Q6_,Q7_,Q8_,jh_,ahq_]
 refine (af8_ ls (fun i=>[ii 0,ii i]) (zt_ a b ar) (fun i=>some [ii i]) (outN:=some [ii (-1)]) ?_ ?_ (by unfold rounds;omega)).trans (ain_ _ _)
 ·intro i hi s
  simp (disch:=omega) only [↓pq,↓pj,ps,pz,↓reduceIte,Q0_,Q1_,Q2_,Q3_,Q4_,Q5_,Q6_,Q7_,Q8_,jh_,hi]
  unfold zt_
  grind
 ·intro s
  simp (disch:=omega) only [↓pq,↓pj,ps,pz,↓reduceIte,Q0_,Q1_,Q2_,Q3_,Q4_,Q5_,Q6_,Q7_,Q8_,jh_,]
def yM_ (ls:List Link) (a b ar:Int):Int:=if zn_ (zt_ a b ar) ls < 0 then 0 else (gt ls (zn_ (zt_ a b ar) ls)).cost
theorem j2_ (t0 t2:T) (ls:List Link) (a b ar:Int) (h1:ls.length≤1048576):xE_ [t0,.l (ls.map zr_),t2,ii a,ii b,ii ar]=some [ii (yM_ ls a b ar)]:=by
 rw [aCn_];simp (disch:=omega) only [↓pq,↓pj,ps,pz,↓reduceIte,Q0_,Q1_,Q2_,Q3_,Q4_,Q5_,Q6_,Q7_,Q8_,jo_,ahp_]
 refine (af8_ ls (fun i=>[ii 0,ii i]) (zt_ a b ar) (fun i=>some [ii (gt ls i).cost]) (outN:=some [ii 0]) ?_ ?_ (by unfold rounds;omega)).trans ?_
 ·intro i hi s
  simp (disch:=omega) only [↓pq,↓pj,ps,pz,↓reduceIte,Q0_,Q1_,Q2_,Q3_,Q4_,Q5_,Q6_,Q7_,Q8_,jo_,hi]
  unfold zt_
  grind
 ·intro s
  simp (disch:=omega) only [↓pq,↓pj,ps,pz,↓reduceIte,Q0_,Q1_,Q2_,Q3_,Q4_,Q5_,Q6_,Q7_,Q8_,jo_,]
 ·unfold yM_
  split <;> rfl
theorem aD5_ (t0 t2:T) (ls:List Link) (a b ar:Int) (h1:ls.length≤1048576):qW_ [t0,.l (ls.map zr_),t2,ii a,ii b,ii ar]=some [ii (yM_ ls a b ar)]:=by
 have h:=y9_ (zt_ a b ar) ls
 rw [aDm_];simp (disch:=omega) only [↓pq,↓pj,ps,pz,↓reduceIte,Q0_,Q1_,Q2_,Q3_,Q4_,Q5_,Q6_,Q7_,Q8_,agx_,am7_]
 unfold yM_
 grind
theorem kM_ {ls:List Link} {n:Int} (h:ascB (yo_ n) zI_ ls=true) (a b ar:Int):yM_ ls a b ar=0↔zn_ (zt_ a b ar) ls < 0:=by
 unfold yM_
 by_cases h':zn_ (zt_ a b ar) ls < 0
 ·simp [h']
 ·rw [if_neg h']
  have hl:=y9_ (zt_ a b ar) ls
  have:=allB_iff.1 h (zn_ (zt_ a b ar) ls).toNat (by omega)
  rw [show (((zn_ (zt_ a b ar) ls).toNat:Nat):Int)=zn_ (zt_ a b ar) ls by omega] at this
  simp only [bA_,yo_,inB_iff] at this
  omega
def uT_ (ok:Int→Int→Bool) (l:List Int):Bool :=
 allB (l.length / 2) fun k=>ok (gt l (2 * k:Int)) (gt l (2 * k+1:Int)) && (!decide ((k:Int) > 0) || decide (gt l (2 * k - 2:Int) < gt l (2 * k:Int)∨gt l (2 * k - 2:Int)=gt l (2 * k:Int)∧gt l (2 * k - 1:Int) < gt l (2 * k+1:Int)))
theorem axl_ (id boot n:Int) (ls:List Link) (t2 t3:T) (hd:List Int) (h1:ls.length≤1048576) (h2:hd.length≤1048576) :
  u0_ [ii id,ii boot,ii n,.l (ls.map zr_),t2,.l (hd.map eInt),t3]=some [bb (decide (hd.length % 2=0) && uT_ (fun v a=>decide (0≤zn_ (zt_ id v a) ls)) hd)]:=by
 rw [ay4_];simp (disch:=omega) only [↓pq,↓pj,ps,pz,↓reduceIte,Q0_,Q1_,Q2_,Q3_,Q4_,Q5_,Q6_,Q7_,Q8_,q2_,aeg_]
 have hm:=aLw_ hd.length
 by_cases he:hd.length % 2=0
 ·simp only [hm,he,av5_,not_true_eq_false,if_false]
  refine (w3_ (hd.length / 2) (fun k=>[bb false,ii (2 * k)]) (fun k=>decide (0≤zn_ (zt_ id (gt hd (2 * k:Int)) (gt hd (2 * k+1:Int))) ls) && (!decide ((k:Int) > 0) || decide (gt hd (2 * k - 2:Int) < gt hd (2 * k:Int)∨gt hd (2 * k - 2:Int)=gt hd (2 * k:Int)∧gt hd (2 * k - 1:Int) < gt hd (2 * k+1:Int)))) (outF:=some [bb false]) (outT:=some [bb true]) rfl (za_ (by omega)) ?_ ?_).trans ?_
  ·intro i hi s
   have hlt:2 * (i:Int) < hd.length:=by omega
   simp (disch:=omega) only [↓pq,↓pj,ps,pz,↓reduceIte,Q0_,Q1_,Q2_,Q3_,Q4_,Q5_,Q6_,Q7_,Q8_,q2_,hlt,am7_,Int.mul_add]
   grind
  ·intro s
   have hlt:¬ (2 * ((hd.length / 2:Nat):Int) < hd.length):=by omega
   simp (disch:=omega) only [↓pq,↓pj,ps,pz,↓reduceIte,Q0_,Q1_,Q2_,Q3_,Q4_,Q5_,Q6_,Q7_,Q8_,q2_,hlt]
  ·rw [yx_];unfold uT_;simp
 ·have:¬ ((hd.length % 2:Nat):Int)=0:=by omega
  simp only [hm,this,not_false_eq_true,if_true,he,decide_false,Bool.false_and]
theorem auz_ (id boot n:Int) (ls:List Link) (t2 t3:T) (hd:List Int) (h1:ls.length≤1048576) (h2:hd.length≤1048576) :
  uj_ [ii id,ii boot,ii n,.l (ls.map zr_),t2,.l (hd.map eInt),t3]=some [bb (decide (hd.length % 2=0) && (decide (hd.length≤60) && uT_ (fun v a=>!decide (yM_ ls id v a=0)) hd))]:=by
 rw [aup_];simp (disch:=omega) only [↓pq,↓pj,ps,pz,↓reduceIte,Q0_,Q1_,Q2_,Q3_,Q4_,Q5_,Q6_,Q7_,Q8_,qh_,ab0_]
 have hm:=aLw_ hd.length
 by_cases he:hd.length % 2=0
 ·have h9:¬ ((0:Int)=1):=by decide
  simp only [hm,he,av5_,h9,if_false]
  by_cases h6:hd.length≤60
  ·have h7:¬ ((hd.length:Int) > 60):=by omega
   simp only [h7,if_false]
   refine (w3_ (hd.length / 2) (fun k=>[bb false,ii (2 * k)]) (fun k=>!decide (yM_ ls id (gt hd (2 * k:Int)) (gt hd (2 * k+1:Int))=0) && (!decide ((k:Int) > 0) || decide (gt hd (2 * k - 2:Int) < gt hd (2 * k:Int)∨gt hd (2 * k - 2:Int)=gt hd (2 * k:Int)∧gt hd (2 * k - 1:Int) < gt hd (2 * k+1:Int)))) (outF:=some [bb false]) (outT:=some [bb true]) rfl (za_ (by omega)) ?_ ?_).trans ?_
   ·intro i hi s
    have hlt:2 * (i:Int) < hd.length:=by omega
    simp (disch:=omega) only [↓pq,↓pj,ps,pz,↓reduceIte,Q0_,Q1_,Q2_,Q3_,Q4_,Q5_,Q6_,Q7_,Q8_,qh_,hlt,j2_,Int.mul_add]
    grind
   ·intro s
    have hlt:¬ (2 * ((hd.length / 2:Nat):Int) < hd.length):=by omega
    simp (disch:=omega) only [↓pq,↓pj,ps,pz,↓reduceIte,Q0_,Q1_,Q2_,Q3_,Q4_,Q5_,Q6_,Q7_,Q8_,qh_,hlt]
   ·rw [yx_];unfold uT_;simp [h6]
  ·have h7:((hd.length:Int) > 60):=by omega
   simp [h7,h6]
 ·have h8:((hd.length % 2:Nat):Int)=1:=by omega
  simp only [hm,h8,if_true,he,decide_false,Bool.false_and]
end Go.Proofs.YtjimmglpkndemaaGreatC

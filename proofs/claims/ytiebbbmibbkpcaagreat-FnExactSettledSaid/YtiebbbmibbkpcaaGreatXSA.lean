/- What the small functions compute: words, nets, records, stores. Conditions: none. -/
import Derived.Test.YtiebbbmibbkpcaaGreatXGR
namespace Go.Proofs.YtiebbbmibbkpcaaGreatC
open Int (reduceLE reduceLT reduceEq reduceGT reduceGE reduceAdd reduceSub reduceMul reduceNeg)
set_option linter.unusedVariables false
set_option linter.unusedSimpArgs false
theorem yJ_ (p:Prop) [Decidable p] (x y:Bool):(if p then some [bb x] else some [bb y])=some [bb (if p then x else y)]:=by by_cases h:p <;> simp [h]
def inB (a lo hi:Int):Bool:=decide (lo≤a) && decide (a≤hi)
theorem inB_iff {a lo hi:Int}:inB a lo hi=true↔lo≤a∧a≤hi:=by simp [inB]
theorem jk_ (a lo hi:Int):xe_ [ii a,ii lo,ii hi]=some [bb (inB a lo hi)]:=by
 rw [aUs_];simp (disch:=omega) only [↓pq,ps,pz,↓reduceIte,reduceLE,reduceLT,reduceEq,reduceGT,reduceGE,reduceAdd,reduceSub,reduceMul,reduceNeg,azm_,yJ_];unfold inB
 by_cases h:a ≥ lo <;> simp [h] <;> omega
theorem vf_ (a lo hi:Int):yd_ [ii a,ii lo,ii hi]=some [bb (inB a lo hi)]:=by
 rw [aMf_];simp (disch:=omega) only [↓pq,ps,pz,↓reduceIte,reduceLE,reduceLT,reduceEq,reduceGT,reduceGE,reduceAdd,reduceSub,reduceMul,reduceNeg,akm_,yJ_];unfold inB
 by_cases h:a ≥ lo <;> simp [h] <;> omega
def yo_ (n:Int) (l:Link):Bool:=inB n 1 6 && inB l.a 1 n && inB l.b 1 n && decide (l.a < l.b) && inB l.cost 1 1000 && inB l.area 0 2
theorem aGb_ (n a b c ar:Int):qM_ [ii n,ii a,ii b,ii c,ii ar]=some [bb (yo_ n ⟨a,b,c,ar⟩)]:=by
 rw [aIa_];simp (disch:=omega) only [↓pq,ps,pz,↓reduceIte,reduceLE,reduceLT,reduceEq,reduceGT,reduceGE,reduceAdd,reduceSub,reduceMul,reduceNeg,ag0_,jk_,yJ_];unfold yo_
 grind
theorem aHq_ (n a b c ar:Int):q7_ [ii n,ii a,ii b,ii c,ii ar]=some [bb (yo_ n ⟨a,b,c,ar⟩)]:=by
 rw [aJz_];simp (disch:=omega) only [↓pq,ps,pz,↓reduceIte,reduceLE,reduceLT,reduceEq,reduceGT,reduceGE,reduceAdd,reduceSub,reduceMul,reduceNeg,agz_,vf_,yJ_];unfold yo_
 grind
def yn_ (x y:Link):Bool:=decide (x.a < y.a∨x.a=y.a∧(x.b < y.b∨x.b=y.b∧x.area < y.area))
theorem aOd_ (a b c d a' b' c' d':Int):kc_ [ii a,ii b,ii c,ii d,ii a',ii b',ii c',ii d']=some [bb (yn_ ⟨a,b,c,d⟩ ⟨a',b',c',d'⟩)]:=by
 rw [aOo_];simp (disch:=omega) only [↓pq,ps,pz,↓reduceIte,reduceLE,reduceLT,reduceEq,reduceGT,reduceGE,reduceAdd,reduceSub,reduceMul,reduceNeg,aj5_,yJ_];unfold yn_
 grind
theorem ayv_ (a b c d a' b' c' d':Int):uo_ [ii a,ii b,ii c,ii d,ii a',ii b',ii c',ii d']=some [bb (yn_ ⟨a,b,c,d⟩ ⟨a',b',c',d'⟩)]:=by
 rw [aw4_];simp (disch:=omega) only [↓pq,ps,pz,↓reduceIte,reduceLE,reduceLT,reduceEq,reduceGT,reduceGE,reduceAdd,reduceSub,reduceMul,reduceNeg,ac7_,yJ_];unfold yn_
 grind
def vi_ (x y:Thing):Bool:=decide (x.key < y.key∨x.key=y.key∧x.owner < y.owner)
theorem aPt_ (a b c a' b' c':Int) (d d':Bool):kI_ [ii a,ii b,ii c,bb d,ii a',ii b',ii c',bb d']=some [bb (vi_ ⟨a,b,c,d⟩ ⟨a',b',c',d'⟩)]:=by
 rw [aP9_];simp (disch:=omega) only [↓pq,ps,pz,↓reduceIte,reduceLE,reduceLT,reduceEq,reduceGT,reduceGE,reduceAdd,reduceSub,reduceMul,reduceNeg,an6_,yJ_];unfold vi_
 grind
theorem ayr_ (a b c a' b' c':Int) (d d':Bool):us_ [ii a,ii b,ii c,bb d,ii a',ii b',ii c',bb d']=some [bb (vi_ ⟨a,b,c,d⟩ ⟨a',b',c',d'⟩)]:=by
 rw [aw6_];simp (disch:=omega) only [↓pq,ps,pz,↓reduceIte,reduceLE,reduceLT,reduceEq,reduceGT,reduceGE,reduceAdd,reduceSub,reduceMul,reduceNeg,ac4_,yJ_];unfold vi_
 grind
def ascB {α:Type} [Inhabited α] (ok:α→Bool) (lt:α→α→Bool) (l:List α):Bool :=
 allB l.length fun i=>ok (gt l i) && (!decide ((i:Int) > 0) || lt (gt l (i - 1:Int)) (gt l i))
def vC_ (n:Int) (t:Thing):Bool:=inB t.owner 1 n && inB t.key 1 9 && inB t.cost 1 1000
def w8_ (x:Net):Bool:=inB x.n 1 6 && decide (x.links.length≤12) && decide (x.things.length≤4) && ascB (yo_ x.n) yn_ x.links && ascB (vC_ x.n) vi_ x.things
theorem ak0_ (n:Int) (ls:List Link) (ts:List Thing) (h1:ls.length≤1048576) (h2:ts.length≤1048576):vK_ [ii n,.l (ls.map zu_),.l (ts.map zt_)]=some [bb (w8_ ⟨n,ls,ts⟩)]:=by
 rw [aLy_];simp (disch:=omega) only [↓pq,ps,pz,↓reduceIte,reduceLE,reduceLT,reduceEq,reduceGT,reduceGE,reduceAdd,reduceSub,reduceMul,reduceNeg,vx_,vn_,alb_,vf_]
 rw [show iter _ _ _=(some [bb (ascB (yo_ n) yn_ ls && ascB (vC_ n) vi_ ts)]:Option (List T)) from ?_]
 ·simp (disch:=omega) only [↓pq,ps,pz,↓reduceIte,reduceLE,reduceLT,reduceEq,reduceGT,reduceGE,reduceAdd,reduceSub,reduceMul,reduceNeg,vx_,vn_,yJ_];unfold w8_;grind
 refine (ac0_ ls.length (fun i=>[bb false,ii i]) (fun i=>yo_ n (gt ls i) && (!decide ((i:Int) > 0) || yn_ (gt ls (i - 1:Int)) (gt ls i))) (outF:=some [bb false]) (outT:=some [bb (ascB (vC_ n) vi_ ts)]) ?_ ?_ (by unfold rounds;omega)).trans ?_
 ·intro i hi s
  simp (disch:=omega) only [↓pq,ps,pz,↓reduceIte,reduceLE,reduceLT,reduceEq,reduceGT,reduceGE,reduceAdd,reduceSub,reduceMul,reduceNeg,vx_,vn_,hi,aHq_,ayv_]
  grind
 ·intro s
  simp (disch:=omega) only [↓pq,ps,pz,↓reduceIte,reduceLE,reduceLT,reduceEq,reduceGT,reduceGE,reduceAdd,reduceSub,reduceMul,reduceNeg,vx_,vn_,]
  refine (ac0_ ts.length (fun i=>[bb false,ii i]) (fun i=>vC_ n (gt ts i) && (!decide ((i:Int) > 0) || vi_ (gt ts (i - 1:Int)) (gt ts i))) (outF:=some [bb false]) (outT:=some [bb true]) ?_ ?_ (by unfold rounds;omega)).trans ?_
  ·intro i hi s
   simp (disch:=omega) only [↓pq,ps,pz,↓reduceIte,reduceLE,reduceLT,reduceEq,reduceGT,reduceGE,reduceAdd,reduceSub,reduceMul,reduceNeg,vx_,vn_,hi,vf_,ayr_]
   unfold vC_
   grind
  ·intro s
   simp (disch:=omega) only [↓pq,ps,pz,↓reduceIte,reduceLE,reduceLT,reduceEq,reduceGT,reduceGE,reduceAdd,reduceSub,reduceMul,reduceNeg,vx_,vn_,]
  ·rw [yJ_];unfold ascB;simp
 ·rw [yJ_];unfold ascB;simp
theorem ak8_ (n:Int) (ls:List Link) (ts:List Thing) (h1:ls.length≤1048576) (h2:ts.length≤1048576):v3_ [ii n,.l (ls.map zu_),.l (ts.map zt_)]=some [bb (w8_ ⟨n,ls,ts⟩)]:=by
 rw [aMb_];simp (disch:=omega) only [↓pq,ps,pz,↓reduceIte,reduceLE,reduceLT,reduceEq,reduceGT,reduceGE,reduceAdd,reduceSub,reduceMul,reduceNeg,vw_,vt_,ako_,jk_]
 rw [show iter _ _ _=(some [bb (ascB (yo_ n) yn_ ls && ascB (vC_ n) vi_ ts)]:Option (List T)) from ?_]
 ·simp (disch:=omega) only [↓pq,ps,pz,↓reduceIte,reduceLE,reduceLT,reduceEq,reduceGT,reduceGE,reduceAdd,reduceSub,reduceMul,reduceNeg,vw_,vt_,yJ_];unfold w8_;grind
 refine (ac0_ ls.length (fun i=>[bb false,ii i]) (fun i=>yo_ n (gt ls i) && (!decide ((i:Int) > 0) || yn_ (gt ls (i - 1:Int)) (gt ls i))) (outF:=some [bb false]) (outT:=some [bb (ascB (vC_ n) vi_ ts)]) ?_ ?_ (by unfold rounds;omega)).trans ?_
 ·intro i hi s
  simp (disch:=omega) only [↓pq,ps,pz,↓reduceIte,reduceLE,reduceLT,reduceEq,reduceGT,reduceGE,reduceAdd,reduceSub,reduceMul,reduceNeg,vw_,vt_,hi,aGb_,aOd_]
  grind
 ·intro s
  simp (disch:=omega) only [↓pq,ps,pz,↓reduceIte,reduceLE,reduceLT,reduceEq,reduceGT,reduceGE,reduceAdd,reduceSub,reduceMul,reduceNeg,vw_,vt_,]
  refine (ac0_ ts.length (fun i=>[bb false,ii i]) (fun i=>vC_ n (gt ts i) && (!decide ((i:Int) > 0) || vi_ (gt ts (i - 1:Int)) (gt ts i))) (outF:=some [bb false]) (outT:=some [bb true]) ?_ ?_ (by unfold rounds;omega)).trans ?_
  ·intro i hi s
   simp (disch:=omega) only [↓pq,ps,pz,↓reduceIte,reduceLE,reduceLT,reduceEq,reduceGT,reduceGE,reduceAdd,reduceSub,reduceMul,reduceNeg,vw_,vt_,hi,jk_,aPt_]
   unfold vC_
   grind
  ·intro s
   simp (disch:=omega) only [↓pq,ps,pz,↓reduceIte,reduceLE,reduceLT,reduceEq,reduceGT,reduceGE,reduceAdd,reduceSub,reduceMul,reduceNeg,vw_,vt_,]
  ·rw [yJ_];unfold ascB;simp
 ·rw [yJ_];unfold ascB;simp
def zz_ (a b ar:Int) (l:Link):Bool:=l.area == ar && (l.a == a && l.b == b || l.a == b && l.b == a)
theorem ald_ {α:Type} (p:α→Bool) (l:List α):(if zq_ p l < 0 then some [ii (-1)] else some [ii (zq_ p l)])=some [ii (zq_ p l)]:=by
 have h:=aQj_ p l
 by_cases h':zq_ p l < 0
 ·rw [if_pos h',show zq_ p l=-1 by omega]
 ·rw [if_neg h']
theorem ag9_ (t0 t2:T) (ls:List Link) (a b ar:Int) (h1:ls.length≤1048576):x4_ [t0,.l (ls.map zu_),t2,ii a,ii b,ii ar]=some [ii (zq_ (zz_ a b ar) ls)]:=by
 rw [aKh_];simp (disch:=omega) only [↓pq,ps,pz,↓reduceIte,reduceLE,reduceLT,reduceEq,reduceGT,reduceGE,reduceAdd,reduceSub,reduceMul,reduceNeg,jz_,agl_]
 refine (ag3_ ls (fun i=>[ii 0,ii i]) (zz_ a b ar) (fun i=>some [ii i]) (outN:=some [ii (-1)]) ?_ ?_ (by unfold rounds;omega)).trans (ald_ _ _)
 ·intro i hi s
  simp (disch:=omega) only [↓pq,ps,pz,↓reduceIte,reduceLE,reduceLT,reduceEq,reduceGT,reduceGE,reduceAdd,reduceSub,reduceMul,reduceNeg,jz_,hi]
  unfold zz_
  grind
 ·intro s
  simp (disch:=omega) only [↓pq,ps,pz,↓reduceIte,reduceLE,reduceLT,reduceEq,reduceGT,reduceGE,reduceAdd,reduceSub,reduceMul,reduceNeg,jz_,]
def xf_ (ls:List Link) (a b ar:Int):Int:=if zq_ (zz_ a b ar) ls < 0 then 0 else (gt ls (zq_ (zz_ a b ar) ls)).cost
theorem abe_ (t0 t2:T) (ls:List Link) (a b ar:Int) (h1:ls.length≤1048576):x3_ [t0,.l (ls.map zu_),t2,ii a,ii b,ii ar]=some [ii (xf_ ls a b ar)]:=by
 rw [aGy_];simp (disch:=omega) only [↓pq,ps,pz,↓reduceIte,reduceLE,reduceLT,reduceEq,reduceGT,reduceGE,reduceAdd,reduceSub,reduceMul,reduceNeg,jA_,ah9_]
 refine (ag3_ ls (fun i=>[ii 0,ii i]) (zz_ a b ar) (fun i=>some [ii (gt ls i).cost]) (outN:=some [ii 0]) ?_ ?_ (by unfold rounds;omega)).trans ?_
 ·intro i hi s
  simp (disch:=omega) only [↓pq,ps,pz,↓reduceIte,reduceLE,reduceLT,reduceEq,reduceGT,reduceGE,reduceAdd,reduceSub,reduceMul,reduceNeg,jA_,hi]
  unfold zz_
  grind
 ·intro s
  simp (disch:=omega) only [↓pq,ps,pz,↓reduceIte,reduceLE,reduceLT,reduceEq,reduceGT,reduceGE,reduceAdd,reduceSub,reduceMul,reduceNeg,jA_,]
 ·unfold xf_
  split <;> rfl
theorem k8_ {ls:List Link} {n:Int} (h:ascB (yo_ n) yn_ ls=true) (a b ar:Int):xf_ ls a b ar=0↔zq_ (zz_ a b ar) ls < 0:=by
 unfold xf_
 by_cases h':zq_ (zz_ a b ar) ls < 0
 ·simp [h']
 ·rw [if_neg h']
  have hl:=wd_ (zz_ a b ar) ls
  have:=allB_iff.1 h (zq_ (zz_ a b ar) ls).toNat (by omega)
  rw [show (((zq_ (zz_ a b ar) ls).toNat:Nat):Int)=zq_ (zz_ a b ar) ls by omega] at this
  simp only [Bool.and_eq_true,yo_,inB_iff] at this
  omega
def kt_ (ok:Int→Int→Bool) (l:List Int):Bool :=
 allB (l.length / 2) fun k=>ok (gt l (2 * k:Int)) (gt l (2 * k+1:Int)) && (!decide ((k:Int) > 0) || decide (gt l (2 * k - 2:Int) < gt l (2 * k:Int)∨gt l (2 * k - 2:Int)=gt l (2 * k:Int)∧gt l (2 * k - 1:Int) < gt l (2 * k+1:Int)))
theorem aDo_ (id boot n:Int) (ls:List Link) (t2 t3:T) (hd:List Int) (h1:ls.length≤1048576) (h2:hd.length≤1048576) :
  u7_ [ii id,ii boot,ii n,.l (ls.map zu_),t2,.l (hd.map eInt),t3]=some [bb (decide (hd.length % 2=0) && kt_ (fun v a=>decide (0≤zq_ (zz_ id v a) ls)) hd)]:=by
 rw [aD5_];simp (disch:=omega) only [↓pq,ps,pz,↓reduceIte,reduceLE,reduceLT,reduceEq,reduceGT,reduceGE,reduceAdd,reduceSub,reduceMul,reduceNeg,qZ_,aew_]
 have hm:=aR3_ hd.length
 by_cases he:hd.length % 2=0
 ·simp only [hm,he,aAh_,not_true_eq_false,if_false]
  refine (xP_ (hd.length / 2) (fun k=>[bb false,ii (2 * k)]) (fun k=>decide (0≤zq_ (zz_ id (gt hd (2 * k:Int)) (gt hd (2 * k+1:Int))) ls) && (!decide ((k:Int) > 0) || decide (gt hd (2 * k - 2:Int) < gt hd (2 * k:Int)∨gt hd (2 * k - 2:Int)=gt hd (2 * k:Int)∧gt hd (2 * k - 1:Int) < gt hd (2 * k+1:Int)))) (outF:=some [bb false]) (outT:=some [bb true]) rfl (zc_ (by omega)) ?_ ?_).trans ?_
  ·intro i hi s
   have hlt:2 * (i:Int) < hd.length:=by omega
   simp (disch:=omega) only [↓pq,ps,pz,↓reduceIte,reduceLE,reduceLT,reduceEq,reduceGT,reduceGE,reduceAdd,reduceSub,reduceMul,reduceNeg,qZ_,hlt,ag9_,Int.mul_add]
   grind
  ·intro s
   have hlt:¬ (2 * ((hd.length / 2:Nat):Int) < hd.length):=by omega
   simp (disch:=omega) only [↓pq,ps,pz,↓reduceIte,reduceLE,reduceLT,reduceEq,reduceGT,reduceGE,reduceAdd,reduceSub,reduceMul,reduceNeg,qZ_,hlt]
  ·rw [yJ_];unfold kt_;simp
 ·have:¬ ((hd.length % 2:Nat):Int)=0:=by omega
  simp only [hm,this,not_false_eq_true,if_true,he,decide_false,Bool.false_and]
theorem aAs_ (id boot n:Int) (ls:List Link) (t2 t3:T) (hd:List Int) (h1:ls.length≤1048576) (h2:hd.length≤1048576) :
  uu_ [ii id,ii boot,ii n,.l (ls.map zu_),t2,.l (hd.map eInt),t3]=some [bb (decide (hd.length % 2=0) && (decide (hd.length≤60) && kt_ (fun v a=>!decide (xf_ ls id v a=0)) hd))]:=by
 rw [ax0_];simp (disch:=omega) only [↓pq,ps,pz,↓reduceIte,reduceLE,reduceLT,reduceEq,reduceGT,reduceGE,reduceAdd,reduceSub,reduceMul,reduceNeg,qa_,ab1_]
 have hm:=aR3_ hd.length
 by_cases he:hd.length % 2=0
 ·have h9:¬ ((0:Int)=1):=by decide
  simp only [hm,he,aAh_,h9,if_false]
  by_cases h6:hd.length≤60
  ·have h7:¬ ((hd.length:Int) > 60):=by omega
   simp only [h7,if_false]
   refine (xP_ (hd.length / 2) (fun k=>[bb false,ii (2 * k)]) (fun k=>!decide (xf_ ls id (gt hd (2 * k:Int)) (gt hd (2 * k+1:Int))=0) && (!decide ((k:Int) > 0) || decide (gt hd (2 * k - 2:Int) < gt hd (2 * k:Int)∨gt hd (2 * k - 2:Int)=gt hd (2 * k:Int)∧gt hd (2 * k - 1:Int) < gt hd (2 * k+1:Int)))) (outF:=some [bb false]) (outT:=some [bb true]) rfl (zc_ (by omega)) ?_ ?_).trans ?_
   ·intro i hi s
    have hlt:2 * (i:Int) < hd.length:=by omega
    simp (disch:=omega) only [↓pq,ps,pz,↓reduceIte,reduceLE,reduceLT,reduceEq,reduceGT,reduceGE,reduceAdd,reduceSub,reduceMul,reduceNeg,qa_,hlt,abe_,Int.mul_add]
    grind
   ·intro s
    have hlt:¬ (2 * ((hd.length / 2:Nat):Int) < hd.length):=by omega
    simp (disch:=omega) only [↓pq,ps,pz,↓reduceIte,reduceLE,reduceLT,reduceEq,reduceGT,reduceGE,reduceAdd,reduceSub,reduceMul,reduceNeg,qa_,hlt]
   ·rw [yJ_];unfold kt_;simp [h6]
  ·have h7:((hd.length:Int) > 60):=by omega
   simp [h7,h6]
 ·have h8:((hd.length % 2:Nat):Int)=1:=by omega
  simp only [hm,h8,if_true,he,decide_false,Bool.false_and]
end Go.Proofs.YtiebbbmibbkpcaaGreatC

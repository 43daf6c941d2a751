/- What the small functions compute: words, nets, records, stores. Conditions: none. -/
import Derived.Test.YtiebbbmibbkpcaaGreatXGR
namespace Go.Proofs.YtiebbbmibbkpcaaGreatC
open Int (reduceLE reduceLT reduceEq reduceGT reduceGE reduceAdd reduceSub reduceMul reduceNeg)
set_option linter.unusedVariables false
set_option linter.unusedSimpArgs false
theorem ym_ (p:Prop) [Decidable p] (x y:Bool):(if p then some [bb x] else some [bb y])=some [bb (if p then x else y)]:=by by_cases h:p <;> simp [h]
def inB (a lo hi:Int):Bool:=decide (lo≤a) && decide (a≤hi)
theorem inB_iff {a lo hi:Int}:inB a lo hi=true↔lo≤a∧a≤hi:=by simp [inB]
theorem k8_ (a lo hi:Int):xI_ [ii a,ii lo,ii hi]=some [bb (inB a lo hi)]:=by
 rw [aQ9_];simp (disch:=omega) only [↓pq,ps,pz,↓reduceIte,reduceLE,reduceLT,reduceEq,reduceGT,reduceGE,reduceAdd,reduceSub,reduceMul,reduceNeg,aup_,ym_];unfold inB
 by_cases h:a ≥ lo <;> simp [h] <;> omega
theorem vL_ (a lo hi:Int):z8_ [ii a,ii lo,ii hi]=some [bb (inB a lo hi)]:=by
 rw [aJh_];simp (disch:=omega) only [↓pq,ps,pz,↓reduceIte,reduceLE,reduceLT,reduceEq,reduceGT,reduceGE,reduceAdd,reduceSub,reduceMul,reduceNeg,ak1_,ym_];unfold inB
 by_cases h:a ≥ lo <;> simp [h] <;> omega
def xj_ (n:Int) (l:Link):Bool:=inB n 1 6 && inB l.a 1 n && inB l.b 1 n && decide (l.a < l.b) && inB l.cost 1 1000 && inB l.area 0 2
theorem aFq_ (n a b c ar:Int):qQ_ [ii n,ii a,ii b,ii c,ii ar]=some [bb (xj_ n ⟨a,b,c,ar⟩)]:=by
 rw [aGu_];simp (disch:=omega) only [↓pq,ps,pz,↓reduceIte,reduceLE,reduceLT,reduceEq,reduceGT,reduceGE,reduceAdd,reduceSub,reduceMul,reduceNeg,ah4_,k8_,ym_];unfold xj_
 grind
theorem aFi_ (n a b c ar:Int):qR_ [ii n,ii a,ii b,ii c,ii ar]=some [bb (xj_ n ⟨a,b,c,ar⟩)]:=by
 rw [aFs_];simp (disch:=omega) only [↓pq,ps,pz,↓reduceIte,reduceLE,reduceLT,reduceEq,reduceGT,reduceGE,reduceAdd,reduceSub,reduceMul,reduceNeg,ag3_,vL_,ym_];unfold xj_
 grind
def xD_ (x y:Link):Bool:=decide (x.a < y.a∨x.a=y.a∧(x.b < y.b∨x.b=y.b∧x.area < y.area))
theorem aKd_ (a b c d a' b' c' d':Int):jK_ [ii a,ii b,ii c,ii d,ii a',ii b',ii c',ii d']=some [bb (xD_ ⟨a,b,c,d⟩ ⟨a',b',c',d'⟩)]:=by
 rw [aKe_];simp (disch:=omega) only [↓pq,ps,pz,↓reduceIte,reduceLE,reduceLT,reduceEq,reduceGT,reduceGE,reduceAdd,reduceSub,reduceMul,reduceNeg,ajo_,ym_];unfold xD_
 grind
theorem av4_ (a b c d a' b' c' d':Int):ua_ [ii a,ii b,ii c,ii d,ii a',ii b',ii c',ii d']=some [bb (xD_ ⟨a,b,c,d⟩ ⟨a',b',c',d'⟩)]:=by
 rw [awg_];simp (disch:=omega) only [↓pq,ps,pz,↓reduceIte,reduceLE,reduceLT,reduceEq,reduceGT,reduceGE,reduceAdd,reduceSub,reduceMul,reduceNeg,ach_,ym_];unfold xD_
 grind
def vb_ (x y:Thing):Bool:=decide (x.key < y.key∨x.key=y.key∧x.owner < y.owner)
theorem aMs_ (a b c a' b' c':Int) (d d':Bool):kL_ [ii a,ii b,ii c,bb d,ii a',ii b',ii c',bb d']=some [bb (vb_ ⟨a,b,c,d⟩ ⟨a',b',c',d'⟩)]:=by
 rw [aM7_];simp (disch:=omega) only [↓pq,ps,pz,↓reduceIte,reduceLE,reduceLT,reduceEq,reduceGT,reduceGE,reduceAdd,reduceSub,reduceMul,reduceNeg,ane_,ym_];unfold vb_
 grind
theorem awo_ (a b c a' b' c':Int) (d d':Bool):uj_ [ii a,ii b,ii c,bb d,ii a',ii b',ii c',bb d']=some [bb (vb_ ⟨a,b,c,d⟩ ⟨a',b',c',d'⟩)]:=by
 rw [aur_];simp (disch:=omega) only [↓pq,ps,pz,↓reduceIte,reduceLE,reduceLT,reduceEq,reduceGT,reduceGE,reduceAdd,reduceSub,reduceMul,reduceNeg,aby_,ym_];unfold vb_
 grind
def ascB {α:Type} [Inhabited α] (ok:α→Bool) (lt:α→α→Bool) (l:List α):Bool :=
 allB l.length fun i=>ok (gt l i) && (!decide ((i:Int) > 0) || lt (gt l (i - 1:Int)) (gt l i))
def vt_ (n:Int) (t:Thing):Bool:=inB t.owner 1 n && inB t.key 1 9 && inB t.cost 1 1000
def uF_ (x:Net):Bool:=inB x.n 1 6 && decide (x.links.length≤12) && decide (x.things.length≤4) && ascB (xj_ x.n) xD_ x.links && ascB (vt_ x.n) vb_ x.things
theorem aHf_ (n:Int) (ls:List Link) (ts:List Thing) (h1:ls.length≤1048576) (h2:ts.length≤1048576):jY_ [ii n,.l (ls.map zt_),.l (ts.map zr_)]=some [bb (uF_ ⟨n,ls,ts⟩)]:=by
 rw [aIx_];simp (disch:=omega) only [↓pq,ps,pz,↓reduceIte,reduceLE,reduceLT,reduceEq,reduceGT,reduceGE,reduceAdd,reduceSub,reduceMul,reduceNeg,vg_,vj_,ajy_,vL_]
 rw [show iter _ _ _=(some [bb (ascB (xj_ n) xD_ ls && ascB (vt_ n) vb_ ts)]:Option (List T)) from ?_]
 ·simp (disch:=omega) only [↓pq,ps,pz,↓reduceIte,reduceLE,reduceLT,reduceEq,reduceGT,reduceGE,reduceAdd,reduceSub,reduceMul,reduceNeg,vg_,vj_,ym_];unfold uF_;grind
 refine (acy_ ls.length (fun i=>[bb false,ii i]) (fun i=>xj_ n (gt ls i) && (!decide ((i:Int) > 0) || xD_ (gt ls (i - 1:Int)) (gt ls i))) (outF:=some [bb false]) (outT:=some [bb (ascB (vt_ n) vb_ ts)]) ?_ ?_ (by unfold rounds;omega)).trans ?_
 ·intro i hi s
  simp (disch:=omega) only [↓pq,ps,pz,↓reduceIte,reduceLE,reduceLT,reduceEq,reduceGT,reduceGE,reduceAdd,reduceSub,reduceMul,reduceNeg,vg_,vj_,hi,aFi_,av4_]
  grind
 ·intro s
  simp (disch:=omega) only [↓pq,ps,pz,↓reduceIte,reduceLE,reduceLT,reduceEq,reduceGT,reduceGE,reduceAdd,reduceSub,reduceMul,reduceNeg,vg_,vj_,]
  refine (acy_ ts.length (fun i=>[bb false,ii i]) (fun i=>vt_ n (gt ts i) && (!decide ((i:Int) > 0) || vb_ (gt ts (i - 1:Int)) (gt ts i))) (outF:=some [bb false]) (outT:=some [bb true]) ?_ ?_ (by unfold rounds;omega)).trans ?_
  ·intro i hi s
   simp (disch:=omega) only [↓pq,ps,pz,↓reduceIte,reduceLE,reduceLT,reduceEq,reduceGT,reduceGE,reduceAdd,reduceSub,reduceMul,reduceNeg,vg_,vj_,hi,vL_,awo_]
   unfold vt_
   grind
  ·intro s
   simp (disch:=omega) only [↓pq,ps,pz,↓reduceIte,reduceLE,reduceLT,reduceEq,reduceGT,reduceGE,reduceAdd,reduceSub,reduceMul,reduceNeg,vg_,vj_,]
  ·rw [ym_];unfold ascB;simp
 ·rw [ym_];unfold ascB;simp
theorem aJ0_ (n:Int) (ls:List Link) (ts:List Thing) (h1:ls.length≤1048576) (h2:ts.length≤1048576):jX_ [ii n,.l (ls.map zt_),.l (ts.map zr_)]=some [bb (uF_ ⟨n,ls,ts⟩)]:=by
 rw [aJj_];simp (disch:=omega) only [↓pq,ps,pz,↓reduceIte,reduceLE,reduceLT,reduceEq,reduceGT,reduceGE,reduceAdd,reduceSub,reduceMul,reduceNeg,vf_,vi_,aj1_,k8_]
 rw [show iter _ _ _=(some [bb (ascB (xj_ n) xD_ ls && ascB (vt_ n) vb_ ts)]:Option (List T)) from ?_]
 ·simp (disch:=omega) only [↓pq,ps,pz,↓reduceIte,reduceLE,reduceLT,reduceEq,reduceGT,reduceGE,reduceAdd,reduceSub,reduceMul,reduceNeg,vf_,vi_,ym_];unfold uF_;grind
 refine (acy_ ls.length (fun i=>[bb false,ii i]) (fun i=>xj_ n (gt ls i) && (!decide ((i:Int) > 0) || xD_ (gt ls (i - 1:Int)) (gt ls i))) (outF:=some [bb false]) (outT:=some [bb (ascB (vt_ n) vb_ ts)]) ?_ ?_ (by unfold rounds;omega)).trans ?_
 ·intro i hi s
  simp (disch:=omega) only [↓pq,ps,pz,↓reduceIte,reduceLE,reduceLT,reduceEq,reduceGT,reduceGE,reduceAdd,reduceSub,reduceMul,reduceNeg,vf_,vi_,hi,aFq_,aKd_]
  grind
 ·intro s
  simp (disch:=omega) only [↓pq,ps,pz,↓reduceIte,reduceLE,reduceLT,reduceEq,reduceGT,reduceGE,reduceAdd,reduceSub,reduceMul,reduceNeg,vf_,vi_,]
  refine (acy_ ts.length (fun i=>[bb false,ii i]) (fun i=>vt_ n (gt ts i) && (!decide ((i:Int) > 0) || vb_ (gt ts (i - 1:Int)) (gt ts i))) (outF:=some [bb false]) (outT:=some [bb true]) ?_ ?_ (by unfold rounds;omega)).trans ?_
  ·intro i hi s
   simp (disch:=omega) only [↓pq,ps,pz,↓reduceIte,reduceLE,reduceLT,reduceEq,reduceGT,reduceGE,reduceAdd,reduceSub,reduceMul,reduceNeg,vf_,vi_,hi,k8_,aMs_]
   unfold vt_
   grind
  ·intro s
   simp (disch:=omega) only [↓pq,ps,pz,↓reduceIte,reduceLE,reduceLT,reduceEq,reduceGT,reduceGE,reduceAdd,reduceSub,reduceMul,reduceNeg,vf_,vi_,]
  ·rw [ym_];unfold ascB;simp
 ·rw [ym_];unfold ascB;simp
def ys_ (a b ar:Int) (l:Link):Bool:=l.area == ar && (l.a == a && l.b == b || l.a == b && l.b == a)
theorem aj5_ {α:Type} (p:α→Bool) (l:List α):(if zv_ p l < 0 then some [ii (-1)] else some [ii (zv_ p l)])=some [ii (zv_ p l)]:=by
 have h:=aL8_ p l
 by_cases h':zv_ p l < 0
 ·rw [if_pos h',show zv_ p l=-1 by omega]
 ·rw [if_neg h']
theorem ahu_ (t0 t2:T) (ls:List Link) (a b ar:Int) (h1:ls.length≤1048576):wh_ [t0,.l (ls.map zt_),t2,ii a,ii b,ii ar]=some [ii (zv_ (ys_ a b ar) ls)]:=by
 rw [aGo_];simp (disch:=omega) only [↓pq,ps,pz,↓reduceIte,reduceLE,reduceLT,reduceEq,reduceGT,reduceGE,reduceAdd,reduceSub,reduceMul,reduceNeg,js_,agw_]
 refine (ahq_ ls (fun i=>[ii 0,ii i]) (ys_ a b ar) (fun i=>some [ii i]) (outN:=some [ii (-1)]) ?_ ?_ (by unfold rounds;omega)).trans (aj5_ _ _)
 ·intro i hi s
  simp (disch:=omega) only [↓pq,ps,pz,↓reduceIte,reduceLE,reduceLT,reduceEq,reduceGT,reduceGE,reduceAdd,reduceSub,reduceMul,reduceNeg,js_,hi]
  unfold ys_
  grind
 ·intro s
  simp (disch:=omega) only [↓pq,ps,pz,↓reduceIte,reduceLE,reduceLT,reduceEq,reduceGT,reduceGE,reduceAdd,reduceSub,reduceMul,reduceNeg,js_,]
def y8_ (ls:List Link) (a b ar:Int):Int:=if zv_ (ys_ a b ar) ls < 0 then 0 else (gt ls (zv_ (ys_ a b ar) ls)).cost
theorem j6_ (t0 t2:T) (ls:List Link) (a b ar:Int) (h1:ls.length≤1048576):xq_ [t0,.l (ls.map zt_),t2,ii a,ii b,ii ar]=some [ii (y8_ ls a b ar)]:=by
 rw [aF1_];simp (disch:=omega) only [↓pq,ps,pz,↓reduceIte,reduceLE,reduceLT,reduceEq,reduceGT,reduceGE,reduceAdd,reduceSub,reduceMul,reduceNeg,jp_,ahe_]
 refine (ahq_ ls (fun i=>[ii 0,ii i]) (ys_ a b ar) (fun i=>some [ii (gt ls i).cost]) (outN:=some [ii 0]) ?_ ?_ (by unfold rounds;omega)).trans ?_
 ·intro i hi s
  simp (disch:=omega) only [↓pq,ps,pz,↓reduceIte,reduceLE,reduceLT,reduceEq,reduceGT,reduceGE,reduceAdd,reduceSub,reduceMul,reduceNeg,jp_,hi]
  unfold ys_
  grind
 ·intro s
  simp (disch:=omega) only [↓pq,ps,pz,↓reduceIte,reduceLE,reduceLT,reduceEq,reduceGT,reduceGE,reduceAdd,reduceSub,reduceMul,reduceNeg,jp_,]
 ·unfold y8_
  split <;> rfl
theorem aGw_ (t0 t2:T) (ls:List Link) (a b ar:Int) (h1:ls.length≤1048576):qz_ [t0,.l (ls.map zt_),t2,ii a,ii b,ii ar]=some [ii (y8_ ls a b ar)]:=by
 have h:=wi_ (ys_ a b ar) ls
 rw [aFt_];simp (disch:=omega) only [↓pq,ps,pz,↓reduceIte,reduceLE,reduceLT,reduceEq,reduceGT,reduceGE,reduceAdd,reduceSub,reduceMul,reduceNeg,aiv_,ahu_]
 unfold y8_
 grind
theorem aet_ {ls:List Link} {n:Int} (h:ascB (xj_ n) xD_ ls=true) (a b ar:Int):y8_ ls a b ar=0↔zv_ (ys_ a b ar) ls < 0:=by
 unfold y8_
 by_cases h':zv_ (ys_ a b ar) ls < 0
 ·simp [h']
 ·rw [if_neg h']
  have hl:=wi_ (ys_ a b ar) ls
  have:=allB_iff.1 h (zv_ (ys_ a b ar) ls).toNat (by omega)
  rw [show (((zv_ (ys_ a b ar) ls).toNat:Nat):Int)=zv_ (ys_ a b ar) ls by omega] at this
  simp only [Bool.and_eq_true,xj_,inB_iff] at this
  omega
def je_ (ok:Int→Int→Bool) (l:List Int):Bool :=
 allB (l.length / 2) fun k=>ok (gt l (2 * k:Int)) (gt l (2 * k+1:Int)) && (!decide ((k:Int) > 0) || decide (gt l (2 * k - 2:Int) < gt l (2 * k:Int)∨gt l (2 * k - 2:Int)=gt l (2 * k:Int)∧gt l (2 * k - 1:Int) < gt l (2 * k+1:Int)))
theorem azq_ (id boot n:Int) (ls:List Link) (t2 t3:T) (hd:List Int) (h1:ls.length≤1048576) (h2:hd.length≤1048576) :
  uZ_ [ii id,ii boot,ii n,.l (ls.map zt_),t2,.l (hd.map eInt),t3]=some [bb (decide (hd.length % 2=0) && je_ (fun v a=>decide (0≤zv_ (ys_ id v a) ls)) hd)]:=by
 rw [aBd_];simp (disch:=omega) only [↓pq,ps,pz,↓reduceIte,reduceLE,reduceLT,reduceEq,reduceGT,reduceGE,reduceAdd,reduceSub,reduceMul,reduceNeg,q1_,ae0_]
 have hm:=aOk_ hd.length
 by_cases he:hd.length % 2=0
 ·simp only [hm,he,avy_,not_true_eq_false,if_false]
  refine (wn_ (hd.length / 2) (fun k=>[bb false,ii (2 * k)]) (fun k=>decide (0≤zv_ (ys_ id (gt hd (2 * k:Int)) (gt hd (2 * k+1:Int))) ls) && (!decide ((k:Int) > 0) || decide (gt hd (2 * k - 2:Int) < gt hd (2 * k:Int)∨gt hd (2 * k - 2:Int)=gt hd (2 * k:Int)∧gt hd (2 * k - 1:Int) < gt hd (2 * k+1:Int)))) (outF:=some [bb false]) (outT:=some [bb true]) rfl (zb_ (by omega)) ?_ ?_).trans ?_
  ·intro i hi s
   have hlt:2 * (i:Int) < hd.length:=by omega
   simp (disch:=omega) only [↓pq,ps,pz,↓reduceIte,reduceLE,reduceLT,reduceEq,reduceGT,reduceGE,reduceAdd,reduceSub,reduceMul,reduceNeg,q1_,hlt,ahu_,Int.mul_add]
   grind
  ·intro s
   have hlt:¬ (2 * ((hd.length / 2:Nat):Int) < hd.length):=by omega
   simp (disch:=omega) only [↓pq,ps,pz,↓reduceIte,reduceLE,reduceLT,reduceEq,reduceGT,reduceGE,reduceAdd,reduceSub,reduceMul,reduceNeg,q1_,hlt]
  ·rw [ym_];unfold je_;simp
 ·have:¬ ((hd.length % 2:Nat):Int)=0:=by omega
  simp only [hm,this,not_false_eq_true,if_true,he,decide_false,Bool.false_and]
theorem aym_ (id boot n:Int) (ls:List Link) (t2 t3:T) (hd:List Int) (h1:ls.length≤1048576) (h2:hd.length≤1048576) :
  v3_ [ii id,ii boot,ii n,.l (ls.map zt_),t2,.l (hd.map eInt),t3]=some [bb (decide (hd.length % 2=0) && (decide (hd.length≤60) && je_ (fun v a=>!decide (y8_ ls id v a=0)) hd))]:=by
 rw [ayp_];simp (disch:=omega) only [↓pq,ps,pz,↓reduceIte,reduceLE,reduceLT,reduceEq,reduceGT,reduceGE,reduceAdd,reduceSub,reduceMul,reduceNeg,qb_,acx_]
 have hm:=aOk_ hd.length
 by_cases he:hd.length % 2=0
 ·have h9:¬ ((0:Int)=1):=by decide
  simp only [hm,he,avy_,h9,if_false]
  by_cases h6:hd.length≤60
  ·have h7:¬ ((hd.length:Int) > 60):=by omega
   simp only [h7,if_false]
   refine (wn_ (hd.length / 2) (fun k=>[bb false,ii (2 * k)]) (fun k=>!decide (y8_ ls id (gt hd (2 * k:Int)) (gt hd (2 * k+1:Int))=0) && (!decide ((k:Int) > 0) || decide (gt hd (2 * k - 2:Int) < gt hd (2 * k:Int)∨gt hd (2 * k - 2:Int)=gt hd (2 * k:Int)∧gt hd (2 * k - 1:Int) < gt hd (2 * k+1:Int)))) (outF:=some [bb false]) (outT:=some [bb true]) rfl (zb_ (by omega)) ?_ ?_).trans ?_
   ·intro i hi s
    have hlt:2 * (i:Int) < hd.length:=by omega
    simp (disch:=omega) only [↓pq,ps,pz,↓reduceIte,reduceLE,reduceLT,reduceEq,reduceGT,reduceGE,reduceAdd,reduceSub,reduceMul,reduceNeg,qb_,hlt,j6_,Int.mul_add]
    grind
   ·intro s
    have hlt:¬ (2 * ((hd.length / 2:Nat):Int) < hd.length):=by omega
    simp (disch:=omega) only [↓pq,ps,pz,↓reduceIte,reduceLE,reduceLT,reduceEq,reduceGT,reduceGE,reduceAdd,reduceSub,reduceMul,reduceNeg,qb_,hlt]
   ·rw [ym_];unfold je_;simp [h6]
  ·have h7:((hd.length:Int) > 60):=by omega
   simp [h7,h6]
 ·have h8:((hd.length % 2:Nat):Int)=1:=by omega
  simp only [hm,h8,if_true,he,decide_false,Bool.false_and]
end Go.Proofs.YtiebbbmibbkpcaaGreatC

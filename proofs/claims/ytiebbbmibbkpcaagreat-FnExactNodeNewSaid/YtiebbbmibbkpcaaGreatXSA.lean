/- What the small functions compute: words, nets, records, stores. Conditions: none. -/
import Derived.Test.YtiebbbmibbkpcaaGreatXGR
namespace Go.Proofs.YtiebbbmibbkpcaaGreatC
open Int (reduceLE reduceLT reduceEq reduceGT reduceGE reduceAdd reduceSub reduceMul reduceNeg)
set_option linter.unusedVariables false
set_option linter.unusedSimpArgs false
theorem yj_ (p:Prop) [Decidable p] (x y:Bool):(if p then some [bb x] else some [bb y])=some [bb (if p then x else y)]:=by by_cases h:p <;> simp [h]
def inB (a lo hi:Int):Bool:=decide (lo≤a) && decide (a≤hi)
theorem inB_iff {a lo hi:Int}:inB a lo hi=true↔lo≤a∧a≤hi:=by simp [inB]
theorem aaf_ (a lo hi:Int):xK_ [ii a,ii lo,ii hi]=some [bb (inB a lo hi)]:=by
 rw [aR5_];simp (disch:=omega) only [↓pq,ps,pz,↓reduceIte,reduceLE,reduceLT,reduceEq,reduceGT,reduceGE,reduceAdd,reduceSub,reduceMul,reduceNeg,aw4_,yj_];unfold inB
 by_cases h:a ≥ lo <;> simp [h] <;> omega
theorem vT_ (a lo hi:Int):z6_ [ii a,ii lo,ii hi]=some [bb (inB a lo hi)]:=by
 rw [aJd_];simp (disch:=omega) only [↓pq,ps,pz,↓reduceIte,reduceLE,reduceLT,reduceEq,reduceGT,reduceGE,reduceAdd,reduceSub,reduceMul,reduceNeg,aj2_,yj_];unfold inB
 by_cases h:a ≥ lo <;> simp [h] <;> omega
def xq_ (n:Int) (l:Link):Bool:=inB n 1 6 && inB l.a 1 n && inB l.b 1 n && decide (l.a < l.b) && inB l.cost 1 1000 && inB l.area 0 2
theorem aGf_ (n a b c ar:Int):q4_ [ii n,ii a,ii b,ii c,ii ar]=some [bb (xq_ n ⟨a,b,c,ar⟩)]:=by
 rw [aFb_];simp (disch:=omega) only [↓pq,ps,pz,↓reduceIte,reduceLE,reduceLT,reduceEq,reduceGT,reduceGE,reduceAdd,reduceSub,reduceMul,reduceNeg,ahz_,aaf_,yj_];unfold xq_
 grind
theorem aGy_ (n a b c ar:Int):qV_ [ii n,ii a,ii b,ii c,ii ar]=some [bb (xq_ n ⟨a,b,c,ar⟩)]:=by
 rw [aFn_];simp (disch:=omega) only [↓pq,ps,pz,↓reduceIte,reduceLE,reduceLT,reduceEq,reduceGT,reduceGE,reduceAdd,reduceSub,reduceMul,reduceNeg,ahv_,vT_,yj_];unfold xq_
 grind
def xH_ (x y:Link):Bool:=decide (x.a < y.a∨x.a=y.a∧(x.b < y.b∨x.b=y.b∧x.area < y.area))
theorem aKy_ (a b c d a' b' c' d':Int):j2_ [ii a,ii b,ii c,ii d,ii a',ii b',ii c',ii d']=some [bb (xH_ ⟨a,b,c,d⟩ ⟨a',b',c',d'⟩)]:=by
 rw [aLs_];simp (disch:=omega) only [↓pq,ps,pz,↓reduceIte,reduceLE,reduceLT,reduceEq,reduceGT,reduceGE,reduceAdd,reduceSub,reduceMul,reduceNeg,akt_,yj_];unfold xH_
 grind
theorem avk_ (a b c d a' b' c' d':Int):ue_ [ii a,ii b,ii c,ii d,ii a',ii b',ii c',ii d']=some [bb (xH_ ⟨a,b,c,d⟩ ⟨a',b',c',d'⟩)]:=by
 rw [avw_];simp (disch:=omega) only [↓pq,ps,pz,↓reduceIte,reduceLE,reduceLT,reduceEq,reduceGT,reduceGE,reduceAdd,reduceSub,reduceMul,reduceNeg,acr_,yj_];unfold xH_
 grind
def vm_ (x y:Thing):Bool:=decide (x.key < y.key∨x.key=y.key∧x.owner < y.owner)
theorem aMh_ (a b c a' b' c':Int) (d d':Bool):kK_ [ii a,ii b,ii c,bb d,ii a',ii b',ii c',bb d']=some [bb (vm_ ⟨a,b,c,d⟩ ⟨a',b',c',d'⟩)]:=by
 rw [aL6_];simp (disch:=omega) only [↓pq,ps,pz,↓reduceIte,reduceLE,reduceLT,reduceEq,reduceGT,reduceGE,reduceAdd,reduceSub,reduceMul,reduceNeg,an9_,yj_];unfold vm_
 grind
theorem au1_ (a b c a' b' c':Int) (d d':Bool):ut_ [ii a,ii b,ii c,bb d,ii a',ii b',ii c',bb d']=some [bb (vm_ ⟨a,b,c,d⟩ ⟨a',b',c',d'⟩)]:=by
 rw [awy_];simp (disch:=omega) only [↓pq,ps,pz,↓reduceIte,reduceLE,reduceLT,reduceEq,reduceGT,reduceGE,reduceAdd,reduceSub,reduceMul,reduceNeg,acg_,yj_];unfold vm_
 grind
def ascB {α:Type} [Inhabited α] (ok:α→Bool) (lt:α→α→Bool) (l:List α):Bool :=
 allB l.length fun i=>ok (gt l i) && (!decide ((i:Int) > 0) || lt (gt l (i - 1:Int)) (gt l i))
def vE_ (n:Int) (t:Thing):Bool:=inB t.owner 1 n && inB t.key 1 9 && inB t.cost 1 1000
def vV_ (x:Net):Bool:=inB x.n 1 6 && decide (x.links.length≤12) && decide (x.things.length≤4) && ascB (xq_ x.n) xH_ x.links && ascB (vE_ x.n) vm_ x.things
theorem aLn_ (n:Int) (ls:List Link) (ts:List Thing) (h1:ls.length≤1048576) (h2:ts.length≤1048576):jT_ [ii n,.l (ls.map zn_),.l (ts.map zl_)]=some [bb (vV_ ⟨n,ls,ts⟩)]:=by
 rw [aK9_];simp (disch:=omega) only [↓pq,ps,pz,↓reduceIte,reduceLE,reduceLT,reduceEq,reduceGT,reduceGE,reduceAdd,reduceSub,reduceMul,reduceNeg,vq_,vp_,aju_,vT_]
 rw [show iter _ _ _=(some [bb (ascB (xq_ n) xH_ ls && ascB (vE_ n) vm_ ts)]:Option (List T)) from ?_]
 ·simp (disch:=omega) only [↓pq,ps,pz,↓reduceIte,reduceLE,reduceLT,reduceEq,reduceGT,reduceGE,reduceAdd,reduceSub,reduceMul,reduceNeg,vq_,vp_,yj_];unfold vV_;grind
 refine (aci_ ls.length (fun i=>[bb false,ii i]) (fun i=>xq_ n (gt ls i) && (!decide ((i:Int) > 0) || xH_ (gt ls (i - 1:Int)) (gt ls i))) (outF:=some [bb false]) (outT:=some [bb (ascB (vE_ n) vm_ ts)]) ?_ ?_ (by unfold rounds;omega)).trans ?_
 ·intro i hi s
  simp (disch:=omega) only [↓pq,ps,pz,↓reduceIte,reduceLE,reduceLT,reduceEq,reduceGT,reduceGE,reduceAdd,reduceSub,reduceMul,reduceNeg,vq_,vp_,hi,aGy_,avk_]
  grind
 ·intro s
  simp (disch:=omega) only [↓pq,ps,pz,↓reduceIte,reduceLE,reduceLT,reduceEq,reduceGT,reduceGE,reduceAdd,reduceSub,reduceMul,reduceNeg,vq_,vp_,]
  refine (aci_ ts.length (fun i=>[bb false,ii i]) (fun i=>vE_ n (gt ts i) && (!decide ((i:Int) > 0) || vm_ (gt ts (i - 1:Int)) (gt ts i))) (outF:=some [bb false]) (outT:=some [bb true]) ?_ ?_ (by unfold rounds;omega)).trans ?_
  ·intro i hi s
   simp (disch:=omega) only [↓pq,ps,pz,↓reduceIte,reduceLE,reduceLT,reduceEq,reduceGT,reduceGE,reduceAdd,reduceSub,reduceMul,reduceNeg,vq_,vp_,hi,vT_,au1_]
   unfold vE_
   grind
  ·intro s
   simp (disch:=omega) only [↓pq,ps,pz,↓reduceIte,reduceLE,reduceLT,reduceEq,reduceGT,reduceGE,reduceAdd,reduceSub,reduceMul,reduceNeg,vq_,vp_,]
  ·rw [yj_];unfold ascB;simp
 ·rw [yj_];unfold ascB;simp
theorem aKm_ (n:Int) (ls:List Link) (ts:List Thing) (h1:ls.length≤1048576) (h2:ts.length≤1048576):j9_ [ii n,.l (ls.map zn_),.l (ts.map zl_)]=some [bb (vV_ ⟨n,ls,ts⟩)]:=by
 rw [aJu_];simp (disch:=omega) only [↓pq,ps,pz,↓reduceIte,reduceLE,reduceLT,reduceEq,reduceGT,reduceGE,reduceAdd,reduceSub,reduceMul,reduceNeg,vv_,vr_,aki_,aaf_]
 rw [show iter _ _ _=(some [bb (ascB (xq_ n) xH_ ls && ascB (vE_ n) vm_ ts)]:Option (List T)) from ?_]
 ·simp (disch:=omega) only [↓pq,ps,pz,↓reduceIte,reduceLE,reduceLT,reduceEq,reduceGT,reduceGE,reduceAdd,reduceSub,reduceMul,reduceNeg,vv_,vr_,yj_];unfold vV_;grind
 refine (aci_ ls.length (fun i=>[bb false,ii i]) (fun i=>xq_ n (gt ls i) && (!decide ((i:Int) > 0) || xH_ (gt ls (i - 1:Int)) (gt ls i))) (outF:=some [bb false]) (outT:=some [bb (ascB (vE_ n) vm_ ts)]) ?_ ?_ (by unfold rounds;omega)).trans ?_
 ·intro i hi s
  simp (disch:=omega) only [↓pq,ps,pz,↓reduceIte,reduceLE,reduceLT,reduceEq,reduceGT,reduceGE,reduceAdd,reduceSub,reduceMul,reduceNeg,vv_,vr_,hi,aGf_,aKy_]
  grind
 ·intro s
  simp (disch:=omega) only [↓pq,ps,pz,↓reduceIte,reduceLE,reduceLT,reduceEq,reduceGT,reduceGE,reduceAdd,reduceSub,reduceMul,reduceNeg,vv_,vr_,]
  refine (aci_ ts.length (fun i=>[bb false,ii i]) (fun i=>vE_ n (gt ts i) && (!decide ((i:Int) > 0) || vm_ (gt ts (i - 1:Int)) (gt ts i))) (outF:=some [bb false]) (outT:=some [bb true]) ?_ ?_ (by unfold rounds;omega)).trans ?_
  ·intro i hi s
   simp (disch:=omega) only [↓pq,ps,pz,↓reduceIte,reduceLE,reduceLT,reduceEq,reduceGT,reduceGE,reduceAdd,reduceSub,reduceMul,reduceNeg,vv_,vr_,hi,aaf_,aMh_]
   unfold vE_
   grind
  ·intro s
   simp (disch:=omega) only [↓pq,ps,pz,↓reduceIte,reduceLE,reduceLT,reduceEq,reduceGT,reduceGE,reduceAdd,reduceSub,reduceMul,reduceNeg,vv_,vr_,]
  ·rw [yj_];unfold ascB;simp
 ·rw [yj_];unfold ascB;simp
def yk_ (a b ar:Int) (l:Link):Bool:=l.area == ar && (l.a == a && l.b == b || l.a == b && l.b == a)
theorem aka_ {α:Type} (p:α→Bool) (l:List α):(if zu_ p l < 0 then some [ii (-1)] else some [ii (zu_ p l)])=some [ii (zu_ p l)]:=by
 have h:=aNx_ p l
 by_cases h':zu_ p l < 0
 ·rw [if_pos h',show zu_ p l=-1 by omega]
 ·rw [if_neg h']
theorem aiu_ (t0 t2:T) (ls:List Link) (a b ar:Int) (h1:ls.length≤1048576):wd_ [t0,.l (ls.map zn_),t2,ii a,ii b,ii ar]=some [ii (zu_ (yk_ a b ar) ls)]:=by
 rw [aD2_];simp (disch:=omega) only [↓pq,ps,pz,↓reduceIte,reduceLE,reduceLT,reduceEq,reduceGT,reduceGE,reduceAdd,reduceSub,reduceMul,reduceNeg,jy_,ag7_]
 refine (ago_ ls (fun i=>[ii 0,ii i]) (yk_ a b ar) (fun i=>some [ii i]) (outN:=some [ii (-1)]) ?_ ?_ (by unfold rounds;omega)).trans (aka_ _ _)
 ·intro i hi s
  simp (disch:=omega) only [↓pq,ps,pz,↓reduceIte,reduceLE,reduceLT,reduceEq,reduceGT,reduceGE,reduceAdd,reduceSub,reduceMul,reduceNeg,jy_,hi]
  unfold yk_
  grind
 ·intro s
  simp (disch:=omega) only [↓pq,ps,pz,↓reduceIte,reduceLE,reduceLT,reduceEq,reduceGT,reduceGE,reduceAdd,reduceSub,reduceMul,reduceNeg,jy_,]
def yY_ (ls:List Link) (a b ar:Int):Int:=if zu_ (yk_ a b ar) ls < 0 then 0 else (gt ls (zu_ (yk_ a b ar) ls)).cost
theorem uy_ (t0 t2:T) (ls:List Link) (a b ar:Int) (h1:ls.length≤1048576):yZ_ [t0,.l (ls.map zn_),t2,ii a,ii b,ii ar]=some [ii (yY_ ls a b ar)]:=by
 rw [aG1_];simp (disch:=omega) only [↓pq,ps,pz,↓reduceIte,reduceLE,reduceLT,reduceEq,reduceGT,reduceGE,reduceAdd,reduceSub,reduceMul,reduceNeg,jx_,ail_]
 refine (ago_ ls (fun i=>[ii 0,ii i]) (yk_ a b ar) (fun i=>some [ii (gt ls i).cost]) (outN:=some [ii 0]) ?_ ?_ (by unfold rounds;omega)).trans ?_
 ·intro i hi s
  simp (disch:=omega) only [↓pq,ps,pz,↓reduceIte,reduceLE,reduceLT,reduceEq,reduceGT,reduceGE,reduceAdd,reduceSub,reduceMul,reduceNeg,jx_,hi]
  unfold yk_
  grind
 ·intro s
  simp (disch:=omega) only [↓pq,ps,pz,↓reduceIte,reduceLE,reduceLT,reduceEq,reduceGT,reduceGE,reduceAdd,reduceSub,reduceMul,reduceNeg,jx_,]
 ·unfold yY_
  split <;> rfl
theorem aHp_ (t0 t2:T) (ls:List Link) (a b ar:Int) (h1:ls.length≤1048576):qH_ [t0,.l (ls.map zn_),t2,ii a,ii b,ii ar]=some [ii (yY_ ls a b ar)]:=by
 have h:=x7_ (yk_ a b ar) ls
 rw [aF2_];simp (disch:=omega) only [↓pq,ps,pz,↓reduceIte,reduceLE,reduceLT,reduceEq,reduceGT,reduceGE,reduceAdd,reduceSub,reduceMul,reduceNeg,agn_,aiu_]
 unfold yY_
 grind
theorem k4_ {ls:List Link} {n:Int} (h:ascB (xq_ n) xH_ ls=true) (a b ar:Int):yY_ ls a b ar=0↔zu_ (yk_ a b ar) ls < 0:=by
 unfold yY_
 by_cases h':zu_ (yk_ a b ar) ls < 0
 ·simp [h']
 ·rw [if_neg h']
  have hl:=x7_ (yk_ a b ar) ls
  have:=allB_iff.1 h (zu_ (yk_ a b ar) ls).toNat (by omega)
  rw [show (((zu_ (yk_ a b ar) ls).toNat:Nat):Int)=zu_ (yk_ a b ar) ls by omega] at this
  simp only [Bool.and_eq_true,xq_,inB_iff] at this
  omega
def jf_ (ok:Int→Int→Bool) (l:List Int):Bool :=
 allB (l.length / 2) fun k=>ok (gt l (2 * k:Int)) (gt l (2 * k+1:Int)) && (!decide ((k:Int) > 0) || decide (gt l (2 * k - 2:Int) < gt l (2 * k:Int)∨gt l (2 * k - 2:Int)=gt l (2 * k:Int)∧gt l (2 * k - 1:Int) < gt l (2 * k+1:Int)))
theorem aBy_ (id boot n:Int) (ls:List Link) (t2 t3:T) (hd:List Int) (h1:ls.length≤1048576) (h2:hd.length≤1048576) :
  uX_ [ii id,ii boot,ii n,.l (ls.map zn_),t2,.l (hd.map eInt),t3]=some [bb (decide (hd.length % 2=0) && jf_ (fun v a=>decide (0≤zu_ (yk_ id v a) ls)) hd)]:=by
 rw [aBp_];simp (disch:=omega) only [↓pq,ps,pz,↓reduceIte,reduceLE,reduceLT,reduceEq,reduceGT,reduceGE,reduceAdd,reduceSub,reduceMul,reduceNeg,qB_,aex_]
 have hm:=aO1_ hd.length
 by_cases he:hd.length % 2=0
 ·simp only [hm,he,axb_,not_true_eq_false,if_false]
  refine (wt_ (hd.length / 2) (fun k=>[bb false,ii (2 * k)]) (fun k=>decide (0≤zu_ (yk_ id (gt hd (2 * k:Int)) (gt hd (2 * k+1:Int))) ls) && (!decide ((k:Int) > 0) || decide (gt hd (2 * k - 2:Int) < gt hd (2 * k:Int)∨gt hd (2 * k - 2:Int)=gt hd (2 * k:Int)∧gt hd (2 * k - 1:Int) < gt hd (2 * k+1:Int)))) (outF:=some [bb false]) (outT:=some [bb true]) rfl (zb_ (by omega)) ?_ ?_).trans ?_
  ·intro i hi s
   have hlt:2 * (i:Int) < hd.length:=by omega
   simp (disch:=omega) only [↓pq,ps,pz,↓reduceIte,reduceLE,reduceLT,reduceEq,reduceGT,reduceGE,reduceAdd,reduceSub,reduceMul,reduceNeg,qB_,hlt,aiu_,Int.mul_add]
   grind
  ·intro s
   have hlt:¬ (2 * ((hd.length / 2:Nat):Int) < hd.length):=by omega
   simp (disch:=omega) only [↓pq,ps,pz,↓reduceIte,reduceLE,reduceLT,reduceEq,reduceGT,reduceGE,reduceAdd,reduceSub,reduceMul,reduceNeg,qB_,hlt]
  ·rw [yj_];unfold jf_;simp
 ·have:¬ ((hd.length % 2:Nat):Int)=0:=by omega
  simp only [hm,this,not_false_eq_true,if_true,he,decide_false,Bool.false_and]
theorem av0_ (id boot n:Int) (ls:List Link) (t2 t3:T) (hd:List Int) (h1:ls.length≤1048576) (h2:hd.length≤1048576) :
  un_ [ii id,ii boot,ii n,.l (ls.map zn_),t2,.l (hd.map eInt),t3]=some [bb (decide (hd.length % 2=0) && (decide (hd.length≤60) && jf_ (fun v a=>!decide (yY_ ls id v a=0)) hd))]:=by
 rw [au8_];simp (disch:=omega) only [↓pq,ps,pz,↓reduceIte,reduceLE,reduceLT,reduceEq,reduceGT,reduceGE,reduceAdd,reduceSub,reduceMul,reduceNeg,qb_,ab0_]
 have hm:=aO1_ hd.length
 by_cases he:hd.length % 2=0
 ·have h9:¬ ((0:Int)=1):=by decide
  simp only [hm,he,axb_,h9,if_false]
  by_cases h6:hd.length≤60
  ·have h7:¬ ((hd.length:Int) > 60):=by omega
   simp only [h7,if_false]
   refine (wt_ (hd.length / 2) (fun k=>[bb false,ii (2 * k)]) (fun k=>!decide (yY_ ls id (gt hd (2 * k:Int)) (gt hd (2 * k+1:Int))=0) && (!decide ((k:Int) > 0) || decide (gt hd (2 * k - 2:Int) < gt hd (2 * k:Int)∨gt hd (2 * k - 2:Int)=gt hd (2 * k:Int)∧gt hd (2 * k - 1:Int) < gt hd (2 * k+1:Int)))) (outF:=some [bb false]) (outT:=some [bb true]) rfl (zb_ (by omega)) ?_ ?_).trans ?_
   ·intro i hi s
    have hlt:2 * (i:Int) < hd.length:=by omega
    simp (disch:=omega) only [↓pq,ps,pz,↓reduceIte,reduceLE,reduceLT,reduceEq,reduceGT,reduceGE,reduceAdd,reduceSub,reduceMul,reduceNeg,qb_,hlt,uy_,Int.mul_add]
    grind
   ·intro s
    have hlt:¬ (2 * ((hd.length / 2:Nat):Int) < hd.length):=by omega
    simp (disch:=omega) only [↓pq,ps,pz,↓reduceIte,reduceLE,reduceLT,reduceEq,reduceGT,reduceGE,reduceAdd,reduceSub,reduceMul,reduceNeg,qb_,hlt]
   ·rw [yj_];unfold jf_;simp [h6]
  ·have h7:((hd.length:Int) > 60):=by omega
   simp [h7,h6]
 ·have h8:((hd.length % 2:Nat):Int)=1:=by omega
  simp only [hm,h8,if_true,he,decide_false,Bool.false_and]
end Go.Proofs.YtiebbbmibbkpcaaGreatC

/- The records that there would be, by both programs. Conditions: none. -/
import Derived.Test.YtiebbbmibbkpcaaGreatXSS
namespace Go.Proofs.YtiebbbmibbkpcaaGreatC
open Int (reduceLE reduceLT reduceEq reduceGT reduceGE reduceAdd reduceSub reduceMul reduceNeg)
set_option linter.unusedVariables false
set_option linter.unusedSimpArgs false
theorem av4_ (c:List Int) (n:Int):(insI c n).length≤c.length+1:=by
 unfold insI
 have:(c.filter (fun x=>decide (x < n))).length+(c.filter (fun x=>decide (n < x))).length≤c.length:=by
  induction c with
  | nil=>simp
  | cons x s ih =>
   simp only [List.filter_cons]
   by_cases h1:x < n
   ·have h2:¬ n < x:=by omega
    simp [h1,h2];omega
   ·by_cases h2:n < x <;> simp [h1,h2] <;> omega
 simp;omega
theorem ajz_ {α β σ:Type} [Inhabited α] {F:(σ→Option β)→σ→Option β} {R:Nat} {x:σ} (l:List α) (st:Nat→List α→σ) (p:α→Bool) {out:Option β} (hx:x=st 0 []) (hR:l.length < R)
  (step:∀ (i:Nat) c,(i:Int) < (l.length:Int)→c.length≤i→∀ s,F s (st i c)=s (st (i+1) (if p (gt l i)=true then c++[gt l i] else c))) (fin:∀ s,F s (st l.length (l.filter p))=out) :
  iter F R x=out:=by
 refine zp_ l st (fun c a=>if p a=true then c++[a] else c) (fun _=>out) [] (fun i c=>c=(l.take i).filter p) hx hR rfl ?_ ?_
 ·intro i c hi hc
  have hi':i < l.length:=by omega
  refine ⟨?_,fun s=>step i c hi (by rw [hc];refine Nat.le_trans (List.length_filter_le _ _) ?_;simp;omega) s⟩
  rw [hc,List.take_add_one,List.filter_append,List.getElem?_eq_getElem hi',zr_ hi']
  cases hp:p l[i] <;> simp [hp]
 ·intro c s hc
  rw [hc,List.take_length]
  exact fin s
theorem aI6_ {α γ:Type} (l:List α) (c:γ):l.foldl (fun c _=>c) c=c:=by
 induction l with
 | nil=>rfl
 | cons x s ih=>exact ih
theorem aJ4_ (t0 t2:T) (ls:List Link) (node a n:Int) (h:ascB (yo_ n) yn_ ls=true) (hl:ls.length≤12):qD_ [t0,.l (ls.map zu_),t2,ii node,ii a]=some [.l ((vp_ ls node a).map eInt)]:=by
 rw [aGv_];simp (disch:=omega) only [↓pq,ps,pz,↓reduceIte,reduceLE,reduceLT,reduceEq,reduceGT,reduceGE,reduceAdd,reduceSub,reduceMul,reduceNeg,yx_,yv_,yH_,ah6_]
 refine (zp_ ls (fun j c=>[.l (c.map eInt),ii j]) (wc_ node a) (fun c=>some [T.l (c.map eInt)]) [] (fun j c=>c.Pairwise (· < ·)∧c.length≤j) rfl (zc_ (by omega)) ⟨.nil,by simp⟩ ?_ ?_).trans (by rw [aTw_ h])
 ·rintro j c hj ⟨c1,c2⟩
  have hm:=wX_ h (z1_ (l:=ls) (n:=(j:Int)) (by omega) hj)
  by_cases k1:(gt ls j).area=a
  ·by_cases k2:(gt ls j).a=node
   ·have e:wc_ node a c (gt ls j)=insI c (gt ls j).b:=by unfold wc_;rw [if_pos k1,if_pos k2]
    have k3:¬ (gt ls j).b=node:=by omega
    have hlen:=av4_ c (gt ls j).b
    rw [e]
    refine ⟨⟨vs_ c1 _,by omega⟩,fun q=>?_⟩
    simp (disch:=omega) only [↓pq,ps,pz,↓reduceIte,reduceLE,reduceLT,reduceEq,reduceGT,reduceGE,reduceAdd,reduceSub,reduceMul,reduceNeg,yx_,yv_,yH_,hj,k1,k2]
    refine (aKn_ c1 (by omega) _ _).trans ?_
    simp (disch:=omega) only [↓pq,ps,pz,↓reduceIte,reduceLE,reduceLT,reduceEq,reduceGT,reduceGE,reduceAdd,reduceSub,reduceMul,reduceNeg,yx_,yv_,yH_,k3]
   ·by_cases k3:(gt ls j).b=node
    ·have e:wc_ node a c (gt ls j)=insI c (gt ls j).a:=by unfold wc_;rw [if_pos k1,if_neg k2,if_pos k3]
     have hlen:=av4_ c (gt ls j).a
     rw [e]
     refine ⟨⟨vs_ c1 _,by omega⟩,fun q=>?_⟩
     simp (disch:=omega) only [↓pq,ps,pz,↓reduceIte,reduceLE,reduceLT,reduceEq,reduceGT,reduceGE,reduceAdd,reduceSub,reduceMul,reduceNeg,yx_,yv_,yH_,hj,k1,k2,k3]
     refine (aIt_ c1 (by omega) _ _).trans ?_
     simp (disch:=omega) only [↓pq,ps,pz,↓reduceIte,reduceLE,reduceLT,reduceEq,reduceGT,reduceGE,reduceAdd,reduceSub,reduceMul,reduceNeg,yx_,yv_,yH_,]
    ·have e:wc_ node a c (gt ls j)=c:=by unfold wc_;rw [if_pos k1,if_neg k2,if_neg k3]
     rw [e]
     refine ⟨⟨c1,by omega⟩,fun q=>?_⟩
     simp (disch:=omega) only [↓pq,ps,pz,↓reduceIte,reduceLE,reduceLT,reduceEq,reduceGT,reduceGE,reduceAdd,reduceSub,reduceMul,reduceNeg,yx_,yv_,yH_,hj,k1,k2,k3]
  ·have e:wc_ node a c (gt ls j)=c:=by unfold wc_;rw [if_neg k1]
   rw [e]
   refine ⟨⟨c1,by omega⟩,fun q=>?_⟩
   simp (disch:=omega) only [↓pq,ps,pz,↓reduceIte,reduceLE,reduceLT,reduceEq,reduceGT,reduceGE,reduceAdd,reduceSub,reduceMul,reduceNeg,yx_,yv_,yH_,hj,k1]
 ·rintro c q hc
  simp (disch:=omega) only [↓pq,ps,pz,↓reduceIte,reduceLE,reduceLT,reduceEq,reduceGT,reduceGE,reduceAdd,reduceSub,reduceMul,reduceNeg,yx_,yv_,yH_,]
theorem arb_ {n:Int} {ls:List Link} (h:ascB (yo_ n) yn_ ls=true) {a b ar:Int} {i:Nat} (hi:i < ls.length) (hj:zz_ a b ar (gt ls (i:Int))=true):zq_ (zz_ a b ar) ls=i:=by
 have h0:=aj3_ (z1_ (l:=ls) (n:=(i:Int)) (by omega) (by omega)) hj
 have h1:=wd_ (zz_ a b ar) ls
 have h2:=wO_ _ _ h0
 obtain ⟨k,hk⟩:∃ k:Nat,zq_ (zz_ a b ar) ls=k:=⟨(zq_ (zz_ a b ar) ls).toNat,by omega⟩
 rw [hk] at h1 h2 ⊢
 rw [zr_ (by omega)] at h2
 rw [zr_ hi] at hj
 have:=aLp_ h (by omega) hi h2 hj
 omega
theorem aCe_ (t0 t2:T) (ls:List Link) (L:List Bool) (a b ar n:Int) (h:ascB (yo_ n) yn_ ls=true) (hl:ls.length≤12) (hL:L.length=ls.length):uW_ [t0,.l (ls.map zu_),t2,.l (L.map zC_),ii a,ii b,ii ar]=some [ii (wn_ ls L a b ar)]:=by
 rw [aC6_];simp (disch:=omega) only [↓pq,ps,pz,↓reduceIte,reduceLE,reduceLT,reduceEq,reduceGT,reduceGE,reduceAdd,reduceSub,reduceMul,reduceNeg,ub_,afe_]
 refine (xP_ ls.length (fun i=>[ii 0,ii i]) (fun i=>!(gt L i && zz_ a b ar (gt ls i))) (outF:=some [ii (gt ls (zq_ (zz_ a b ar) ls)).cost]) (outT:=some [ii 0]) rfl (zc_ (by omega)) ?_ ?_).trans ?_
 ·intro i hi s
  have hi2:(i:Int) < L.length:=by omega
  by_cases hj:zz_ a b ar (gt ls i)=true
  ·rw [arb_ h (by omega) hj,hj]
   rw [joins_iff] at hj
   simp (disch:=omega) only [↓pq,ps,pz,↓reduceIte,reduceLE,reduceLT,reduceEq,reduceGT,reduceGE,reduceAdd,reduceSub,reduceMul,reduceNeg,ub_,hi,hi2]
   grind
  ·have hj':zz_ a b ar (gt ls i)=false:=by simpa using hj
   rw [hj']
   rw [joins_iff] at hj
   simp (disch:=omega) only [↓pq,ps,pz,↓reduceIte,reduceLE,reduceLT,reduceEq,reduceGT,reduceGE,reduceAdd,reduceSub,reduceMul,reduceNeg,ub_,hi,hi2]
   grind
 ·intro s
  simp (disch:=omega) only [↓pq,ps,pz,↓reduceIte,reduceLE,reduceLT,reduceEq,reduceGT,reduceGE,reduceAdd,reduceSub,reduceMul,reduceNeg,ub_,]
 ·unfold wn_
  have h1:=wd_ (zz_ a b ar) ls
  have hall:allB ls.length (fun i=>!(gt L i && zz_ a b ar (gt ls i)))=true↔¬ (0≤zq_ (zz_ a b ar) ls∧gt L (zq_ (zz_ a b ar) ls)=true):=by
   rw [allB_iff]
   constructor
   ·rintro hA ⟨h0,h2⟩
    have h3:=hA (zq_ (zz_ a b ar) ls).toNat (by omega)
    rw [show (((zq_ (zz_ a b ar) ls).toNat:Nat):Int)=zq_ (zz_ a b ar) ls by omega,h2,wO_ _ _ h0] at h3
    cases h3
   ·intro hn i hi
    cases hg:gt L (i:Int) && zz_ a b ar (gt ls (i:Int)) with
    | false=>rfl
    | true =>
     rw [Bool.and_eq_true] at hg
     have hu:=arb_ h hi hg.2
     exact absurd ⟨by omega,by rw [hu];exact hg.1⟩ hn
  by_cases h0:zq_ (zz_ a b ar) ls < 0
  ·rw [if_pos (hall.2 fun hc=>by omega),if_pos h0]
  ·by_cases h2:gt L (zq_ (zz_ a b ar) ls)=true
   ·rw [if_neg (fun hc=>hall.1 hc ⟨by omega,h2⟩),if_neg h0,if_pos h2]
   ·rw [if_pos (hall.2 fun hc=>h2 hc.2),if_neg h0,if_neg h2]
theorem aJd_ (t2:T) (ls:List Link) (L U:List Bool) (node a n:Int) (h:ascB (yo_ n) yn_ ls=true) (hl:ls.length≤12) (hL:L.length=ls.length) (hU:(U.length:Int)=n):q5_ [ii n,.l (ls.map zu_),t2,.l (L.map zC_),.l (U.map zC_),ii node,ii a]=some [.l ((ky_ ls L U node a).map z8_)]:=by
 have hlen:(vp_ ls node a).length≤6:=List.length_filter_le _ _
 rw [aI7_];simp (disch:=omega) only [↓pq,ps,pz,↓reduceIte,reduceLE,reduceLT,reduceEq,reduceGT,reduceGE,reduceAdd,reduceSub,reduceMul,reduceNeg,vG_,agg_,aJ4_ _ _ _ _ _ _ h hl]
 refine (zp_ (vp_ ls node a) (fun j c=>[.l (c.map z8_),ii j]) (fun c v=>if (gt L (zq_ (zz_ node v a) ls) && gt U (v - 1))=true then c++[(⟨v,(gt ls (zq_ (zz_ node v a) ls)).cost⟩:Near)] else c) (fun c=>some [T.l (c.map z8_)]) [] (fun j c=>c.length≤j) rfl (zc_ (by omega)) (by simp) ?_ ?_).trans ?_
 ·intro j c hj hc
  refine ⟨by split;(· simp;omega);(· omega),fun q=>?_⟩
  have hm:=z1_ (l:=vp_ ls node a) (n:=(j:Int)) (by omega) hj
  generalize hv:gt (vp_ ls node a) (j:Int)=v at hm ⊢
  obtain ⟨x,hx,e⟩:=(aq3_ h).1 hm
  have h0:=aj3_ hx e
  have h1:=wd_ (zz_ node v a) ls
  have h2:=wX_ h hx
  rw [joins_iff] at e
  have hk:=ag9_ (ii n) t2 ls node v a (by omega)
  generalize zq_ (zz_ node v a) ls=k at h0 h1 hk ⊢
  have h1':k < L.length:=by omega
  have hv0:0≤v - 1:=by omega
  have hv1:v - 1 < U.length:=by omega
  cases c1:gt L k with
  | false=>simp (disch:=omega) only [↓pq,ps,pz,↓reduceIte,reduceLE,reduceLT,reduceEq,reduceGT,reduceGE,reduceAdd,reduceSub,reduceMul,reduceNeg,vG_,hj,hv,hk,c1,h0,h1',Bool.false_eq_true,Bool.false_and]
  | true =>
   cases c2:gt U (v - 1) with
   | false=>simp (disch:=omega) only [↓pq,ps,pz,↓reduceIte,reduceLE,reduceLT,reduceEq,reduceGT,reduceGE,reduceAdd,reduceSub,reduceMul,reduceNeg,vG_,hj,hv,hk,c1,c2,h0,h1',hv0,hv1,Bool.false_eq_true,Bool.true_and]
   | true=>simp (disch:=omega) only [↓pq,ps,pz,↓reduceIte,reduceLE,reduceLT,reduceEq,reduceGT,reduceGE,reduceAdd,reduceSub,reduceMul,reduceNeg,vG_,hj,hv,hk,c1,c2,h0,h1,h1',hv0,hv1,Bool.true_and]
 ·intro c q hc
  simp (disch:=omega) only [↓pq,ps,pz,↓reduceIte,reduceLE,reduceLT,reduceEq,reduceGT,reduceGE,reduceAdd,reduceSub,reduceMul,reduceNeg,vG_,]
 ·rw [v2_ (fun v=>gt L (zq_ (zz_ node v a) ls) && gt U (v - 1)) (fun v=>(⟨v,(gt ls (zq_ (zz_ node v a) ls)).cost⟩:Near)),List.nil_append]
  unfold vp_ ky_
  rw [List.filter_filter]
  have e:∀ v:Int,(gt L (zq_ (zz_ node v a) ls) && gt U (v - 1) && decide (xf_ ls node v a > 0))=(decide (wn_ ls L node v a > 0) && gt U (v - 1)):=by
   intro v
   by_cases ho:wn_ ls L node v a > 0
   ·have:=adn_ h ho
    simp [ho,this.1,this.2.2.2.1]
   ·rw [decide_eq_false ho,Bool.false_and]
    cases c1:gt L (zq_ (zz_ node v a) ls) with
    | false=>simp
    | true =>
     by_cases hc:xf_ ls node v a > 0
     ·exfalso
      unfold wn_ at ho
      unfold xf_ at hc
      by_cases h0:zq_ (zz_ node v a) ls < 0
      ·rw [if_pos h0] at hc;omega
      ·rw [if_neg h0] at hc
       rw [if_neg h0,if_pos c1] at ho
       omega
     ·simp [hc]
  rw [show (fun v=>gt L (zq_ (zz_ node v a) ls) && gt U (v - 1) && decide (xf_ ls node v a > 0))=fun v=>decide (wn_ ls L node v a > 0) && gt U (v - 1) from funext e]
  refine congrArg (fun l:List Near=>some [T.l (l.map z8_)]) (List.map_congr_left fun v hv=>?_)
  have h1:=(List.mem_filter.1 hv).2
  rw [Bool.and_eq_true,decide_eq_true_eq] at h1
  have h2:=adn_ h h1.1
  have h3:=h2.2.1
  unfold xf_ at h3
  rw [if_neg (by omega)] at h3
  rw [h3]
def seq1 (r:Rcd):Rcd:={ r with seq:=1 }
def qy_ (f:Rcd→Rcd) (s l:List Rcd):List Rcd:=l.foldl (fun c r=>putR c (f r)) s
def ad2_ (v:Int) (r:Rcd):Bool:=!(r.kind == 2 && r.owner == v)
def kP_ (s:List Rcd) (A:List Int) (v:Int):List Rcd:=qy_ seq1 (s.filter (ad2_ v)) (A.flatMap fun a=>wC_ s A v a)
theorem k5_ (s:List Rcd) (A:List Int) (fr area:Int):(wC_ s A fr area).length≤6:=ajs_ _ _ _ _
theorem aT9_ {W:List Way} {k:Int} {w:Way} (h:wayO W k=some w):w∈W:=by
 rw [aaq_] at h
 exact List.mem_of_find?_eq_some h
theorem aer_ {s:List Rcd} {A:List Int} {fr area:Int} {r:Rcd} (h:r∈wC_ s A fr area):r.area=area∧r.kind=2∧r.owner=fr∧(1≤r.key∧r.key≤6)∧r.near=[]∧r.seq=0∧(0≤r.cost∧r.cost≤60000)∧r.far=false∧r.key≠fr:=by
 unfold wC_ at h
 obtain ⟨h1,h2⟩:=toldB_mem.1 h
 obtain ⟨_,h3,h4,h5,h6,h7,h8,h9,w,hw,rfl⟩:=jX_ h2
 refine ⟨h3,h4,h5,h1,h6,h7,?_,h8,?_⟩
 ·have hm:=aT9_ hw
  unfold aJl_ at hm
  rcases List.mem_append.1 hm with hm | hm
  ·have:=(jZ_ hm).2.2
   show 0≤w.cost∧w.cost≤60000
   omega
  ·split at hm
   ·cases hm
   ·have:=(qj_ hm).2.2.1
    show 0≤w.cost∧w.cost≤60000
    omega
 ·unfold vY_ at h9
  simp only [Bool.and_eq_true,decide_eq_true_eq] at h9
  exact h9.2
theorem aqv_ {s:List Rcd} {A:List Int} {fr area:Int} (hf:1≤fr∧fr≤6) (ha:0≤area∧area≤2) {r:Rcd} (h:r∈wC_ s A fr area):x0_ (seq1 r)=true∧(seq1 r).kind≠3:=by
 obtain ⟨h1,h2,h3,h4,h5,h6,h7,h8,_⟩:=aer_ h
 refine ⟨?_,by show r.kind≠3;omega⟩
 unfold x0_
 simp only [seq1,h1,h2,h3,h5,h8,List.length_nil,Bool.and_eq_true,inB_iff]
 refine ⟨⟨hf,by omega⟩,?_⟩
 simp [inB_iff,ha,h4,h7]
theorem Sto.puts {k:Nat} {f:Rcd→Rcd} {l:List Rcd} (hl:∀ r∈l,x0_ (f r)=true∧(f r).kind≠3):∀ {s:List Rcd},Sto k s→Sto k (qy_ f s l):=by
 unfold qy_
 induction l with
 | nil=>intro s h;exact h
 | cons x l ih =>
  intro s h
  rw [List.foldl_cons]
  exact ih (fun r hr=>hl r (.tail _ hr)) (h.put' (hl x (.head _)).1 (hl x (.head _)).2)
theorem js_ {ls:List Link} {v a:Int} (h:a∈yP_ ls v):0≤a∧a≤2:=mem_three.1 (List.mem_filter.1 h).1
theorem Sto.instead {k:Nat} {s:List Rcd} (h:Sto k s) {A:List Int} (hA:∀ a∈A,0≤a∧a≤2) {v:Int} (hv:1≤v∧v≤6):Sto k (kP_ s A v):=by
 refine Sto.puts ?_ (h.filter _)
 intro r hr
 obtain ⟨a,ha,hr⟩:=List.mem_flatMap.1 hr
 exact aqv_ hv (hA a ha) hr
theorem aCo_ (f:Rcd→Rcd) (A:List Int) (g:Int→List Rcd):∀ s,A.foldl (fun c a=>qy_ f c (g a)) s=qy_ f s (A.flatMap g):=by
 induction A with
 | nil=>intro s;rfl
 | cons x A ih =>
  intro s
  rw [List.foldl_cons,ih]
  unfold qy_
  rw [List.flatMap_cons,List.foldl_append]
theorem aCj_ (t2:T) (s:List Rcd) (n:Int) (ls:List Link) (v:Int) (h:ascB (yo_ n) yn_ ls=true) (hl:ls.length≤12) (hs:Sto 24 s) (hv:1≤v∧v≤6) :
  u0_ [.l (s.map eRcd),ii n,.l (ls.map zu_),t2,ii v]=some [.l ((kP_ s (yP_ ls v) v).map eRcd)]:=by
 have hsl:=hs.len
 have hsn:=hs.near
 have hal:=wo_ ls v
 have ham:=fun a ha=>js_ (ls:=ls) (v:=v) (a:=a) ha
 generalize hA:yP_ ls v=A at hal ham
 rw [aEw_];simp (disch:=omega) only [↓pq,ps,pz,↓reduceIte,reduceLE,reduceLT,reduceEq,reduceGT,reduceGE,reduceAdd,reduceSub,reduceMul,reduceNeg,wg_,wf_,wk_,aen_]
 refine ajz_ s (fun i c=>[.l (c.map eRcd),ii i]) (ad2_ v) rfl (zc_ (by omega)) ?_ ?_
 ·intro i c hi hc q
  have:=hsn.gt (n:=i) (by omega) hi
  unfold ad2_
  simp (disch:=omega) only [↓pq,ps,pz,↓reduceIte,reduceLE,reduceLT,reduceEq,reduceGT,reduceGE,reduceAdd,reduceSub,reduceMul,reduceNeg,wg_,wf_,wk_,hi]
  by_cases k1:(gt s (i:Int)).kind=2
  ·by_cases k2:(gt s (i:Int)).owner=v
   ·simp [k1,k2]
   ·simp [k1,k2]
  ·simp [k1]
 ·intro q
  simp (disch:=omega) only [↓pq,ps,pz,↓reduceIte,reduceLE,reduceLT,reduceEq,reduceGT,reduceGE,reduceAdd,reduceSub,reduceMul,reduceNeg,wg_,wf_,wk_,jl_ _ _ _ _ _ h hl,hA]
  refine (zp_ A (fun j c=>[.l (c.map eRcd),ii j]) (fun c a=>qy_ seq1 c (wC_ s A v a)) (fun c=>some [T.l (c.map eRcd)]) (s.filter (ad2_ v)) (fun _ c=>Sto 24 c) rfl (zc_ (by omega)) (hs.filter _) ?_ ?_).trans (by rw [aCo_])
  ·intro j c hj hc
   have hb:=fun r hr=>aqv_ (s:=s) (A:=A) hv (ham _ (z1_ (l:=A) (n:=(j:Int)) (by omega) hj)) (r:=r) hr
   refine ⟨hc.puts hb,fun q=>?_⟩
   simp (disch:=omega) only [↓pq,ps,pz,↓reduceIte,reduceLE,reduceLT,reduceEq,reduceGT,reduceGE,reduceAdd,reduceSub,reduceMul,reduceNeg,wg_,wf_,wk_,hj,aJs_ s A v _ (show s.length≤1048576 by omega) hsn (show A.length≤1048576 by omega)]
   have hbl:=k5_ s A v (gt A (j:Int))
   generalize wC_ s A v (gt A (j:Int))=B at hb hbl
   refine (zp_ B (fun i c=>[.l (c.map eRcd),ii i,.l (B.map eRcd)]) (fun c r=>putR c (seq1 r)) (fun c=>q [.l (c.map eRcd),ii ((j:Int)+1)]) c (fun _ c=>Sto 24 c) rfl (zc_ (by omega)) hc ?_ ?_)
   ·intro i d hi hd
    have hr:=hb _ (z1_ (l:=B) (n:=(i:Int)) (by omega) hi)
    refine ⟨hd.put' hr.1 hr.2,fun q=>?_⟩
    have hdl:=hd.len
    have hp:=af0_ d (gt B (i:Int)).area (gt B (i:Int)).kind (gt B (i:Int)).owner (gt B (i:Int)).key 1 (gt B (i:Int)).near (gt B (i:Int)).cost (gt B (i:Int)).far (by omega) hd.near hd.1 (by have h6:(seq1 (gt B (i:Int))).near.length≤6:=av5_ hr.1;exact Nat.le_trans h6 (by omega))
    simp (disch:=omega) only [↓pq,ps,pz,↓reduceIte,reduceLE,reduceLT,reduceEq,reduceGT,reduceGE,reduceAdd,reduceSub,reduceMul,reduceNeg,wg_,wf_,wk_,hi,hp]
    rfl
   ·intro d q' hd
    simp (disch:=omega) only [↓pq,ps,pz,↓reduceIte,reduceLE,reduceLT,reduceEq,reduceGT,reduceGE,reduceAdd,reduceSub,reduceMul,reduceNeg,wg_,wf_,wk_,]
  ·intro c q hc
   simp (disch:=omega) only [↓pq,ps,pz,↓reduceIte,reduceLE,reduceLT,reduceEq,reduceGT,reduceGE,reduceAdd,reduceSub,reduceMul,reduceNeg,wg_,wf_,wk_,]
def seqZ (r:Rcd):Rcd:=if r.seq=0 then { r with seq:=1 } else r
theorem aA1_ (s l:List Rcd) (h:s.length+l.length≤1048570) (hs:NearL s) (hn:NearL l):uZ_ [.l (s.map eRcd),.l (l.map eRcd)]=some [.l ((qy_ seqZ s l).map eRcd)]:=by
 rw [aDw_];simp (disch:=omega) only [↓pq,ps,pz,↓reduceIte,reduceLE,reduceLT,reduceEq,reduceGT,reduceGE,reduceAdd,reduceSub,reduceMul,reduceNeg,um_,ae9_]
 refine zp_ l (fun i c=>[.l (c.map eRcd),ii i]) (fun c r=>putR c (seqZ r)) (fun c=>some [T.l (c.map eRcd)]) s (fun i c=>c.length≤s.length+i∧NearL c) rfl (zc_ (by omega)) ⟨by simp,hs⟩ ?_ ?_
 ·rintro i c hi ⟨h1,h2⟩
  have hnr:=hn.gt (n:=i) (by omega) hi
  have hz:(seqZ (gt l (i:Int))).near.length≤1048576:=by unfold seqZ;split <;> exact hnr
  refine ⟨⟨by have:=aPg_ c (seqZ (gt l (i:Int)));omega,aL1_ h2 hz⟩,fun q=>?_⟩
  have hp:=fun z=>aiw_ c (gt l (i:Int)).area (gt l (i:Int)).kind (gt l (i:Int)).owner (gt l (i:Int)).key z (gt l (i:Int)).near (gt l (i:Int)).cost (gt l (i:Int)).far (by omega) h2 hnr
  by_cases k:(gt l (i:Int)).seq=0
  ·have e:seqZ (gt l (i:Int))={ gt l (i:Int) with seq:=1 }:=by unfold seqZ;rw [if_pos k]
   rw [e]
   simp (disch:=omega) only [↓pq,ps,pz,↓reduceIte,reduceLE,reduceLT,reduceEq,reduceGT,reduceGE,reduceAdd,reduceSub,reduceMul,reduceNeg,um_,hi,k,hp]
  ·have e:seqZ (gt l (i:Int))=gt l (i:Int):=by unfold seqZ;rw [if_neg k]
   rw [e]
   simp (disch:=omega) only [↓pq,ps,pz,↓reduceIte,reduceLE,reduceLT,reduceEq,reduceGT,reduceGE,reduceAdd,reduceSub,reduceMul,reduceNeg,um_,hi,k,hp]
 ·rintro c q hc
  simp (disch:=omega) only [↓pq,ps,pz,↓reduceIte,reduceLE,reduceLT,reduceEq,reduceGT,reduceGE,reduceAdd,reduceSub,reduceMul,reduceNeg,um_,]
theorem azy_ {f g:Rcd→Rcd} {l:List Rcd} (h:∀ r∈l,f r=g r):∀ s,qy_ f s l=qy_ g s l:=by
 unfold qy_
 induction l with
 | nil=>intro s;rfl
 | cons x l ih =>
  intro s
  rw [List.foldl_cons,List.foldl_cons,h x (.head _)]
  exact ih (fun r hr=>h r (.tail _ hr)) _
theorem azu_ (A:List Int) (g:Int→List Rcd) (hg:∀ a,(g a).length≤6):(A.flatMap g).length≤6 * A.length:=by
 induction A with
 | nil=>simp
 | cons x A ih =>
  have:=hg x
  rw [List.flatMap_cons,List.length_append,List.length_cons]
  omega
theorem ave_ (s:List Rcd) (A:List Int) (v:Int) (hs:Sto 24 s) (hA:A.length≤3) :
  vz_ [.l (s.map eRcd),.l (A.map eInt),ii v]=some [.l ((kP_ s A v).map eRcd)]:=by
 have hsl:=hs.len
 have hsn:=hs.near
 rw [avd_];simp (disch:=omega) only [↓pq,ps,pz,↓reduceIte,reduceLE,reduceLT,reduceEq,reduceGT,reduceGE,reduceAdd,reduceSub,reduceMul,reduceNeg,wK_,wI_,aas_]
 refine zp_ A (fun j c=>[.l (c.map eRcd),ii j]) (fun c a=>c++wC_ s A v a) (fun _=>some [T.l ((kP_ s A v).map eRcd)]) [] (fun j c=>c=(A.take j).flatMap fun a=>wC_ s A v a) rfl (zc_ (by omega)) rfl ?_ ?_
 ·intro j c hj hc
  have hj':j < A.length:=by omega
  refine ⟨by rw [hc,List.take_add_one,List.flatMap_append,List.getElem?_eq_getElem hj',zr_ hj'];simp,fun q=>?_⟩
  have hbl:=k5_ s A v (gt A (j:Int))
  have hcl:c.length≤18:=by
   rw [hc]
   refine Nat.le_trans (azu_ _ _ fun a=>k5_ s A v a) ?_
   simp;omega
  simp (disch:=omega) only [↓pq,ps,pz,↓reduceIte,reduceLE,reduceLT,reduceEq,reduceGT,reduceGE,reduceAdd,reduceSub,reduceMul,reduceNeg,wK_,wI_,hj,aH2_ s A v _ (show s.length≤1048576 by omega) hsn (show A.length≤1048576 by omega)]
 ·intro c q hc
  rw [List.take_length] at hc
  subst hc
  have hbn:NearL (A.flatMap fun a=>wC_ s A v a):=fun r hr=>by
   obtain ⟨a,_,hr⟩:=List.mem_flatMap.1 hr
   have:=(aer_ hr).2.2.2.2.1
   rw [this];simp
  have hbl:=azu_ A _ fun a=>k5_ s A v a
  have hz:∀ r∈(A.flatMap fun a=>wC_ s A v a),seqZ r=seq1 r:=fun r hr=>by
   obtain ⟨a,_,hr⟩:=List.mem_flatMap.1 hr
   have:=(aer_ hr).2.2.2.2.2.1
   unfold seqZ seq1
   rw [if_pos this]
  unfold kP_
  generalize (A.flatMap fun a=>wC_ s A v a)=B at hbn hbl hz
  simp (disch:=omega) only [↓pq,ps,pz,↓reduceIte,reduceLE,reduceLT,reduceEq,reduceGT,reduceGE,reduceAdd,reduceSub,reduceMul,reduceNeg,wK_,wI_,]
  refine ajz_ s (fun i c=>[.l (c.map eRcd),ii i]) (ad2_ v) rfl (zc_ (by omega)) ?_ ?_
  ·intro i c hi hc q
   have:=hsn.gt (n:=i) (by omega) hi
   unfold ad2_
   simp (disch:=omega) only [↓pq,ps,pz,↓reduceIte,reduceLE,reduceLT,reduceEq,reduceGT,reduceGE,reduceAdd,reduceSub,reduceMul,reduceNeg,wK_,wI_,hi]
   by_cases k1:(gt s (i:Int)).kind=2
   ·by_cases k2:(gt s (i:Int)).owner=v
    ·simp [k1,k2]
    ·simp [k1,k2]
   ·simp [k1]
  ·intro q
   have hfl:=List.length_filter_le (ad2_ v) s
   simp (disch:=omega) only [↓pq,ps,pz,↓reduceIte,reduceLE,reduceLT,reduceEq,reduceGT,reduceGE,reduceAdd,reduceSub,reduceMul,reduceNeg,wK_,wI_,aA1_ (s.filter (ad2_ v)) B (by omega) (hs.filter _).near hbn,azy_ hz]
end Go.Proofs.YtiebbbmibbkpcaaGreatC

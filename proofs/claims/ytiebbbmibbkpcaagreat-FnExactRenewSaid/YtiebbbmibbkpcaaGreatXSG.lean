/- What nodes tell each other, and who is linked. Conditions: none. -/
import Derived.Test.YtiebbbmibbkpcaaGreatXSF
namespace Go.Proofs.YtiebbbmibbkpcaaGreatC
open Int (reduceLE reduceLT reduceEq reduceGT reduceGE reduceAdd reduceSub reduceMul reduceNeg)
set_option linter.unusedVariables false
set_option linter.unusedSimpArgs false
theorem aOz_ {α:Type} [Inhabited α] {enc:α→List T} {l:List α} {i off:Nat} {vs:List T} {x:α} (h:i < l.length) (hx:(enc (gt l i)).take off++vs++(enc (gt l i)).drop (off+vs.length)=enc x):setRow (l.map enc) i off vs=(l.set i x).map enc:=by
 unfold setRow
 refine List.ext_getElem (by simp) fun j h1 h2=>?_
 simp only [List.getElem_modify,List.getElem_map,List.getElem_set]
 by_cases hj:i=j
 ·subst hj
  rw [if_pos rfl,if_pos rfl,← hx,zm_ h]
 ·rw [if_neg hj,if_neg hj]
theorem afh_ {α:Type} [Inhabited α] {enc:α→List T} {sc:Bool} {w off m:Nat} {l:List α} {n:Int} {vs:List T} {x:α} (h:0≤n) (h':n < l.length) (hw:∀ y,(enc y).length=w) (ho:off+m≤w) (hv:vs.length=m) (hs:(!sc || vs.all scal)=true)
  (hx:(enc (gt l n)).take off++vs++(enc (gt l n)).drop (off+vs.length)=enc x):Prim.ev (.put sc w off m) (.l (l.map enc) :: ii n :: vs)=some (.l ((l.set n.toNat x).map enc)):=by
 have hn:n.toNat < l.length:=by omega
 have e:n=((n.toNat:Nat):Int):=by omega
 have hg:=zl_ (enc:=enc) h h'
 rw [e]
 rw [apm_ hg (hw _) ho hv hs,Int.toNat_natCast,aOz_ hn (by rw [← e];exact hx)]
theorem ub_ {l:List Int} {n x:Int} (h:0≤n) (h':n < l.length):Prim.ev (.put true 1 0 1) [.l (l.map eInt),ii n,ii x]=some (.l ((l.set n.toNat x).map eInt)) :=
 afh_ (enc:=eInt) (x:=x) h h' (fun _=>rfl) (by decide) rfl rfl rfl
theorem aMa_ {l:List Bool} {n:Int} {x:Bool} (h:0≤n) (h':n < l.length):Prim.ev (.put true 1 0 1) [.l (l.map yz_),ii n,bb x]=some (.l ((l.set n.toNat x).map yz_)) :=
 afh_ (enc:=yz_) (x:=x) h h' (fun _=>rfl) (by decide) rfl rfl rfl
theorem aHn_ {l:List Way} {n x:Int} (h:0≤n) (h':n < l.length):Prim.ev (.put true 3 0 1) [.l (l.map eWay),ii n,ii x]=some (.l ((l.set n.toNat ⟨x,(gt l n).cost,(gt l n).hops⟩).map eWay)) :=
 afh_ (enc:=eWay) (x:=⟨x,(gt l n).cost,(gt l n).hops⟩) h h' (fun _=>rfl) (by decide) rfl rfl rfl
theorem q5_ {l:List Way} {n a b:Int} {c:List Int} (h:0≤n) (h':n < l.length):Prim.ev (.put false 3 0 3) [.l (l.map eWay),ii n,ii a,ii b,.l (c.map eInt)]=some (.l ((l.set n.toNat ⟨a,b,c⟩).map eWay)) :=
 afh_ (enc:=eWay) (x:=⟨a,b,c⟩) h h' (fun _=>rfl) (by decide) rfl rfl rfl
def qc_ (l:List Int):List T:=[.l (l.map eInt)]
theorem vK_ {l:List (List Int)} {n:Int} (h:0≤n) (h':n < l.length):Prim.ev (.cell 1 0) [.l (l.map qc_),ii n]=some (.l ((gt l n).map eInt)):=zC_ h (zl_ h h') rfl rfl
theorem qi_ {l:List (List Int)} {n:Int} {c:List Int} (h:0≤n) (h':n < l.length):Prim.ev (.put false 1 0 1) [.l (l.map qc_),ii n,.l (c.map eInt)]=some (.l ((l.set n.toNat c).map qc_)) :=
 afh_ (enc:=qc_) (x:=c) h h' (fun _=>rfl) (by decide) rfl rfl rfl
theorem ak6_ {α:Type} {enc:α→List T} {n:Nat} {x:α} {vs:List T} (h:n < 4294967296) (hx:vs=enc x):Prim.ev .mk (ii (n:Int) :: ii (n:Int) :: vs)=some (.l ((List.replicate n x).map enc)):=by
 rw [aD4_ (by unfold wS_;exact h),hx,List.map_replicate]
theorem auv_ {α:Type} [Inhabited α] {l:List α} {i j:Int} {x:α} (h:0≤i) (h':i < l.length) (hj:0≤j):gt (l.set i.toNat x) j=if i=j then x else gt l j:=by
 unfold gt
 simp only [List.getD_eq_getElem?_getD,List.getElem?_set]
 by_cases e:i=j
 ·subst e
  simp [show i.toNat < l.length by omega]
 ·have:¬ (i.toNat=j.toNat):=by omega
  simp [e,this]
theorem acb_ {α:Type} [Inhabited α] {n:Nat} {x:α} {j:Int} (h:0≤j) (h':j < n):gt (List.replicate n x) j=x:=by
 unfold gt
 simp only [List.getD_eq_getElem?_getD]
 rw [List.getElem?_replicate,if_pos (by omega)]
 rfl
def yc_ (s:List Rcd) (ar v:Int):Int:=zv_ (fun x=>zn_ x ⟨ar,1,v,0,0,[],0,false⟩) s
def wo_ (s:List Rcd) (ar v:Int):List Near:=if yc_ s ar v < 0 then [] else (gt s (yc_ s ar v)).near
def vJ_ (l:List Near) (b:Int):Int:=if zv_ (fun (x:Near)=>x.to == b) l < 0 then 0 else (gt l (zv_ (fun (x:Near)=>x.to == b) l)).cost
def wN_ (s:List Rcd) (ar a b:Int):Int:=vJ_ (wo_ s ar a) b
def zK_ (s:List Rcd) (ar a b:Int):Int:=if wN_ s ar b a=0 then 0 else wN_ s ar a b
theorem qv_ (s:List Rcd) (ar v:Int):yc_ s ar v < s.length:=wi_ _ _
theorem apn_ {s:List Rcd} (hn:NearL s) (ar v:Int):(wo_ s ar v).length≤1048576:=by
 unfold wo_
 split
 ·simp
 ·exact hn.gt (by omega) (qv_ s ar v)
theorem aMm_ (s:List Rcd) (ar a b:Int) (h:s.length≤1048576) (hn:NearL s):ky_ [.l (s.map eRcd),ii ar,ii a,ii b]=some [ii (wN_ s ar a b)]:=by
 have h2:=qv_ s ar a
 rw [aL2_];simp (disch:=omega) only [↓pq,ps,pz,↓reduceIte,reduceLE,reduceLT,reduceEq,reduceGT,reduceGE,reduceAdd,reduceSub,reduceMul,reduceNeg,jk_,anx_,qf_]
 rw [← yc_]
 unfold wN_ wo_
 by_cases hk:yc_ s ar a < 0
 ·simp only [hk,if_true];rfl
 ·have h3:0≤yc_ s ar a:=by omega
  have hl:=hn.gt h3 h2
  simp only [hk,if_false]
  simp (disch:=omega) only [↓pq,ps,pz,↓reduceIte,reduceLE,reduceLT,reduceEq,reduceGT,reduceGE,reduceAdd,reduceSub,reduceMul,reduceNeg,jk_,]
  refine (w9_ (gt s (yc_ s ar a)).near (fun i=>[ii 0,ii i]) (fun x=>x.to == b) (fun i=>some [ii (gt (gt s (yc_ s ar a)).near i).cost]) (outN:=some [ii 0]) rfl (zb_ hl) ?_ ?_).trans ?_
  ·intro i hi q
   simp (disch:=omega) only [↓pq,ps,pz,↓reduceIte,reduceLE,reduceLT,reduceEq,reduceGT,reduceGE,reduceAdd,reduceSub,reduceMul,reduceNeg,jk_,hi]
  ·intro q
   simp (disch:=omega) only [↓pq,ps,pz,↓reduceIte,reduceLE,reduceLT,reduceEq,reduceGT,reduceGE,reduceAdd,reduceSub,reduceMul,reduceNeg,jk_,]
  ·unfold vJ_
   split <;> rfl
theorem wG_ (s:List Rcd) (ar a b:Int) (h:s.length≤1048576) (hn:NearL s):qB_ [.l (s.map eRcd),ii ar,ii a,ii b]=some [ii (zK_ s ar a b)]:=by
 rw [aF4_];simp (disch:=omega) only [↓pq,ps,pz,↓reduceIte,reduceLE,reduceLT,reduceEq,reduceGT,reduceGE,reduceAdd,reduceSub,reduceMul,reduceNeg,agg_,aMm_ _ _ _ _ h hn]
 unfold zK_
 split <;> rfl
theorem aAl_ (s:List Rcd) (ar a:Int) (h:s.length≤1048576):xB_ [.l (s.map eRcd),ii ar,ii a]=if yc_ s ar a < 0 then some [ii 0,ii 0,ii 0,ii 0,ii 0,.l [],ii 0,bb false,bb false] else some (eRcd (gt s (yc_ s ar a))++[bb true]):=by
 have h2:=qv_ s ar a
 rw [aAh_];simp (disch:=omega) only [↓pq,ps,pz,↓reduceIte,reduceLE,reduceLT,reduceEq,reduceGT,reduceGE,reduceAdd,reduceSub,reduceMul,reduceNeg,aeb_,akr_]
 rw [← yc_]
 by_cases hk:yc_ s ar a < 0
 ·simp only [hk,if_true]
 ·have h3:0≤yc_ s ar a:=by omega
  simp only [hk,if_false]
  simp (disch:=omega) only [↓pq,ps,pz,↓reduceIte,reduceLE,reduceLT,reduceEq,reduceGT,reduceGE,reduceAdd,reduceSub,reduceMul,reduceNeg,]
  rfl
theorem abu_ (s:List Rcd) (ar a:Int) (h:s.length≤1048576):∃ c0 c1 c2 c3 c4 c6 c7:T,xB_ [.l (s.map eRcd),ii ar,ii a]=some [c0,c1,c2,c3,c4,.l ((wo_ s ar a).map zE_),c6,c7,bb (decide (0≤yc_ s ar a))]:=by
 rw [aAl_ _ _ _ h]
 unfold wo_
 by_cases hk:yc_ s ar a < 0
 ·rw [if_pos hk,if_pos hk,show decide (0≤yc_ s ar a)=false by simp;omega];exact ⟨_,_,_,_,_,_,_,rfl⟩
 ·rw [if_neg hk,if_neg hk,show decide (0≤yc_ s ar a)=true by simp;omega];exact ⟨_,_,_,_,_,_,_,rfl⟩
theorem avu_ (s:List Rcd) (ar a b:Int) (h:s.length≤1048576) (hn:NearL s):v8_ [.l (s.map eRcd),ii ar,ii a,ii b]=some [ii (wN_ s ar a b)]:=by
 obtain ⟨c0,c1,c2,c3,c4,c6,c7,e⟩:=abu_ s ar a h
 have hl:=apn_ hn ar a
 rw [avs_];simp (disch:=omega) only [↓pq,ps,pz,↓reduceIte,reduceLE,reduceLT,reduceEq,reduceGT,reduceGE,reduceAdd,reduceSub,reduceMul,reduceNeg,u6_,abr_,e]
 refine (w9_ (wo_ s ar a) (fun i=>[ii 0,ii i]) (fun x=>x.to == b) (fun i=>some [ii (gt (wo_ s ar a) i).cost]) (outN:=some [ii 0]) rfl (zb_ hl) ?_ ?_).trans ?_
 ·intro i hi q
  simp (disch:=omega) only [↓pq,ps,pz,↓reduceIte,reduceLE,reduceLT,reduceEq,reduceGT,reduceGE,reduceAdd,reduceSub,reduceMul,reduceNeg,u6_,hi]
 ·intro q
  simp (disch:=omega) only [↓pq,ps,pz,↓reduceIte,reduceLE,reduceLT,reduceEq,reduceGT,reduceGE,reduceAdd,reduceSub,reduceMul,reduceNeg,u6_,]
 ·unfold wN_ vJ_
  split <;> rfl
theorem wq_ {s:List Rcd} (h:zk_ s=true) {r:Rcd} (hr:r∈s):zV_ r=true:=by
 simp only [zk_,Bool.and_eq_true] at h
 obtain ⟨i,hi,rfl⟩:=List.mem_iff_getElem.1 hr
 have:=allB_iff.1 h.2 i hi
 simp only [Bool.and_eq_true] at this
 rw [← zm_ hi]
 exact this.1
theorem qL_ {o:Int} {l:List Near} (h:vd_ o l=true) {x:Near} (hx:x∈l):(1≤x.to∧x.to≤6)∧x.to≠o∧(1≤x.cost∧x.cost≤1000):=by
 obtain ⟨i,hi,rfl⟩:=List.mem_iff_getElem.1 hx
 have:=allB_iff.1 h i hi
 simp only [Bool.and_eq_true,inB_iff,Bool.not_eq_true',decide_eq_false_iff_not] at this
 rw [← zm_ hi]
 exact ⟨this.1.1.1,this.1.1.2,this.1.2⟩
theorem aoh_ {o:Int} {l:List Near} (h:vd_ o l=true):l.Pairwise fun a b=>a.to < b.to:=by
 have h:=allB_iff.1 h
 rw [List.pairwise_iff_getElem]
 have step:∀ i,(hi:i+1 < l.length)→l[i].to < l[i+1].to:=by
  intro i hi
  have:=h (i+1) hi
  simp only [Bool.and_eq_true,Bool.or_eq_true,Bool.not_eq_true',decide_eq_false_iff_not,decide_eq_true_eq] at this
  have h2:=this.2.resolve_left (by omega)
  rwa [show (((i+1:Nat):Int) - 1)=(i:Int) by omega,zm_ (by omega),zm_ hi] at h2
 intro i j hi hj hij
 obtain ⟨d,rfl⟩:∃ d,j=i+1+d:=⟨j - i - 1,by omega⟩
 clear hij
 induction d with
 | zero=>exact step i (by omega)
 | succ d ih=>exact Int.lt_trans (ih (by omega)) (step (i+1+d) (by omega))
theorem ads_ {s:List Rcd} (h:zk_ s=true) (ar v:Int):vd_ v (wo_ s ar v)=true:=by
 unfold wo_
 by_cases hk:yc_ s ar v < 0
 ·rw [if_pos hk];simp [vd_,allB]
 ·rw [if_neg hk]
  have hm:=z2_ (l:=s) (n:=yc_ s ar v) (by omega) (qv_ s ar v)
  have hr:=wq_ h hm
  have hs:=xs_ (fun x=>zn_ x ⟨ar,1,v,0,0,[],0,false⟩) s (by unfold yc_ at hk;omega)
  rw [← yc_] at hs
  rw [y6_] at hs
  obtain ⟨_,h2,h3,_⟩:=hs
  simp only at h2 h3
  unfold zV_ at hr
  rw [h2] at hr
  simp only [if_true,Bool.and_eq_true] at hr
  have hq:=hr.2.1.1.2
  rw [h3] at hq
  exact hq
theorem amn_ {l:List Near} {b:Int} (h:∀ x∈l,x.to≠b):vJ_ l b=0:=by
 unfold vJ_
 rw [if_pos]
 rw [w4_]
 intro x hx
 simp [h x hx]
theorem aA5_ {l:List Near} {b:Int} (h:vJ_ l b≠0):∃ x∈l,x.to=b∧x.cost=vJ_ l b:=by
 unfold vJ_ at h ⊢
 split at h
 ·exact absurd rfl h
 ·rename_i hf
  rw [if_neg hf]
  have hs:=xs_ (fun (y:Near)=>y.to == b) l (by omega)
  simp only [beq_iff_eq] at hs
  exact ⟨_,z2_ (by omega) (wi_ _ _),hs,rfl⟩
theorem asd_ {s:List Rcd} (h:zk_ s=true) (ar a b:Int):0≤wN_ s ar a b∧wN_ s ar a b≤1000:=by
 unfold wN_
 by_cases h0:vJ_ (wo_ s ar a) b=0
 ·rw [h0];omega
 ·obtain ⟨x,hx,_,h2⟩:=aA5_ h0
  have:=qL_ (ads_ h ar a) hx
  omega
theorem aam_ {s:List Rcd} (h:zk_ s=true) (ar a b:Int):0≤zK_ s ar a b∧zK_ s ar a b≤1000:=by
 unfold zK_
 split
 ·omega
 ·exact asd_ h ar a b
def qZ_ (s:List Rcd) (ar a:Int) (M:List Int) (x:Near):List Int:=if inB x.to 1 6=true∧wN_ s ar x.to a > 0 then M.set (a * 7+x.to).toNat x.cost else M
def rowM (s:List Rcd) (ar:Int) (M:List Int) (i:Nat):List Int:=(wo_ s ar (i+1)).foldl (qZ_ s ar (i+1)) M
def aos_ (s:List Rcd) (ar:Int):List Int:=(List.range 6).foldl (rowM s ar) (List.replicate 49 0)
theorem ae1_ (s:List Rcd) (ar a:Int) (M:List Int) (x:Near):(qZ_ s ar a M x).length=M.length:=by
 unfold qZ_;split <;> simp
theorem akp_ {α β:Type} {g:List α→β→List α} (h:∀ M x,(g M x).length=M.length) (l:List β) (M:List α):(l.foldl g M).length=M.length:=by
 induction l generalizing M with
 | nil=>rfl
 | cons x l ih=>rw [List.foldl_cons,ih,h]
theorem anm_ (s:List Rcd) (ar:Int) (M:List Int) (i:Nat):(rowM s ar M i).length=M.length:=akp_ (ae1_ s ar _) _ _
theorem aIb_ (s:List Rcd) (ar:Int):(aos_ s ar).length=49:=by
 unfold aos_
 rw [akp_ (fun M i=>anm_ s ar M i)]
 simp
theorem aQ8_ {s:List Rcd} (hs:zk_ s=true) (ar:Int) {a:Int} (ha:1≤a∧a≤6) {u v:Int} (hu:1≤u∧u≤6) (hv:1≤v∧v≤6) {o:Int}:∀ (l:List Near) (M:List Int),vd_ o l=true∨(l.Pairwise (fun a b=>a.to < b.to)∧∀ x∈l,1≤x.to∧x.to≤6)→M.length=49 →
  gt (l.foldl (qZ_ s ar a) M) (u * 7+v)=if u=a∧wN_ s ar v a > 0∧∃ x∈l,x.to=v then vJ_ l v else gt M (u * 7+v):=by
 intro l M hl hM
 replace hl:l.Pairwise (fun a b=>a.to < b.to)∧∀ x∈l,1≤x.to∧x.to≤6:=by
  rcases hl with hl | hl
  ·exact ⟨aoh_ hl,fun x hx=>(qL_ hl hx).1⟩
  ·exact hl
 induction l generalizing M with
 | nil=>simp
 | cons y l ih =>
  have hp:=List.pairwise_cons.1 hl.1
  have hy:=hl.2 y (.head _)
  have hlen:=ae1_ s ar a M y
  rw [List.foldl_cons,ih (qZ_ s ar a M y) (by rw [hlen];exact hM) ⟨hp.2,fun x hx=>hl.2 x (.tail _ hx)⟩]
  have hset:gt (qZ_ s ar a M y) (u * 7+v)=if u=a∧v=y.to∧wN_ s ar y.to a > 0 then y.cost else gt M (u * 7+v):=by
   unfold qZ_
   by_cases hc:inB y.to 1 6=true∧wN_ s ar y.to a > 0
   ·rw [if_pos hc,auv_ (by omega) (by omega) (by omega)]
    refine aob_ ⟨fun h=>⟨by omega,by omega,hc.2⟩,fun h=>by omega⟩ _ _
   ·rw [if_neg hc,if_neg (fun h=>hc ⟨inB_iff.2 hy,h.2.2⟩)]
  rw [hset]
  by_cases hin:∃ x∈l,x.to=v
  ·obtain ⟨x,hx,e⟩:=hin
   have hne:¬ (v=y.to):=by have:=hp.1 x hx;omega
   have hcost:vJ_ (y :: l) v=vJ_ l v:=by
    unfold vJ_ zv_
    rw [List.findIdx?_cons]
    have:(y.to == v)=false:=by simp;omega
    rw [this]
    simp only [Bool.false_eq_true,if_false]
    cases hf:l.findIdx? (fun (z:Near)=>z.to == v) with
    | none=>rfl
    | some k =>
     show (if ((k+1:Nat):Int) < 0 then 0 else (gt (y :: l) ((k+1:Nat):Int)).cost)=if (k:Int) < 0 then 0 else (gt l (k:Int)).cost
     rw [if_neg (by omega),if_neg (by omega)]
     rfl
   by_cases hu2:u=a∧wN_ s ar v a > 0
   ·rw [if_pos ⟨hu2.1,hu2.2,x,hx,e⟩,if_pos ⟨hu2.1,hu2.2,x,.tail _ hx,e⟩,hcost]
   ·rw [if_neg (fun h=>hu2 ⟨h.1,h.2.1⟩),if_neg (fun h=>hne h.2.1),if_neg (fun h=>hu2 ⟨h.1,h.2.1⟩)]
  ·rw [if_neg (fun h=>hin h.2.2)]
   by_cases hc:u=a∧v=y.to∧wN_ s ar y.to a > 0
   ·rw [if_pos hc,if_pos ⟨hc.1,by rw [hc.2.1];exact hc.2.2,y,.head _,hc.2.1.symm⟩]
    unfold vJ_ zv_
    rw [List.findIdx?_cons]
    have:(y.to == v)=true:=by simp;omega
    rw [this]
    rfl
   ·rw [if_neg hc,if_neg]
    rintro ⟨h1,h2,x,hx,e⟩
    rcases List.mem_cons.1 hx with rfl | hx
    ·exact hc ⟨h1,e.symm,by rw [e];exact h2⟩
    ·exact hin ⟨x,hx,e⟩
theorem aOr_ {s:List Rcd} (hs:zk_ s=true) (ar:Int) {i:Nat} (hi:i < 6) {M:List Int} (hM:M.length=49) {u v:Int} (hu:1≤u∧u≤6) (hv:1≤v∧v≤6) (h0:u=(i:Int)+1→gt M (u * 7+v)=0) :
  gt (rowM s ar M i) (u * 7+v)=if u=(i:Int)+1 then zK_ s ar u v else gt M (u * 7+v):=by
 unfold rowM
 rw [aQ8_ (o:=(i:Int)+1) hs ar (by omega) hu hv _ _ (.inl (ads_ hs ar ((i:Int)+1))) hM]
 by_cases hc:u=(i:Int)+1
 ·rw [if_pos hc,h0 hc]
  unfold zK_
  have hb:=asd_ hs ar v u
  by_cases h1:wN_ s ar v u=0
  ·rw [if_pos h1,if_neg]
   rintro ⟨_,h2,_⟩
   rw [← hc] at h2;omega
  ·rw [if_neg h1]
   by_cases h2:∃ x∈wo_ s ar ((i:Int)+1),x.to=v
   ·rw [if_pos ⟨hc,by rw [← hc];omega,h2⟩,← hc];rfl
   ·rw [if_neg (fun h=>h2 h.2.2)]
    unfold wN_
    rw [amn_]
    intro x hx e
    exact h2 ⟨x,hc ▸ hx,e⟩
 ·rw [if_neg (fun h=>hc h.1),if_neg hc]
theorem aNh_ {s:List Rcd} (hs:zk_ s=true) (ar:Int) {u v:Int} (hu:1≤u∧u≤6) (hv:1≤v∧v≤6):gt (aos_ s ar) (u * 7+v)=zK_ s ar u v:=by
 have key:=jI_ (l:=List.range 6) (g:=rowM s ar) (c:=List.replicate 49 0) (Inv:=fun i M=>M.length=49∧∀ u v:Int,(1≤u∧u≤6)→(1≤v∧v≤6)→gt M (u * 7+v)=if u < (i:Int)+1 then zK_ s ar u v else 0)
  ⟨by simp,fun u v hu hv=>by rw [acb_ (by omega) (by omega),if_neg (by omega)]⟩ (fun i M hi ⟨h1,h2⟩=>by
   have hl:(List.range 6).length=6:=List.length_range
   rw [hl] at hi
   rw [zm_ (by rw [hl];omega),List.getElem_range]
   refine ⟨by rw [anm_];exact h1,fun u v hu hv=>?_⟩
   rw [aOr_ hs ar (by omega) h1 hu hv (fun e=>by rw [h2 u v hu hv,if_neg (by omega)]),h2 u v hu hv]
   by_cases hc:u=(i:Int)+1
   ·rw [if_pos hc,if_pos (by omega)]
   ·rw [if_neg hc]
    exact aob_ ⟨fun h=>by omega,fun h=>by omega⟩ _ _)
 have:=key.2 u v hu hv
 rw [List.length_range,if_pos (by omega)] at this
 exact this
theorem ayk_ (s:List Rcd) (ar:Int) (h:s.length≤1048576) (hn:NearL s) (hs:zk_ s=true):v9_ [.l (s.map eRcd),ii ar]=some [.l ((aos_ s ar).map eInt)]:=by
 have e0:=ak6_ (enc:=eInt) (n:=49) (x:=0) (vs:=[ii 0]) (by decide) rfl
 rw [ayd_];simp only [acg_,pv_s]
 rw [show Prim.ev .mk [ii 49,ii 49,ii 0]=some (.l ((List.replicate 49 (0:Int)).map eInt)) from e0,za_]
 refine yX_ 6 (fun i M=>[ii (i+1),.l (M.map eInt)]) (rowM s ar) (fun M=>some [T.l (M.map eInt)]) (List.replicate 49 0) (fun _ M=>M.length=49) rfl (zb_ (by omega)) (by simp) ?_ ?_
 ·intro i M hi hM
  refine ⟨by rw [anm_];exact hM,fun q=>?_⟩
  have hi':(i:Int)+1≤6:=by omega
  obtain ⟨c0,c1,c2,c3,c4,c6,c7,e⟩:=abu_ s ar ((i:Int)+1) h
  have hl:=apn_ hn ar ((i:Int)+1)
  simp (disch:=omega) only [↓pq,ps,pz,↓reduceIte,reduceLE,reduceLT,reduceEq,reduceGT,reduceGE,reduceAdd,reduceSub,reduceMul,reduceNeg,vH_,vB_,hi',e]
  refine zg_ (wo_ s ar ((i:Int)+1)) (fun j M=>[ii j,.l (M.map eInt)]) (qZ_ s ar ((i:Int)+1)) (fun M=>q [ii ((i+1:Nat)+1),.l (M.map eInt)]) M (fun _ M=>M.length=49) rfl (zb_ hl) hM ?_ ?_
  ·intro j M hj hM
   refine ⟨by rw [ae1_];exact hM,fun q=>?_⟩
   have ht:=qL_ (ads_ hs ar ((i:Int)+1)) (z2_ (n:=j) (by omega) hj)
   unfold qZ_
   have hb:inB (gt (wo_ s ar ((i:Int)+1)) j).to 1 6=true:=inB_iff.2 ht.1
   simp (disch:=omega) only [↓pq,ps,pz,↓reduceIte,reduceLE,reduceLT,reduceEq,reduceGT,reduceGE,reduceAdd,reduceSub,reduceMul,reduceNeg,vH_,vB_,hj,vL_,hb,avu_ _ _ _ _ h hn,ub_]
   simp only [true_and]
   by_cases hc:wN_ s ar (gt (wo_ s ar ((i:Int)+1)) j).to ((i:Int)+1) > 0
   ·simp only [hc,if_true]
   ·simp only [hc,if_false]
  ·intro M q' hM
   simp (disch:=omega) only [↓pq,ps,pz,↓reduceIte,reduceLE,reduceLT,reduceEq,reduceGT,reduceGE,reduceAdd,reduceSub,reduceMul,reduceNeg,vH_,vB_,]
 ·intro M q hM
  simp (disch:=omega) only [↓pq,ps,pz,↓reduceIte,reduceLE,reduceLT,reduceEq,reduceGT,reduceGE,reduceAdd,reduceSub,reduceMul,reduceNeg,vH_,vB_,]
end Go.Proofs.YtiebbbmibbkpcaaGreatC

/- What nodes tell each other, and who is linked. Conditions: none. -/
import Derived.Test.YtiebbbmibbkpcaaGreatXSF
namespace Go.Proofs.YtiebbbmibbkpcaaGreatC
open Int (reduceLE reduceLT reduceEq reduceGT reduceGE reduceAdd reduceSub reduceMul reduceNeg)
set_option linter.unusedVariables false
set_option linter.unusedSimpArgs false
theorem aQ0_ {α:Type} [Inhabited α] {enc:α→List T} {l:List α} {i off:Nat} {vs:List T} {x:α} (h:i < l.length) (hx:(enc (gt l i)).take off++vs++(enc (gt l i)).drop (off+vs.length)=enc x):setRow (l.map enc) i off vs=(l.set i x).map enc:=by
 unfold setRow
 refine List.ext_getElem (by simp) fun j h1 h2=>?_
 simp only [List.getElem_modify,List.getElem_map,List.getElem_set]
 by_cases hj:i=j
 ·subst hj
  rw [if_pos rfl,if_pos rfl,← hx,zm_ h]
 ·rw [if_neg hj,if_neg hj]
theorem af9_ {α:Type} [Inhabited α] {enc:α→List T} {sc:Bool} {w off m:Nat} {l:List α} {n:Int} {vs:List T} {x:α} (h:0≤n) (h':n < l.length) (hw:∀ y,(enc y).length=w) (ho:off+m≤w) (hv:vs.length=m) (hs:(!sc || vs.all scal)=true)
  (hx:(enc (gt l n)).take off++vs++(enc (gt l n)).drop (off+vs.length)=enc x):Prim.ev (.put sc w off m) (.l (l.map enc) :: ii n :: vs)=some (.l ((l.set n.toNat x).map enc)):=by
 have hn:n.toNat < l.length:=by omega
 have e:n=((n.toNat:Nat):Int):=by omega
 have hg:=zd_ (enc:=enc) h h'
 rw [e]
 rw [au7_ hg (hw _) ho hv hs,Int.toNat_natCast,aQ0_ hn (by rw [← e];exact hx)]
theorem v8_ {l:List Int} {n x:Int} (h:0≤n) (h':n < l.length):Prim.ev (.put true 1 0 1) [.l (l.map eInt),ii n,ii x]=some (.l ((l.set n.toNat x).map eInt)) :=
 af9_ (enc:=eInt) (x:=x) h h' (fun _=>rfl) (by decide) rfl rfl rfl
theorem aNp_ {l:List Bool} {n:Int} {x:Bool} (h:0≤n) (h':n < l.length):Prim.ev (.put true 1 0 1) [.l (l.map yx_),ii n,bb x]=some (.l ((l.set n.toNat x).map yx_)) :=
 af9_ (enc:=yx_) (x:=x) h h' (fun _=>rfl) (by decide) rfl rfl rfl
theorem aLx_ {l:List Way} {n x:Int} (h:0≤n) (h':n < l.length):Prim.ev (.put true 3 0 1) [.l (l.map eWay),ii n,ii x]=some (.l ((l.set n.toNat ⟨x,(gt l n).cost,(gt l n).hops⟩).map eWay)) :=
 af9_ (enc:=eWay) (x:=⟨x,(gt l n).cost,(gt l n).hops⟩) h h' (fun _=>rfl) (by decide) rfl rfl rfl
theorem qL_ {l:List Way} {n a b:Int} {c:List Int} (h:0≤n) (h':n < l.length):Prim.ev (.put false 3 0 3) [.l (l.map eWay),ii n,ii a,ii b,.l (c.map eInt)]=some (.l ((l.set n.toNat ⟨a,b,c⟩).map eWay)) :=
 af9_ (enc:=eWay) (x:=⟨a,b,c⟩) h h' (fun _=>rfl) (by decide) rfl rfl rfl
def u8_ (l:List Int):List T:=[.l (l.map eInt)]
theorem vX_ {l:List (List Int)} {n:Int} (h:0≤n) (h':n < l.length):Prim.ev (.cell 1 0) [.l (l.map u8_),ii n]=some (.l ((gt l n).map eInt)):=zr_ h (zd_ h h') rfl rfl
theorem qz_ {l:List (List Int)} {n:Int} {c:List Int} (h:0≤n) (h':n < l.length):Prim.ev (.put false 1 0 1) [.l (l.map u8_),ii n,.l (c.map eInt)]=some (.l ((l.set n.toNat c).map u8_)) :=
 af9_ (enc:=u8_) (x:=c) h h' (fun _=>rfl) (by decide) rfl rfl rfl
theorem alc_ {α:Type} {enc:α→List T} {n:Nat} {x:α} {vs:List T} (h:n < 4294967296) (hx:vs=enc x):Prim.ev .mk (ii (n:Int) :: ii (n:Int) :: vs)=some (.l ((List.replicate n x).map enc)):=by
 rw [aPb_ (by unfold vy_;exact h),hx,List.map_replicate]
theorem axe_ {α:Type} [Inhabited α] {l:List α} {i j:Int} {x:α} (h:0≤i) (h':i < l.length) (hj:0≤j):gt (l.set i.toNat x) j=if i=j then x else gt l j:=by
 unfold gt
 simp only [List.getD_eq_getElem?_getD,List.getElem?_set]
 by_cases e:i=j
 ·subst e
  simp [show i.toNat < l.length by omega]
 ·have:¬ (i.toNat=j.toNat):=by omega
  simp [e,this]
theorem acx_ {α:Type} [Inhabited α] {n:Nat} {x:α} {j:Int} (h:0≤j) (h':j < n):gt (List.replicate n x) j=x:=by
 unfold gt
 simp only [List.getD_eq_getElem?_getD]
 rw [List.getElem?_replicate,if_pos (by omega)]
 rfl
def z9_ (s:List Rcd) (ar v:Int):Int:=zu_ (fun x=>zp_ x ⟨ar,1,v,0,0,[],0,false⟩) s
def wn_ (s:List Rcd) (ar v:Int):List Near:=if z9_ s ar v < 0 then [] else (gt s (z9_ s ar v)).near
def vP_ (l:List Near) (b:Int):Int:=if zu_ (fun (x:Near)=>x.to == b) l < 0 then 0 else (gt l (zu_ (fun (x:Near)=>x.to == b) l)).cost
def wM_ (s:List Rcd) (ar a b:Int):Int:=vP_ (wn_ s ar a) b
def zL_ (s:List Rcd) (ar a b:Int):Int:=if wM_ s ar b a=0 then 0 else wM_ s ar a b
theorem qx_ (s:List Rcd) (ar v:Int):z9_ s ar v < s.length:=x7_ _ _
theorem ao1_ {s:List Rcd} (hn:NearL s) (ar v:Int):(wn_ s ar v).length≤1048576:=by
 unfold wn_
 split
 ·simp
 ·exact hn.gt (by omega) (qx_ s ar v)
theorem aM3_ (s:List Rcd) (ar a b:Int) (h:s.length≤1048576) (hn:NearL s):kV_ [.l (s.map eRcd),ii ar,ii a,ii b]=some [ii (wM_ s ar a b)]:=by
 have h2:=qx_ s ar a
 rw [aL9_];simp (disch:=omega) only [↓pq,ps,pz,↓reduceIte,reduceLE,reduceLT,reduceEq,reduceGT,reduceGE,reduceAdd,reduceSub,reduceMul,reduceNeg,jq_,aob_,qm_]
 rw [← z9_]
 unfold wM_ wn_
 by_cases hk:z9_ s ar a < 0
 ·simp only [hk,if_true];rfl
 ·have h3:0≤z9_ s ar a:=by omega
  have hl:=hn.gt h3 h2
  simp only [hk,if_false]
  simp (disch:=omega) only [↓pq,ps,pz,↓reduceIte,reduceLE,reduceLT,reduceEq,reduceGT,reduceGE,reduceAdd,reduceSub,reduceMul,reduceNeg,jq_,]
  refine (vi_ (gt s (z9_ s ar a)).near (fun i=>[ii 0,ii i]) (fun x=>x.to == b) (fun i=>some [ii (gt (gt s (z9_ s ar a)).near i).cost]) (outN:=some [ii 0]) rfl (zb_ hl) ?_ ?_).trans ?_
  ·intro i hi q
   simp (disch:=omega) only [↓pq,ps,pz,↓reduceIte,reduceLE,reduceLT,reduceEq,reduceGT,reduceGE,reduceAdd,reduceSub,reduceMul,reduceNeg,jq_,hi]
  ·intro q
   simp (disch:=omega) only [↓pq,ps,pz,↓reduceIte,reduceLE,reduceLT,reduceEq,reduceGT,reduceGE,reduceAdd,reduceSub,reduceMul,reduceNeg,jq_,]
  ·unfold vP_
   split <;> rfl
theorem wP_ (s:List Rcd) (ar a b:Int) (h:s.length≤1048576) (hn:NearL s):q9_ [.l (s.map eRcd),ii ar,ii a,ii b]=some [ii (zL_ s ar a b)]:=by
 rw [aF6_];simp (disch:=omega) only [↓pq,ps,pz,↓reduceIte,reduceLE,reduceLT,reduceEq,reduceGT,reduceGE,reduceAdd,reduceSub,reduceMul,reduceNeg,ah4_,aM3_ _ _ _ _ h hn]
 unfold zL_
 split <;> rfl
theorem az6_ (s:List Rcd) (ar a:Int) (h:s.length≤1048576):xE_ [.l (s.map eRcd),ii ar,ii a]=if z9_ s ar a < 0 then some [ii 0,ii 0,ii 0,ii 0,ii 0,.l [],ii 0,bb false,bb false] else some (eRcd (gt s (z9_ s ar a))++[bb true]):=by
 have h2:=qx_ s ar a
 rw [azv_];simp (disch:=omega) only [↓pq,ps,pz,↓reduceIte,reduceLE,reduceLT,reduceEq,reduceGT,reduceGE,reduceAdd,reduceSub,reduceMul,reduceNeg,aeu_,akw_]
 rw [← z9_]
 by_cases hk:z9_ s ar a < 0
 ·simp only [hk,if_true]
 ·have h3:0≤z9_ s ar a:=by omega
  simp only [hk,if_false]
  simp (disch:=omega) only [↓pq,ps,pz,↓reduceIte,reduceLE,reduceLT,reduceEq,reduceGT,reduceGE,reduceAdd,reduceSub,reduceMul,reduceNeg,]
  rfl
theorem ac1_ (s:List Rcd) (ar a:Int) (h:s.length≤1048576):∃ c0 c1 c2 c3 c4 c6 c7:T,xE_ [.l (s.map eRcd),ii ar,ii a]=some [c0,c1,c2,c3,c4,.l ((wn_ s ar a).map zF_),c6,c7,bb (decide (0≤z9_ s ar a))]:=by
 rw [az6_ _ _ _ h]
 unfold wn_
 by_cases hk:z9_ s ar a < 0
 ·rw [if_pos hk,if_pos hk,show decide (0≤z9_ s ar a)=false by simp;omega];exact ⟨_,_,_,_,_,_,_,rfl⟩
 ·rw [if_neg hk,if_neg hk,show decide (0≤z9_ s ar a)=true by simp;omega];exact ⟨_,_,_,_,_,_,_,rfl⟩
theorem aus_ (s:List Rcd) (ar a b:Int) (h:s.length≤1048576) (hn:NearL s):ul_ [.l (s.map eRcd),ii ar,ii a,ii b]=some [ii (wM_ s ar a b)]:=by
 obtain ⟨c0,c1,c2,c3,c4,c6,c7,e⟩:=ac1_ s ar a h
 have hl:=ao1_ hn ar a
 rw [ayt_];simp (disch:=omega) only [↓pq,ps,pz,↓reduceIte,reduceLE,reduceLT,reduceEq,reduceGT,reduceGE,reduceAdd,reduceSub,reduceMul,reduceNeg,qa_,acc_,e]
 refine (vi_ (wn_ s ar a) (fun i=>[ii 0,ii i]) (fun x=>x.to == b) (fun i=>some [ii (gt (wn_ s ar a) i).cost]) (outN:=some [ii 0]) rfl (zb_ hl) ?_ ?_).trans ?_
 ·intro i hi q
  simp (disch:=omega) only [↓pq,ps,pz,↓reduceIte,reduceLE,reduceLT,reduceEq,reduceGT,reduceGE,reduceAdd,reduceSub,reduceMul,reduceNeg,qa_,hi]
 ·intro q
  simp (disch:=omega) only [↓pq,ps,pz,↓reduceIte,reduceLE,reduceLT,reduceEq,reduceGT,reduceGE,reduceAdd,reduceSub,reduceMul,reduceNeg,qa_,]
 ·unfold wM_ vP_
  split <;> rfl
theorem wv_ {s:List Rcd} (h:zk_ s=true) {r:Rcd} (hr:r∈s):zR_ r=true:=by
 simp only [zk_,Bool.and_eq_true] at h
 obtain ⟨i,hi,rfl⟩:=List.mem_iff_getElem.1 hr
 have:=allB_iff.1 h.2 i hi
 simp only [Bool.and_eq_true] at this
 rw [← zm_ hi]
 exact this.1
theorem qY_ {o:Int} {l:List Near} (h:vt_ o l=true) {x:Near} (hx:x∈l):(1≤x.to∧x.to≤6)∧x.to≠o∧(1≤x.cost∧x.cost≤1000):=by
 obtain ⟨i,hi,rfl⟩:=List.mem_iff_getElem.1 hx
 have:=allB_iff.1 h i hi
 simp only [Bool.and_eq_true,inB_iff,Bool.not_eq_true',decide_eq_false_iff_not] at this
 rw [← zm_ hi]
 exact ⟨this.1.1.1,this.1.1.2,this.1.2⟩
theorem aqi_ {o:Int} {l:List Near} (h:vt_ o l=true):l.Pairwise fun a b=>a.to < b.to:=by
 have h:=allB_iff.1 h
 rw [List.pairwise_iff_getElem]
 have step:∀ i,(hi:i+1 < l.length)→l[i].to < l[i+1].to:=by
  intro i hi
  have:=h (i+1) hi
  simp only [Bool.and_eq_true,Bool.or_eq_true,Bool.not_eq_true',decide_eq_false_iff_not,decide_eq_true_eq] at this
  have h2:=this.2.resolve_left (by omega)
  rwa [show (((i+1:Nat):Int) - 1)=(i:Int) by omega,zm_ (by omega),zm_ hi] at h2
 intro i j hi hj hij
 obtain ⟨d,rfl⟩:∃ d,j=i+1+d:=⟨j - i - 1,by omega⟩
 clear hij
 induction d with
 | zero=>exact step i (by omega)
 | succ d ih=>exact Int.lt_trans (ih (by omega)) (step (i+1+d) (by omega))
theorem adj_ {s:List Rcd} (h:zk_ s=true) (ar v:Int):vt_ v (wn_ s ar v)=true:=by
 unfold wn_
 by_cases hk:z9_ s ar v < 0
 ·rw [if_pos hk];simp [vt_,allB]
 ·rw [if_neg hk]
  have hm:=zX_ (l:=s) (n:=z9_ s ar v) (by omega) (qx_ s ar v)
  have hr:=wv_ h hm
  have hs:=xv_ (fun x=>zp_ x ⟨ar,1,v,0,0,[],0,false⟩) s (by unfold z9_ at hk;omega)
  rw [← z9_] at hs
  rw [xa_] at hs
  obtain ⟨_,h2,h3,_⟩:=hs
  simp only at h2 h3
  unfold zR_ at hr
  rw [h2] at hr
  simp only [if_true,Bool.and_eq_true] at hr
  have hq:=hr.2.1.1.2
  rw [h3] at hq
  exact hq
theorem amk_ {l:List Near} {b:Int} (h:∀ x∈l,x.to≠b):vP_ l b=0:=by
 unfold vP_
 rw [if_pos]
 rw [w5_]
 intro x hx
 simp [h x hx]
theorem aBj_ {l:List Near} {b:Int} (h:vP_ l b≠0):∃ x∈l,x.to=b∧x.cost=vP_ l b:=by
 unfold vP_ at h ⊢
 split at h
 ·exact absurd rfl h
 ·rename_i hf
  rw [if_neg hf]
  have hs:=xv_ (fun (y:Near)=>y.to == b) l (by omega)
  simp only [beq_iff_eq] at hs
  exact ⟨_,zX_ (by omega) (x7_ _ _),hs,rfl⟩
theorem ar5_ {s:List Rcd} (h:zk_ s=true) (ar a b:Int):0≤wM_ s ar a b∧wM_ s ar a b≤1000:=by
 unfold wM_
 by_cases h0:vP_ (wn_ s ar a) b=0
 ·rw [h0];omega
 ·obtain ⟨x,hx,_,h2⟩:=aBj_ h0
  have:=qY_ (adj_ h ar a) hx
  omega
theorem aal_ {s:List Rcd} (h:zk_ s=true) (ar a b:Int):0≤zL_ s ar a b∧zL_ s ar a b≤1000:=by
 unfold zL_
 split
 ·omega
 ·exact ar5_ h ar a b
def q0_ (s:List Rcd) (ar a:Int) (M:List Int) (x:Near):List Int:=if inB x.to 1 6=true∧wM_ s ar x.to a > 0 then M.set (a * 7+x.to).toNat x.cost else M
def rowM (s:List Rcd) (ar:Int) (M:List Int) (i:Nat):List Int:=(wn_ s ar (i+1)).foldl (q0_ s ar (i+1)) M
def aqc_ (s:List Rcd) (ar:Int):List Int:=(List.range 6).foldl (rowM s ar) (List.replicate 49 0)
theorem aeq_ (s:List Rcd) (ar a:Int) (M:List Int) (x:Near):(q0_ s ar a M x).length=M.length:=by
 unfold q0_;split <;> simp
theorem aj3_ {α β:Type} {g:List α→β→List α} (h:∀ M x,(g M x).length=M.length) (l:List β) (M:List α):(l.foldl g M).length=M.length:=by
 induction l generalizing M with
 | nil=>rfl
 | cons x l ih=>rw [List.foldl_cons,ih,h]
theorem anw_ (s:List Rcd) (ar:Int) (M:List Int) (i:Nat):(rowM s ar M i).length=M.length:=aj3_ (aeq_ s ar _) _ _
theorem aId_ (s:List Rcd) (ar:Int):(aqc_ s ar).length=49:=by
 unfold aqc_
 rw [aj3_ (fun M i=>anw_ s ar M i)]
 simp
theorem aRk_ {s:List Rcd} (hs:zk_ s=true) (ar:Int) {a:Int} (ha:1≤a∧a≤6) {u v:Int} (hu:1≤u∧u≤6) (hv:1≤v∧v≤6) {o:Int}:∀ (l:List Near) (M:List Int),vt_ o l=true∨(l.Pairwise (fun a b=>a.to < b.to)∧∀ x∈l,1≤x.to∧x.to≤6)→M.length=49 →
  gt (l.foldl (q0_ s ar a) M) (u * 7+v)=if u=a∧wM_ s ar v a > 0∧∃ x∈l,x.to=v then vP_ l v else gt M (u * 7+v):=by
 intro l M hl hM
 replace hl:l.Pairwise (fun a b=>a.to < b.to)∧∀ x∈l,1≤x.to∧x.to≤6:=by
  rcases hl with hl | hl
  ·exact ⟨aqi_ hl,fun x hx=>(qY_ hl hx).1⟩
  ·exact hl
 induction l generalizing M with
 | nil=>simp
 | cons y l ih =>
  have hp:=List.pairwise_cons.1 hl.1
  have hy:=hl.2 y (.head _)
  have hlen:=aeq_ s ar a M y
  rw [List.foldl_cons,ih (q0_ s ar a M y) (by rw [hlen];exact hM) ⟨hp.2,fun x hx=>hl.2 x (.tail _ hx)⟩]
  have hset:gt (q0_ s ar a M y) (u * 7+v)=if u=a∧v=y.to∧wM_ s ar y.to a > 0 then y.cost else gt M (u * 7+v):=by
   unfold q0_
   by_cases hc:inB y.to 1 6=true∧wM_ s ar y.to a > 0
   ·rw [if_pos hc,axe_ (by omega) (by omega) (by omega)]
    refine apw_ ⟨fun h=>⟨by omega,by omega,hc.2⟩,fun h=>by omega⟩ _ _
   ·rw [if_neg hc,if_neg (fun h=>hc ⟨inB_iff.2 hy,h.2.2⟩)]
  rw [hset]
  by_cases hin:∃ x∈l,x.to=v
  ·obtain ⟨x,hx,e⟩:=hin
   have hne:¬ (v=y.to):=by have:=hp.1 x hx;omega
   have hcost:vP_ (y :: l) v=vP_ l v:=by
    unfold vP_ zu_
    rw [List.findIdx?_cons]
    have:(y.to == v)=false:=by simp;omega
    rw [this]
    simp only [Bool.false_eq_true,if_false]
    cases hf:l.findIdx? (fun (z:Near)=>z.to == v) with
    | none=>rfl
    | some k =>
     show (if ((k+1:Nat):Int) < 0 then 0 else (gt (y :: l) ((k+1:Nat):Int)).cost)=if (k:Int) < 0 then 0 else (gt l (k:Int)).cost
     rw [if_neg (by omega),if_neg (by omega)]
     rfl
   by_cases hu2:u=a∧wM_ s ar v a > 0
   ·rw [if_pos ⟨hu2.1,hu2.2,x,hx,e⟩,if_pos ⟨hu2.1,hu2.2,x,.tail _ hx,e⟩,hcost]
   ·rw [if_neg (fun h=>hu2 ⟨h.1,h.2.1⟩),if_neg (fun h=>hne h.2.1),if_neg (fun h=>hu2 ⟨h.1,h.2.1⟩)]
  ·rw [if_neg (fun h=>hin h.2.2)]
   by_cases hc:u=a∧v=y.to∧wM_ s ar y.to a > 0
   ·rw [if_pos hc,if_pos ⟨hc.1,by rw [hc.2.1];exact hc.2.2,y,.head _,hc.2.1.symm⟩]
    unfold vP_ zu_
    rw [List.findIdx?_cons]
    have:(y.to == v)=true:=by simp;omega
    rw [this]
    rfl
   ·rw [if_neg hc,if_neg]
    rintro ⟨h1,h2,x,hx,e⟩
    rcases List.mem_cons.1 hx with rfl | hx
    ·exact hc ⟨h1,e.symm,by rw [e];exact h2⟩
    ·exact hin ⟨x,hx,e⟩
theorem aQi_ {s:List Rcd} (hs:zk_ s=true) (ar:Int) {i:Nat} (hi:i < 6) {M:List Int} (hM:M.length=49) {u v:Int} (hu:1≤u∧u≤6) (hv:1≤v∧v≤6) (h0:u=(i:Int)+1→gt M (u * 7+v)=0) :
  gt (rowM s ar M i) (u * 7+v)=if u=(i:Int)+1 then zL_ s ar u v else gt M (u * 7+v):=by
 unfold rowM
 rw [aRk_ (o:=(i:Int)+1) hs ar (by omega) hu hv _ _ (.inl (adj_ hs ar ((i:Int)+1))) hM]
 by_cases hc:u=(i:Int)+1
 ·rw [if_pos hc,h0 hc]
  unfold zL_
  have hb:=ar5_ hs ar v u
  by_cases h1:wM_ s ar v u=0
  ·rw [if_pos h1,if_neg]
   rintro ⟨_,h2,_⟩
   rw [← hc] at h2;omega
  ·rw [if_neg h1]
   by_cases h2:∃ x∈wn_ s ar ((i:Int)+1),x.to=v
   ·rw [if_pos ⟨hc,by rw [← hc];omega,h2⟩,← hc];rfl
   ·rw [if_neg (fun h=>h2 h.2.2)]
    unfold wM_
    rw [amk_]
    intro x hx e
    exact h2 ⟨x,hc ▸ hx,e⟩
 ·rw [if_neg (fun h=>hc h.1),if_neg hc]
theorem aMf_ {s:List Rcd} (hs:zk_ s=true) (ar:Int) {u v:Int} (hu:1≤u∧u≤6) (hv:1≤v∧v≤6):gt (aqc_ s ar) (u * 7+v)=zL_ s ar u v:=by
 have key:=j0_ (l:=List.range 6) (g:=rowM s ar) (c:=List.replicate 49 0) (Inv:=fun i M=>M.length=49∧∀ u v:Int,(1≤u∧u≤6)→(1≤v∧v≤6)→gt M (u * 7+v)=if u < (i:Int)+1 then zL_ s ar u v else 0)
  ⟨by simp,fun u v hu hv=>by rw [acx_ (by omega) (by omega),if_neg (by omega)]⟩ (fun i M hi ⟨h1,h2⟩=>by
   have hl:(List.range 6).length=6:=List.length_range
   rw [hl] at hi
   rw [zm_ (by rw [hl];omega),List.getElem_range]
   refine ⟨by rw [anw_];exact h1,fun u v hu hv=>?_⟩
   rw [aQi_ hs ar (by omega) h1 hu hv (fun e=>by rw [h2 u v hu hv,if_neg (by omega)]),h2 u v hu hv]
   by_cases hc:u=(i:Int)+1
   ·rw [if_pos hc,if_pos (by omega)]
   ·rw [if_neg hc]
    exact apw_ ⟨fun h=>by omega,fun h=>by omega⟩ _ _)
 have:=key.2 u v hu hv
 rw [List.length_range,if_pos (by omega)] at this
 exact this
theorem awf_ (s:List Rcd) (ar:Int) (h:s.length≤1048576) (hn:NearL s) (hs:zk_ s=true):ug_ [.l (s.map eRcd),ii ar]=some [.l ((aqc_ s ar).map eInt)]:=by
 have e0:=alc_ (enc:=eInt) (n:=49) (x:=0) (vs:=[ii 0]) (by decide) rfl
 rw [ax4_];simp only [ade_,pv_s]
 rw [show Prim.ev .mk [ii 49,ii 49,ii 0]=some (.l ((List.replicate 49 (0:Int)).map eInt)) from e0,za_]
 refine yy_ 6 (fun i M=>[ii (i+1),.l (M.map eInt)]) (rowM s ar) (fun M=>some [T.l (M.map eInt)]) (List.replicate 49 0) (fun _ M=>M.length=49) rfl (zb_ (by omega)) (by simp) ?_ ?_
 ·intro i M hi hM
  refine ⟨by rw [anw_];exact hM,fun q=>?_⟩
  have hi':(i:Int)+1≤6:=by omega
  obtain ⟨c0,c1,c2,c3,c4,c6,c7,e⟩:=ac1_ s ar ((i:Int)+1) h
  have hl:=ao1_ hn ar ((i:Int)+1)
  simp (disch:=omega) only [↓pq,ps,pz,↓reduceIte,reduceLE,reduceLT,reduceEq,reduceGT,reduceGE,reduceAdd,reduceSub,reduceMul,reduceNeg,vZ_,vQ_,hi',e]
  refine zg_ (wn_ s ar ((i:Int)+1)) (fun j M=>[ii j,.l (M.map eInt)]) (q0_ s ar ((i:Int)+1)) (fun M=>q [ii ((i+1:Nat)+1),.l (M.map eInt)]) M (fun _ M=>M.length=49) rfl (zb_ hl) hM ?_ ?_
  ·intro j M hj hM
   refine ⟨by rw [aeq_];exact hM,fun q=>?_⟩
   have ht:=qY_ (adj_ hs ar ((i:Int)+1)) (zX_ (n:=j) (by omega) hj)
   unfold q0_
   have hb:inB (gt (wn_ s ar ((i:Int)+1)) j).to 1 6=true:=inB_iff.2 ht.1
   simp (disch:=omega) only [↓pq,ps,pz,↓reduceIte,reduceLE,reduceLT,reduceEq,reduceGT,reduceGE,reduceAdd,reduceSub,reduceMul,reduceNeg,vZ_,vQ_,hj,vT_,hb,aus_ _ _ _ _ h hn,v8_]
   simp only [true_and]
   by_cases hc:wM_ s ar (gt (wn_ s ar ((i:Int)+1)) j).to ((i:Int)+1) > 0
   ·simp only [hc,if_true]
   ·simp only [hc,if_false]
  ·intro M q' hM
   simp (disch:=omega) only [↓pq,ps,pz,↓reduceIte,reduceLE,reduceLT,reduceEq,reduceGT,reduceGE,reduceAdd,reduceSub,reduceMul,reduceNeg,vZ_,vQ_,]
 ·intro M q hM
  simp (disch:=omega) only [↓pq,ps,pz,↓reduceIte,reduceLE,reduceLT,reduceEq,reduceGT,reduceGE,reduceAdd,reduceSub,reduceMul,reduceNeg,vZ_,vQ_,]
end Go.Proofs.YtiebbbmibbkpcaaGreatC

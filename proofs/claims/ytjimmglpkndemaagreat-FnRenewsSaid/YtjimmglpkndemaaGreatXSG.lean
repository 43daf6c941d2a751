/- What nodes tell each other, and who is linked. Conditions: none. -/
import Derived.Test.YtjimmglpkndemaaGreatXSF
namespace Go.Proofs.YtjimmglpkndemaaGreatC
open Int renaming reduceLE → Q0_, reduceLT → Q1_, reduceEq → Q2_, reduceGT → Q3_, reduceGE → Q4_, reduceAdd → Q5_, reduceSub → Q6_, reduceMul → Q7_, reduceNeg → Q8_
set_option linter.unusedVariables false
set_option linter.unusedSimpArgs false
theorem aBb_ {α:Type} [Inhabited α] {enc:α→List T} {l:List α} {i off:Nat} {vs:List T} {x:α} (h:i < l.length) (hx:(enc (gt l i)).take off++vs++(enc (gt l i)).drop (off+vs.length)=enc x):setRow (l.map enc) i off vs=(l.set i x).map enc:=by
 unfold setRow
 refine List.ext_getElem (by simp) fun j h1 h2=>?_
 simp only [List.getElem_modify,List.getElem_map,List.getElem_set]
 by_cases hj:i=j
 ·subst hj
  rw [if_pos rfl,if_pos rfl,← hx,zm_ h]
 ·rw [if_neg hj,if_neg hj]
theorem aeu_ {α:Type} [Inhabited α] {enc:α→List T} {sc:Bool} {w off m:Nat} {l:List α} {n:Int} {vs:List T} {x:α} (h:0≤n) (h':n < l.length) (hw:∀ y,(enc y).length=w) (ho:off+m≤w) (hv:vs.length=m) (hs:(!sc || vs.all scal)=true)
  (hx:(enc (gt l n)).take off++vs++(enc (gt l n)).drop (off+vs.length)=enc x):Prim.ev (.put sc w off m) (.l (l.map enc) :: ii n :: vs)=some (.l ((l.set n.toNat x).map enc)):=by
 have hn:n.toNat < l.length:=by omega
 have e:n=((n.toNat:Nat):Int):=by omega
 have hg:=zp_ (enc:=enc) h h'
 rw [e]
 rw [aHi_ hg (hw _) ho hv hs,Int.toNat_natCast,aBb_ hn (by rw [← e];exact hx)]
theorem uf_ {l:List Int} {n x:Int} (h:0≤n) (h':n < l.length):Prim.ev (.put true 1 0 1) [.l (l.map eInt),ii n,ii x]=some (.l ((l.set n.toNat x).map eInt)) :=
 aeu_ (enc:=eInt) (x:=x) h h' (fun _=>rfl) (by decide) rfl rfl rfl
theorem al6_ {l:List Bool} {n:Int} {x:Bool} (h:0≤n) (h':n < l.length):Prim.ev (.put true 1 0 1) [.l (l.map z3_),ii n,bb x]=some (.l ((l.set n.toNat x).map z3_)) :=
 aeu_ (enc:=z3_) (x:=x) h h' (fun _=>rfl) (by decide) rfl rfl rfl
theorem aHo_ {l:List Way} {n x:Int} (h:0≤n) (h':n < l.length):Prim.ev (.put true 3 0 1) [.l (l.map eWay),ii n,ii x]=some (.l ((l.set n.toNat ⟨x,(gt l n).cost,(gt l n).hops⟩).map eWay)) :=
 aeu_ (enc:=eWay) (x:=⟨x,(gt l n).cost,(gt l n).hops⟩) h h' (fun _=>rfl) (by decide) rfl rfl rfl
theorem abf_ {l:List Way} {n a b:Int} {c:List Int} (h:0≤n) (h':n < l.length):Prim.ev (.put false 3 0 3) [.l (l.map eWay),ii n,ii a,ii b,.l (c.map eInt)]=some (.l ((l.set n.toNat ⟨a,b,c⟩).map eWay)) :=
 aeu_ (enc:=eWay) (x:=⟨a,b,c⟩) h h' (fun _=>rfl) (by decide) rfl rfl rfl
theorem aKa_ {α:Type} [Inhabited α] {enc:α→List T} {ms:List Bool} {w off:Nat} {l:List α} {n:Int} {vs:List T} {x:α} (h:0≤n) (h':n < l.length) (hw:∀ y,(enc y).length=w) (ho:off+vs.length≤w) (hs:wL_ ms vs=true)
  (hx:(enc (gt l n)).take off++vs++(enc (gt l n)).drop (off+vs.length)=enc x):Prim.ev (.putD ms w off) (.l (l.map enc) :: ii n :: vs)=some (.l ((l.set n.toNat x).map enc)):=by
 have hn:n.toNat < l.length:=by omega
 have hr:v8_ (.l (l.map enc)) (ii n)=some (enc (gt l n)):=ajv_ h (zp_ (enc:=enc) h h')
 simp only [Prim.ev,hr,Option.bind_some,hw,if_true,if_pos ho,hs,T.rows,T.int]
 rw [aBb_ hn (by rw [show ((n.toNat:Nat):Int)=n by omega];exact hx)]
theorem uK_ {l:List Way} {n a b:Int} {c:List Int} (h:0≤n) (h':n < l.length):Prim.ev (.putD [true,true,false] 3 0) [.l (l.map eWay),ii n,ii a,ii b,.l (c.map eInt)]=some (.l ((l.set n.toNat ⟨a,b,c⟩).map eWay)) :=
 aKa_ (enc:=eWay) (x:=⟨a,b,c⟩) h h' (fun _=>rfl) (by simp) rfl rfl
def gneL {α:Type} (enc:α→List T) (l:List α) (i:Nat):List (List T):=List.replicate i []++(l.drop i).map enc
theorem aOq_ {α:Type} {enc:α→List T} {l:List α} {i:Nat} (he:∀ x,(enc x).isEmpty=false) (h:i < l.length):Prim.ev .tk1 [.l (gneL enc l i),ii (i:Int)]=some (.l (gneL enc l (i+1))):=by
 have hd:l.drop i=l[i] :: l.drop (i+1):=List.drop_eq_getElem_cons h
 have hl:(gneL enc l i).length=l.length:=by simp [gneL];omega
 have hr:(gneL enc l i).drop i=enc l[i] :: (l.drop (i+1)).map enc:=by rw [gneL,hd,List.drop_left' (by simp)];rfl
 have ht:(gneL enc l i).take i=List.replicate i []:=by simp [gneL]
 have hr2:(gneL enc l i).drop (i+1)=(l.drop (i+1)).map enc:=by rw [← List.drop_drop,hr];rfl
 have hf:aar_ (gneL enc l i) i 1=true:=by simp [aar_,hr,he]
 have hg:jk_ (gneL enc l i) i 1=gneL enc l (i+1):=by rw [jk_,ht,hr2,gneL,← List.replicate_append_replicate]
 simp only [Prim.ev,Int.toNat_natCast,hl,hf,hg,if_true]
 rw [if_pos (by omega),if_pos (by omega)]
theorem aGl_ {α:Type} {enc:α→List T} {l:List α} {i m:Nat} {ys:List (List T)} (he:∀ x,(enc x).isEmpty=false) (hm:ys.length=m) (h:i+m≤l.length):Prim.ev .tkn [.l (gneL enc l i),ii (i:Int),.l ys]=some (.l (gneL enc l (i+m))):=by
 have hl:(gneL enc l i).length=l.length:=by simp [gneL];omega
 have hr:(gneL enc l i).drop i=(l.drop i).map enc:=by simp [gneL]
 have ht:(gneL enc l i).take i=List.replicate i []:=by simp [gneL]
 have hr2:(gneL enc l i).drop (i+m)=(l.drop (i+m)).map enc:=by rw [← List.drop_drop,hr,← List.map_drop,List.drop_drop]
 have hf:aar_ (gneL enc l i) i m=true:=by
  simp only [aar_,hr,List.all_eq_true]
  intro r hr
  obtain ⟨x,_,rfl⟩:=List.mem_map.1 (List.mem_of_mem_take hr)
  simp [he]
 have hg:jk_ (gneL enc l i) i m=gneL enc l (i+m):=by rw [jk_,ht,hr2,gneL,← List.replicate_append_replicate]
 simp only [Prim.ev,Int.toNat_natCast,hl,hm,hf,hg,if_true]
 rw [if_pos (by omega),if_pos (by omega)]
theorem apl_ {α:Type} {enc:α→List T} {l:List α} {k:Nat} (he:∀ x,(enc x).isEmpty=false) (h:k≤l.length):Prim.ev .tkn [.l (l.map enc),ii 0,.l ((l.take k).map enc)]=some (.l (gneL enc l k)):=by
 have:=aGl_ (enc:=enc) (l:=l) (i:=0) (m:=k) (ys:=(l.take k).map enc) he (by simp;omega) (by omega)
 rw [Nat.zero_add] at this
 exact this
theorem ap8_ {α:Type} {enc:α→List T} {l:List α} {k:Nat} (he:∀ x,(enc x).isEmpty=false) (h:k≤l.length):Prim.ev .tkn [.l (gneL enc l k),ii (k:Int),.l ((l.drop k).map enc)]=some (.l (gneL enc l l.length)):=by
 have:=aGl_ (enc:=enc) (l:=l) (i:=k) (m:=l.length - k) (ys:=(l.drop k).map enc) he (by simp) (by omega)
 rw [show k+(l.length - k)=l.length by omega] at this
 exact this
def qf_ (l:List Int):List T:=[.l (l.map eInt)]
theorem vV_ {l:List (List Int)} {n:Int} (h:0≤n) (h':n < l.length):Prim.ev (.cell 1 0) [.l (l.map qf_),ii n]=some (.l ((gt l n).map eInt)):=zQ_ h (zp_ h h') rfl rfl
theorem qt_ {l:List (List Int)} {n:Int} {c:List Int} (h:0≤n) (h':n < l.length):Prim.ev (.put false 1 0 1) [.l (l.map qf_),ii n,.l (c.map eInt)]=some (.l ((l.set n.toNat c).map qf_)) :=
 aeu_ (enc:=qf_) (x:=c) h h' (fun _=>rfl) (by decide) rfl rfl rfl
theorem acx_ {α:Type} {enc:α→List T} {n:Nat} {x:α} {vs:List T} (h:n < 4294967296) (hx:vs=enc x):Prim.ev .mk (ii (n:Int) :: ii (n:Int) :: vs)=some (.l ((List.replicate n x).map enc)):=by
 rw [aPu_ (by unfold v9_;exact h),hx,List.map_replicate]
theorem avr_ {α:Type} [Inhabited α] {l:List α} {i j:Int} {x:α} (h:0≤i) (h':i < l.length) (hj:0≤j):gt (l.set i.toNat x) j=if i=j then x else gt l j:=by
 unfold gt
 simp only [List.getD_eq_getElem?_getD,List.getElem?_set]
 by_cases e:i=j
 ·subst e
  simp [show i.toNat < l.length by omega]
 ·have:¬ (i.toNat=j.toNat):=by omega
  simp [e,this]
theorem acu_ {α:Type} [Inhabited α] {n:Nat} {x:α} {j:Int} (h:0≤j) (h':j < n):gt (List.replicate n x) j=x:=by
 unfold gt
 simp only [List.getD_eq_getElem?_getD]
 rw [List.getElem?_replicate,if_pos (by omega)]
 rfl
def zT_ (s:List Rcd) (ar v:Int):Int:=zn_ (fun x=>zb_ x ⟨ar,1,v,0,0,[],0,false⟩) s
def xW_ (s:List Rcd) (ar v:Int):List Near:=if zT_ s ar v < 0 then [] else (gt s (zT_ s ar v)).near
def vO_ (l:List Near) (b:Int):Int:=if zn_ (fun (x:Near)=>x.to == b) l < 0 then 0 else (gt l (zn_ (fun (x:Near)=>x.to == b) l)).cost
def wJ_ (s:List Rcd) (ar a b:Int):Int:=vO_ (xW_ s ar a) b
def zk_ (s:List Rcd) (ar a b:Int):Int:=if wJ_ s ar b a=0 then 0 else wJ_ s ar a b
theorem uG_ (s:List Rcd) (ar v:Int):zT_ s ar v < s.length:=y9_ _ _
theorem and_ {s:List Rcd} (hn:NearL s) (ar v:Int):(xW_ s ar v).length≤1048576:=by
 unfold xW_
 split
 ·simp
 ·exact hn.gt (by omega) (uG_ s ar v)
theorem aKb_ (s:List Rcd) (ar a b:Int) (h:s.length≤1048576) (hn:NearL s):kG_ [.l (s.map eRcd),ii ar,ii a,ii b]=some [ii (wJ_ s ar a b)]:=by
 have h2:=uG_ s ar a
 rw [aJt_];simp (disch:=omega) only [↓pq,↓pj,ps,pz,↓reduceIte,Q0_,Q1_,Q2_,Q3_,Q4_,Q5_,Q6_,Q7_,Q8_,q6_,al9_,qu_]
 rw [← zT_]
 unfold wJ_ xW_
 by_cases hk:zT_ s ar a < 0
 ·simp only [hk,if_true];rfl
 ·have h3:0≤zT_ s ar a:=by omega
  have hl:=hn.gt h3 h2
  simp only [hk,if_false]
  simp (disch:=omega) only [↓pq,↓pj,ps,pz,↓reduceIte,Q0_,Q1_,Q2_,Q3_,Q4_,Q5_,Q6_,Q7_,Q8_,q6_,]
  refine (vx_ (gt s (zT_ s ar a)).near (fun i=>[ii 0,ii i]) (fun x=>x.to == b) (fun i=>some [ii (gt (gt s (zT_ s ar a)).near i).cost]) (outN:=some [ii 0]) rfl (za_ hl) ?_ ?_).trans ?_
  ·intro i hi q
   simp (disch:=omega) only [↓pq,↓pj,ps,pz,↓reduceIte,Q0_,Q1_,Q2_,Q3_,Q4_,Q5_,Q6_,Q7_,Q8_,q6_,hi]
  ·intro q
   simp (disch:=omega) only [↓pq,↓pj,ps,pz,↓reduceIte,Q0_,Q1_,Q2_,Q3_,Q4_,Q5_,Q6_,Q7_,Q8_,q6_,]
  ·unfold vO_
   split <;> rfl
theorem wT_ (s:List Rcd) (ar a b:Int) (h:s.length≤1048576) (hn:NearL s):qB_ [.l (s.map eRcd),ii ar,ii a,ii b]=some [ii (zk_ s ar a b)]:=by
 rw [aFd_];simp (disch:=omega) only [↓pq,↓pj,ps,pz,↓reduceIte,Q0_,Q1_,Q2_,Q3_,Q4_,Q5_,Q6_,Q7_,Q8_,ahb_,aKb_ _ _ _ _ h hn]
 unfold zk_
 split <;> rfl
theorem aAb_ (s:List Rcd) (ar a:Int) (h:s.length≤1048576):xG_ [.l (s.map eRcd),ii ar,ii a]=if zT_ s ar a < 0 then some [ii 0,ii 0,ii 0,ii 0,ii 0,.l [],ii 0,bb false,bb false] else some (eRcd (gt s (zT_ s ar a))++[bb true]):=by
 have h2:=uG_ s ar a
 rw [az3_];simp (disch:=omega) only [↓pq,↓pj,ps,pz,↓reduceIte,Q0_,Q1_,Q2_,Q3_,Q4_,Q5_,Q6_,Q7_,Q8_,ad2_,k2_]
 rw [← zT_]
 by_cases hk:zT_ s ar a < 0
 ·simp only [hk,if_true]
 ·have h3:0≤zT_ s ar a:=by omega
  simp only [hk,if_false]
  simp (disch:=omega) only [↓pq,↓pj,ps,pz,↓reduceIte,Q0_,Q1_,Q2_,Q3_,Q4_,Q5_,Q6_,Q7_,Q8_,]
  rfl
theorem acp_ (s:List Rcd) (ar a:Int) (h:s.length≤1048576):∃ c0 c1 c2 c3 c4 c6 c7:T,xG_ [.l (s.map eRcd),ii ar,ii a]=some [c0,c1,c2,c3,c4,.l ((xW_ s ar a).map zu_),c6,c7,bb (decide (0≤zT_ s ar a))]:=by
 rw [aAb_ _ _ _ h]
 unfold xW_
 by_cases hk:zT_ s ar a < 0
 ·rw [if_pos hk,if_pos hk,show decide (0≤zT_ s ar a)=false by simp;omega];exact ⟨_,_,_,_,_,_,_,rfl⟩
 ·rw [if_neg hk,if_neg hk,show decide (0≤zT_ s ar a)=true by simp;omega];exact ⟨_,_,_,_,_,_,_,rfl⟩
theorem avp_ (s:List Rcd) (ar a b:Int) (h:s.length≤1048576) (hn:NearL s):ul_ [.l (s.map eRcd),ii ar,ii a,ii b]=some [ii (wJ_ s ar a b)]:=by
 obtain ⟨c0,c1,c2,c3,c4,c6,c7,e⟩:=acp_ s ar a h
 have hl:=and_ hn ar a
 rw [ats_];simp (disch:=omega) only [↓pq,↓pj,ps,pz,↓reduceIte,Q0_,Q1_,Q2_,Q3_,Q4_,Q5_,Q6_,Q7_,Q8_,qc_,ab4_,e]
 refine (vx_ (xW_ s ar a) (fun i=>[ii 0,ii i]) (fun x=>x.to == b) (fun i=>some [ii (gt (xW_ s ar a) i).cost]) (outN:=some [ii 0]) rfl (za_ hl) ?_ ?_).trans ?_
 ·intro i hi q
  simp (disch:=omega) only [↓pq,↓pj,ps,pz,↓reduceIte,Q0_,Q1_,Q2_,Q3_,Q4_,Q5_,Q6_,Q7_,Q8_,qc_,hi]
 ·intro q
  simp (disch:=omega) only [↓pq,↓pj,ps,pz,↓reduceIte,Q0_,Q1_,Q2_,Q3_,Q4_,Q5_,Q6_,Q7_,Q8_,qc_,]
 ·unfold wJ_ vO_
  split <;> rfl
theorem xI_ {s:List Rcd} (h:ze_ s=true) {r:Rcd} (hr:r∈s):zE_ r=true:=by
 simp only [ze_,bA_] at h
 obtain ⟨i,hi,rfl⟩:=List.mem_iff_getElem.1 hr
 have:=allB_iff.1 h.2 i hi
 simp only [bA_] at this
 rw [← zm_ hi]
 exact this.1
theorem j0_ {o:Int} {l:List Near} (h:w5_ o l=true) {x:Near} (hx:x∈l):(1≤x.to∧x.to≤6)∧x.to≠o∧(1≤x.cost∧x.cost≤1000):=by
 obtain ⟨i,hi,rfl⟩:=List.mem_iff_getElem.1 hx
 have:=allB_iff.1 h i hi
 simp only [bA_,inB_iff,Bool.not_eq_true',decide_eq_false_iff_not] at this
 rw [← zm_ hi]
 exact ⟨this.1.1.1,this.1.1.2,this.1.2⟩
theorem apf_ {o:Int} {l:List Near} (h:w5_ o l=true):l.Pairwise fun a b=>a.to < b.to:=by
 have h:=allB_iff.1 h
 rw [List.pairwise_iff_getElem]
 have step:∀ i,(hi:i+1 < l.length)→l[i].to < l[i+1].to:=by
  intro i hi
  have:=h (i+1) hi
  simp only [bA_,Bool.or_eq_true,Bool.not_eq_true',decide_eq_false_iff_not,decide_eq_true_eq] at this
  have h2:=this.2.resolve_left (by omega)
  rwa [show (((i+1:Nat):Int) - 1)=(i:Int) by omega,zm_ (by omega),zm_ hi] at h2
 intro i j hi hj hij
 obtain ⟨d,rfl⟩:∃ d,j=i+1+d:=⟨j - i - 1,by omega⟩
 clear hij
 induction d with
 | zero=>exact step i (by omega)
 | succ d ih=>exact Int.lt_trans (ih (by omega)) (step (i+1+d) (by omega))
theorem ads_ {s:List Rcd} (h:ze_ s=true) (ar v:Int):w5_ v (xW_ s ar v)=true:=by
 unfold xW_
 by_cases hk:zT_ s ar v < 0
 ·rw [if_pos hk];simp [w5_,allB]
 ·rw [if_neg hk]
  have hm:=zS_ (l:=s) (n:=zT_ s ar v) (by omega) (uG_ s ar v)
  have hr:=xI_ h hm
  have hs:=yE_ (fun x=>zb_ x ⟨ar,1,v,0,0,[],0,false⟩) s (by unfold zT_ at hk;omega)
  rw [← zT_] at hs
  rw [sameKey_iff] at hs
  obtain ⟨_,h2,h3,_⟩:=hs
  simp only at h2 h3
  unfold zE_ at hr
  rw [h2] at hr
  simp only [if_true,bA_] at hr
  have hq:=hr.2.1.1.2
  rw [h3] at hq
  exact hq
theorem ald_ {l:List Near} {b:Int} (h:∀ x∈l,x.to≠b):vO_ l b=0:=by
 unfold vO_
 rw [if_pos]
 rw [wX_]
 intro x hx
 simp [h x hx]
theorem ay9_ {l:List Near} {b:Int} (h:vO_ l b≠0):∃ x∈l,x.to=b∧x.cost=vO_ l b:=by
 unfold vO_ at h ⊢
 split at h
 ·exact absurd rfl h
 ·rename_i hf
  rw [if_neg hf]
  have hs:=yE_ (fun (y:Near)=>y.to == b) l (by omega)
  simp only [beq_iff_eq] at hs
  exact ⟨_,zS_ (by omega) (y9_ _ _),hs,rfl⟩
theorem arw_ {s:List Rcd} (h:ze_ s=true) (ar a b:Int):0≤wJ_ s ar a b∧wJ_ s ar a b≤1000:=by
 unfold wJ_
 by_cases h0:vO_ (xW_ s ar a) b=0
 ·rw [h0];omega
 ·obtain ⟨x,hx,_,h2⟩:=ay9_ h0
  have:=j0_ (ads_ h ar a) hx
  omega
theorem ux_ {s:List Rcd} (h:ze_ s=true) (ar a b:Int):0≤zk_ s ar a b∧zk_ s ar a b≤1000:=by
 unfold zk_
 split
 ·omega
 ·exact arw_ h ar a b
def q0_ (s:List Rcd) (ar a:Int) (M:List Int) (x:Near):List Int:=if inB x.to 1 6=true∧wJ_ s ar x.to a > 0 then M.set (a * 7+x.to).toNat x.cost else M
def rowM (s:List Rcd) (ar:Int) (M:List Int) (i:Nat):List Int:=(xW_ s ar (i+1)).foldl (q0_ s ar (i+1)) M
def anb_ (s:List Rcd) (ar:Int):List Int:=(List.range 6).foldl (rowM s ar) (List.replicate 49 0)
theorem aeh_ (s:List Rcd) (ar a:Int) (M:List Int) (x:Near):(q0_ s ar a M x).length=M.length:=by
 unfold q0_;split <;> simp
theorem ai5_ {α β:Type} {g:List α→β→List α} (h:∀ M x,(g M x).length=M.length) (l:List β) (M:List α):(l.foldl g M).length=M.length:=by
 induction l generalizing M with
 | nil=>rfl
 | cons x l ih=>rw [List.foldl_cons,ih,h]
theorem ams_ (s:List Rcd) (ar:Int) (M:List Int) (i:Nat):(rowM s ar M i).length=M.length:=ai5_ (aeh_ s ar _) _ _
theorem aH7_ (s:List Rcd) (ar:Int):(anb_ s ar).length=49:=by
 unfold anb_
 rw [ai5_ (fun M i=>ams_ s ar M i)]
 simp
theorem aOm_ {s:List Rcd} (hs:ze_ s=true) (ar:Int) {a:Int} (ha:1≤a∧a≤6) {u v:Int} (hu:1≤u∧u≤6) (hv:1≤v∧v≤6) {o:Int}:∀ (l:List Near) (M:List Int),w5_ o l=true∨(l.Pairwise (fun a b=>a.to < b.to)∧∀ x∈l,1≤x.to∧x.to≤6)→M.length=49 →
  gt (l.foldl (q0_ s ar a) M) (u * 7+v)=if u=a∧wJ_ s ar v a > 0∧∃ x∈l,x.to=v then vO_ l v else gt M (u * 7+v):=by
 intro l M hl hM
 replace hl:l.Pairwise (fun a b=>a.to < b.to)∧∀ x∈l,1≤x.to∧x.to≤6:=by
  rcases hl with hl | hl
  ·exact ⟨apf_ hl,fun x hx=>(j0_ hl hx).1⟩
  ·exact hl
 induction l generalizing M with
 | nil=>simp
 | cons y l ih =>
  have hp:=List.pairwise_cons.1 hl.1
  have hy:=hl.2 y (.head _)
  have hlen:=aeh_ s ar a M y
  rw [List.foldl_cons,ih (q0_ s ar a M y) (by rw [hlen];exact hM) ⟨hp.2,fun x hx=>hl.2 x (.tail _ hx)⟩]
  have hset:gt (q0_ s ar a M y) (u * 7+v)=if u=a∧v=y.to∧wJ_ s ar y.to a > 0 then y.cost else gt M (u * 7+v):=by
   unfold q0_
   by_cases hc:inB y.to 1 6=true∧wJ_ s ar y.to a > 0
   ·rw [if_pos hc,avr_ (by omega) (by omega) (by omega)]
    refine akp_ ⟨fun h=>⟨by omega,by omega,hc.2⟩,fun h=>by omega⟩ _ _
   ·rw [if_neg hc,if_neg (fun h=>hc ⟨inB_iff.2 hy,h.2.2⟩)]
  rw [hset]
  by_cases hin:∃ x∈l,x.to=v
  ·obtain ⟨x,hx,e⟩:=hin
   have hne:¬ (v=y.to):=by have:=hp.1 x hx;omega
   have hcost:vO_ (y :: l) v=vO_ l v:=by
    unfold vO_ zn_
    rw [List.findIdx?_cons]
    have:(y.to == v)=false:=by simp;omega
    rw [this]
    simp only [bF_,if_false]
    cases hf:l.findIdx? (fun (z:Near)=>z.to == v) with
    | none=>rfl
    | some k =>
     show (if ((k+1:Nat):Int) < 0 then 0 else (gt (y :: l) ((k+1:Nat):Int)).cost)=if (k:Int) < 0 then 0 else (gt l (k:Int)).cost
     rw [if_neg (by omega),if_neg (by omega)]
     rfl
   by_cases hu2:u=a∧wJ_ s ar v a > 0
   ·rw [if_pos ⟨hu2.1,hu2.2,x,hx,e⟩,if_pos ⟨hu2.1,hu2.2,x,.tail _ hx,e⟩,hcost]
   ·rw [if_neg (fun h=>hu2 ⟨h.1,h.2.1⟩),if_neg (fun h=>hne h.2.1),if_neg (fun h=>hu2 ⟨h.1,h.2.1⟩)]
  ·rw [if_neg (fun h=>hin h.2.2)]
   by_cases hc:u=a∧v=y.to∧wJ_ s ar y.to a > 0
   ·rw [if_pos hc,if_pos ⟨hc.1,by rw [hc.2.1];exact hc.2.2,y,.head _,hc.2.1.symm⟩]
    unfold vO_ zn_
    rw [List.findIdx?_cons]
    have:(y.to == v)=true:=by simp;omega
    rw [this]
    rfl
   ·rw [if_neg hc,if_neg]
    rintro ⟨h1,h2,x,hx,e⟩
    rcases List.mem_cons.1 hx with rfl | hx
    ·exact hc ⟨h1,e.symm,by rw [e];exact h2⟩
    ·exact hin ⟨x,hx,e⟩
theorem aL9_ {s:List Rcd} (hs:ze_ s=true) (ar:Int) {i:Nat} (hi:i < 6) {M:List Int} (hM:M.length=49) {u v:Int} (hu:1≤u∧u≤6) (hv:1≤v∧v≤6) (h0:u=(i:Int)+1→gt M (u * 7+v)=0) :
  gt (rowM s ar M i) (u * 7+v)=if u=(i:Int)+1 then zk_ s ar u v else gt M (u * 7+v):=by
 unfold rowM
 rw [aOm_ (o:=(i:Int)+1) hs ar (by omega) hu hv _ _ (.inl (ads_ hs ar ((i:Int)+1))) hM]
 by_cases hc:u=(i:Int)+1
 ·rw [if_pos hc,h0 hc]
  unfold zk_
  have hb:=arw_ hs ar v u
  by_cases h1:wJ_ s ar v u=0
  ·rw [if_pos h1,if_neg]
   rintro ⟨_,h2,_⟩
   rw [← hc] at h2;omega
  ·rw [if_neg h1]
   by_cases h2:∃ x∈xW_ s ar ((i:Int)+1),x.to=v
   ·rw [if_pos ⟨hc,by rw [← hc];omega,h2⟩,← hc];rfl
   ·rw [if_neg (fun h=>h2 h.2.2)]
    unfold wJ_
    rw [ald_]
    intro x hx e
    exact h2 ⟨x,hc ▸ hx,e⟩
 ·rw [if_neg (fun h=>hc h.1),if_neg hc]
theorem aJw_ {s:List Rcd} (hs:ze_ s=true) (ar:Int) {u v:Int} (hu:1≤u∧u≤6) (hv:1≤v∧v≤6):gt (anb_ s ar) (u * 7+v)=zk_ s ar u v:=by
 have key:=aai_ (l:=List.range 6) (g:=rowM s ar) (c:=List.replicate 49 0) (Inv:=fun i M=>M.length=49∧∀ u v:Int,(1≤u∧u≤6)→(1≤v∧v≤6)→gt M (u * 7+v)=if u < (i:Int)+1 then zk_ s ar u v else 0)
  ⟨by simp,fun u v hu hv=>by rw [acu_ (by omega) (by omega),if_neg (by omega)]⟩ (fun i M hi ⟨h1,h2⟩=>by
   have hl:(List.range 6).length=6:=List.length_range
   rw [hl] at hi
   rw [zm_ (by rw [hl];omega),List.getElem_range]
   refine ⟨by rw [ams_];exact h1,fun u v hu hv=>?_⟩
   rw [aL9_ hs ar (by omega) h1 hu hv (fun e=>by rw [h2 u v hu hv,if_neg (by omega)]),h2 u v hu hv]
   by_cases hc:u=(i:Int)+1
   ·rw [if_pos hc,if_pos (by omega)]
   ·rw [if_neg hc]
    exact akp_ ⟨fun h=>by omega,fun h=>by omega⟩ _ _)
 have:=key.2 u v hu hv
 rw [List.length_range,if_pos (by omega)] at this
 exact this
theorem aww_ (s:List Rcd) (ar:Int) (h:s.length≤1048576) (hn:NearL s) (hs:ze_ s=true):uo_ [.l (s.map eRcd),ii ar]=some [.l ((anb_ s ar).map eInt)]:=by
 have e0:=acx_ (enc:=eInt) (n:=49) (x:=0) (vs:=[ii 0]) (by decide) rfl
 rw [avn_];simp only [aci_,pv_s]
 rw [show Prim.ev .mk [ii 49,ii 49,ii 0]=some (.l ((List.replicate 49 (0:Int)).map eInt)) from e0,zd_]
 refine yV_ 6 (fun i M=>[ii (i+1),.l (M.map eInt)]) (rowM s ar) (fun M=>some [T.l (M.map eInt)]) (List.replicate 49 0) (fun _ M=>M.length=49) rfl (za_ (by omega)) (by simp) ?_ ?_
 ·intro i M hi hM
  refine ⟨by rw [ams_];exact hM,fun q=>?_⟩
  have hi':(i:Int)+1≤6:=by omega
  obtain ⟨c0,c1,c2,c3,c4,c6,c7,e⟩:=acp_ s ar ((i:Int)+1) h
  have hl:=and_ hn ar ((i:Int)+1)
  simp (disch:=omega) only [↓pq,↓pj,ps,pz,↓reduceIte,Q0_,Q1_,Q2_,Q3_,Q4_,Q5_,Q6_,Q7_,Q8_,v4_,vW_,hi',e]
  refine zj_ (xW_ s ar ((i:Int)+1)) (fun j M=>[ii j,.l (M.map eInt)]) (q0_ s ar ((i:Int)+1)) (fun M=>q [ii ((i+1:Nat)+1),.l (M.map eInt)]) M (fun _ M=>M.length=49) rfl (za_ hl) hM ?_ ?_
  ·intro j M hj hM
   refine ⟨by rw [aeh_];exact hM,fun q=>?_⟩
   have ht:=j0_ (ads_ hs ar ((i:Int)+1)) (zS_ (n:=j) (by omega) hj)
   unfold q0_
   have hb:inB (gt (xW_ s ar ((i:Int)+1)) j).to 1 6=true:=inB_iff.2 ht.1
   simp (disch:=omega) only [↓pq,↓pj,ps,pz,↓reduceIte,Q0_,Q1_,Q2_,Q3_,Q4_,Q5_,Q6_,Q7_,Q8_,v4_,vW_,hj,uB_,hb,avp_ _ _ _ _ h hn,uf_]
   simp only [true_and]
   by_cases hc:wJ_ s ar (gt (xW_ s ar ((i:Int)+1)) j).to ((i:Int)+1) > 0
   ·simp only [hc,if_true]
   ·simp only [hc,if_false]
  ·intro M q' hM
   simp (disch:=omega) only [↓pq,↓pj,ps,pz,↓reduceIte,Q0_,Q1_,Q2_,Q3_,Q4_,Q5_,Q6_,Q7_,Q8_,v4_,vW_,]
 ·intro M q hM
  simp (disch:=omega) only [↓pq,↓pj,ps,pz,↓reduceIte,Q0_,Q1_,Q2_,Q3_,Q4_,Q5_,Q6_,Q7_,Q8_,v4_,vW_,]
end Go.Proofs.YtjimmglpkndemaaGreatC

/- What nodes tell each other, and who is linked. Conditions: none. -/
import Derived.Test.YtbhplkilhknciaaDoorXSF
namespace Go.Proofs.YtbhplkilhknciaaDoorC
open Int (reduceLE reduceLT reduceEq reduceGT reduceGE reduceAdd reduceSub reduceMul reduceNeg)
set_option linter.unusedVariables false
set_option linter.unusedSimpArgs false
theorem put_enc {α:Type} [Inhabited α] {enc:α→List T} {l:List α} {i off:Nat} {vs:List T} {x:α} (h:i < l.length) (hx:(enc (gt l i)).take off++vs++(enc (gt l i)).drop (off+vs.length)=enc x):setRow (l.map enc) i off vs=(l.set i x).map enc:=by
 unfold setRow
 refine List.ext_getElem (by simp) fun j h1 h2=>?_
 simp only [List.getElem_modify,List.getElem_map,List.getElem_set]
 by_cases hj:i=j
 ·subst hj
  rw [if_pos rfl,if_pos rfl,← hx,gt_elem h]
 ·rw [if_neg hj,if_neg hj]
theorem put_run {α:Type} [Inhabited α] {enc:α→List T} {sc:Bool} {w off m:Nat} {l:List α} {n:Int} {vs:List T} {x:α} (h:0≤n) (h':n < l.length) (hw:∀ y,(enc y).length=w) (ho:off+m≤w) (hv:vs.length=m) (hs:(!sc || vs.all scal)=true)
  (hx:(enc (gt l n)).take off++vs++(enc (gt l n)).drop (off+vs.length)=enc x):Prim.ev (.put sc w off m) (.l (l.map enc) :: ii n :: vs)=some (.l ((l.set n.toNat x).map enc)):=by
 have hn:n.toNat < l.length:=by omega
 have e:n=((n.toNat:Nat):Int):=by omega
 have hg:=gt_get (enc:=enc) h h'
 rw [e]
 rw [ev_put hg (hw _) ho hv hs,Int.toNat_natCast,put_enc hn (by rw [← e];exact hx)]
theorem put_Int {l:List Int} {n x:Int} (h:0≤n) (h':n < l.length):Prim.ev (.put true 1 0 1) [.l (l.map eInt),ii n,ii x]=some (.l ((l.set n.toNat x).map eInt)) :=
 put_run (enc:=eInt) (x:=x) h h' (fun _=>rfl) (by decide) rfl rfl rfl
theorem put_Bool {l:List Bool} {n:Int} {x:Bool} (h:0≤n) (h':n < l.length):Prim.ev (.put true 1 0 1) [.l (l.map eBool),ii n,bb x]=some (.l ((l.set n.toNat x).map eBool)) :=
 put_run (enc:=eBool) (x:=x) h h' (fun _=>rfl) (by decide) rfl rfl rfl
def eInts (l:List Int):List T:=[.l (l.map eInt)]
theorem cell_Ints {l:List (List Int)} {n:Int} (h:0≤n) (h':n < l.length):Prim.ev (.cell 1 0) [.l (l.map eInts),ii n]=some (.l ((gt l n).map eInt)):=ev_cellZ h (gt_get h h') rfl rfl
theorem put_Ints {l:List (List Int)} {n:Int} {c:List Int} (h:0≤n) (h':n < l.length):Prim.ev (.put false 1 0 1) [.l (l.map eInts),ii n,.l (c.map eInt)]=some (.l ((l.set n.toNat c).map eInts)) :=
 put_run (enc:=eInts) (x:=c) h h' (fun _=>rfl) (by decide) rfl rfl rfl
theorem mk_run {α:Type} {enc:α→List T} {n:Nat} {x:α} {vs:List T} (h:n < 4294967296) (hx:vs=enc x):Prim.ev .mk (ii (n:Int) :: ii (n:Int) :: vs)=some (.l ((List.replicate n x).map enc)):=by
 rw [ev_mk (by unfold cap32;exact h),hx,List.map_replicate]
theorem gt_set {α:Type} [Inhabited α] {l:List α} {i j:Int} {x:α} (h:0≤i) (h':i < l.length) (hj:0≤j):gt (l.set i.toNat x) j=if i=j then x else gt l j:=by
 unfold gt
 simp only [List.getD_eq_getElem?_getD,List.getElem?_set]
 by_cases e:i=j
 ·subst e
  simp [show i.toNat < l.length by omega]
 ·have:¬ (i.toNat=j.toNat):=by omega
  simp [e,this]
theorem gt_replicate {α:Type} [Inhabited α] {n:Nat} {x:α} {j:Int} (h:0≤j) (h':j < n):gt (List.replicate n x) j=x:=by
 unfold gt
 simp only [List.getD_eq_getElem?_getD]
 rw [List.getElem?_replicate,if_pos (by omega)]
 rfl
def nodeP (s:List Rcd) (ar v:Int):Int:=findP (fun x=>sameKey x ⟨ar,1,v,0,0,[],0,false⟩) s
def nearOf (s:List Rcd) (ar v:Int):List Near:=if nodeP s ar v < 0 then [] else (gt s (nodeP s ar v)).near
def costIn (l:List Near) (b:Int):Int:=if findP (fun (x:Near)=>x.to == b) l < 0 then 0 else (gt l (findP (fun (x:Near)=>x.to == b) l)).cost
def toldC (s:List Rcd) (ar a b:Int):Int:=costIn (nearOf s ar a) b
def linkC (s:List Rcd) (ar a b:Int):Int:=if toldC s ar b a=0 then 0 else toldC s ar a b
theorem nodeP_lt (s:List Rcd) (ar v:Int):nodeP s ar v < s.length:=findP_lt _ _
theorem nearOf_len {s:List Rcd} (hn:NearL s) (ar v:Int):(nearOf s ar v).length≤1048576:=by
 unfold nearOf
 split
 ·simp
 ·exact hn.gt (by omega) (nodeP_lt s ar v)
theorem e_s_l06Node (s:List Rcd) (ar a:Int) (h:s.length≤1048576):F_s_l06Node [.l (s.map eRcd),ii ar,ii a]=if nodeP s ar a < 0 then some [ii 0,ii 0,ii 0,ii 0,ii 0,.l [],ii 0,bb false,bb false] else some (eRcd (gt s (nodeP s ar a))++[bb true]):=by
 have h2:=nodeP_lt s ar a
 rw [g_s_l06Node];simp (disch:=omega) only [↓pq,↓pj,ps,pz,↓reduceIte,reduceLE,reduceLT,reduceEq,reduceGT,reduceGE,reduceAdd,reduceSub,reduceMul,reduceNeg,G_s_l06Node,e_s_l05At]
 rw [← nodeP]
 by_cases hk:nodeP s ar a < 0
 ·simp only [hk,if_true]
 ·have h3:0≤nodeP s ar a:=by omega
  simp only [hk,if_false]
  simp (disch:=omega) only [↓pq,↓pj,ps,pz,↓reduceIte,reduceLE,reduceLT,reduceEq,reduceGT,reduceGE,reduceAdd,reduceSub,reduceMul,reduceNeg,]
  rfl
theorem l06Node_near (s:List Rcd) (ar a:Int) (h:s.length≤1048576):∃ c0 c1 c2 c3 c4 c6 c7:T,F_s_l06Node [.l (s.map eRcd),ii ar,ii a]=some [c0,c1,c2,c3,c4,.l ((nearOf s ar a).map eNear),c6,c7,bb (decide (0≤nodeP s ar a))]:=by
 rw [e_s_l06Node _ _ _ h]
 unfold nearOf
 by_cases hk:nodeP s ar a < 0
 ·rw [if_pos hk,if_pos hk,show decide (0≤nodeP s ar a)=false by simp;omega];exact ⟨_,_,_,_,_,_,_,rfl⟩
 ·rw [if_neg hk,if_neg hk,show decide (0≤nodeP s ar a)=true by simp;omega];exact ⟨_,_,_,_,_,_,_,rfl⟩
theorem e_s_l06Tells (s:List Rcd) (ar a b:Int) (h:s.length≤1048576) (hn:NearL s):F_s_l06Tells [.l (s.map eRcd),ii ar,ii a,ii b]=some [ii (toldC s ar a b)]:=by
 obtain ⟨c0,c1,c2,c3,c4,c6,c7,e⟩:=l06Node_near s ar a h
 have hl:=nearOf_len hn ar a
 rw [g_s_l06Tells];simp (disch:=omega) only [↓pq,↓pj,ps,pz,↓reduceIte,reduceLE,reduceLT,reduceEq,reduceGT,reduceGE,reduceAdd,reduceSub,reduceMul,reduceNeg,G_s_l06Tells_l0,G_s_l06Tells,e]
 refine (iter_findPx (nearOf s ar a) (fun i=>[ii 0,ii i]) (fun x=>x.to == b) (fun i=>some [ii (gt (nearOf s ar a) i).cost]) (outN:=some [ii 0]) rfl (rounds_lt hl) ?_ ?_).trans ?_
 ·intro i hi q
  simp (disch:=omega) only [↓pq,↓pj,ps,pz,↓reduceIte,reduceLE,reduceLT,reduceEq,reduceGT,reduceGE,reduceAdd,reduceSub,reduceMul,reduceNeg,G_s_l06Tells_l0,hi]
 ·intro q
  simp (disch:=omega) only [↓pq,↓pj,ps,pz,↓reduceIte,reduceLE,reduceLT,reduceEq,reduceGT,reduceGE,reduceAdd,reduceSub,reduceMul,reduceNeg,G_s_l06Tells_l0,]
 ·unfold toldC costIn
  split <;> rfl
theorem storeOk_all {s:List Rcd} (h:storeOk s=true) {r:Rcd} (hr:r∈s):recOk r=true:=by
 simp only [storeOk,Bool.and_eq_true] at h
 obtain ⟨i,hi,rfl⟩:=List.mem_iff_getElem.1 hr
 have:=allB_iff.1 h.2 i hi
 simp only [Bool.and_eq_true] at this
 rw [← gt_elem hi]
 exact this.1
theorem nearOk_all {o:Int} {l:List Near} (h:nearOk o l=true) {x:Near} (hx:x∈l):(1≤x.to∧x.to≤6)∧x.to≠o∧(1≤x.cost∧x.cost≤1000):=by
 obtain ⟨i,hi,rfl⟩:=List.mem_iff_getElem.1 hx
 have:=allB_iff.1 h i hi
 simp only [Bool.and_eq_true,inB_iff,Bool.not_eq_true',decide_eq_false_iff_not] at this
 rw [← gt_elem hi]
 exact ⟨this.1.1.1,this.1.1.2,this.1.2⟩
theorem nearOk_asc {o:Int} {l:List Near} (h:nearOk o l=true):l.Pairwise fun a b=>a.to < b.to:=by
 have h:=allB_iff.1 h
 rw [List.pairwise_iff_getElem]
 have step:∀ i,(hi:i+1 < l.length)→l[i].to < l[i+1].to:=by
  intro i hi
  have:=h (i+1) hi
  simp only [Bool.and_eq_true,Bool.or_eq_true,Bool.not_eq_true',decide_eq_false_iff_not,decide_eq_true_eq] at this
  have h2:=this.2.resolve_left (by omega)
  rwa [show (((i+1:Nat):Int) - 1)=(i:Int) by omega,gt_elem (by omega),gt_elem hi] at h2
 intro i j hi hj hij
 obtain ⟨d,rfl⟩:∃ d,j=i+1+d:=⟨j - i - 1,by omega⟩
 clear hij
 induction d with
 | zero=>exact step i (by omega)
 | succ d ih=>exact Int.lt_trans (ih (by omega)) (step (i+1+d) (by omega))
theorem nearOf_ok {s:List Rcd} (h:storeOk s=true) (ar v:Int):nearOk v (nearOf s ar v)=true:=by
 unfold nearOf
 by_cases hk:nodeP s ar v < 0
 ·rw [if_pos hk];simp [nearOk,allB]
 ·rw [if_neg hk]
  have hm:=gt_mem (l:=s) (n:=nodeP s ar v) (by omega) (nodeP_lt s ar v)
  have hr:=storeOk_all h hm
  have hs:=findP_spec (fun x=>sameKey x ⟨ar,1,v,0,0,[],0,false⟩) s (by unfold nodeP at hk;omega)
  rw [← nodeP] at hs
  rw [sameKey_iff] at hs
  obtain ⟨_,h2,h3,_⟩:=hs
  simp only at h2 h3
  unfold recOk at hr
  rw [h2] at hr
  simp only [if_true,Bool.and_eq_true] at hr
  have hq:=hr.2.1.1.2
  rw [h3] at hq
  exact hq
theorem costIn_none {l:List Near} {b:Int} (h:∀ x∈l,x.to≠b):costIn l b=0:=by
 unfold costIn
 rw [if_pos]
 rw [findP_none]
 intro x hx
 simp [h x hx]
theorem costIn_some {l:List Near} {b:Int} (h:costIn l b≠0):∃ x∈l,x.to=b∧x.cost=costIn l b:=by
 unfold costIn at h ⊢
 split at h
 ·exact absurd rfl h
 ·rename_i hf
  rw [if_neg hf]
  have hs:=findP_spec (fun (y:Near)=>y.to == b) l (by omega)
  simp only [beq_iff_eq] at hs
  exact ⟨_,gt_mem (by omega) (findP_lt _ _),hs,rfl⟩
theorem toldC_bnd {s:List Rcd} (h:storeOk s=true) (ar a b:Int):0≤toldC s ar a b∧toldC s ar a b≤1000:=by
 unfold toldC
 by_cases h0:costIn (nearOf s ar a) b=0
 ·rw [h0];omega
 ·obtain ⟨x,hx,_,h2⟩:=costIn_some h0
  have:=nearOk_all (nearOf_ok h ar a) hx
  omega
theorem linkC_bnd {s:List Rcd} (h:storeOk s=true) (ar a b:Int):0≤linkC s ar a b∧linkC s ar a b≤1000:=by
 unfold linkC
 split
 ·omega
 ·exact toldC_bnd h ar a b
def setNear (s:List Rcd) (ar a:Int) (M:List Int) (x:Near):List Int:=if inB x.to 1 6=true∧toldC s ar x.to a > 0 then M.set (a * 7+x.to).toNat x.cost else M
def rowM (s:List Rcd) (ar:Int) (M:List Int) (i:Nat):List Int:=(nearOf s ar (i+1)).foldl (setNear s ar (i+1)) M
def linkM (s:List Rcd) (ar:Int):List Int:=(List.range 6).foldl (rowM s ar) (List.replicate 49 0)
theorem setNear_len (s:List Rcd) (ar a:Int) (M:List Int) (x:Near):(setNear s ar a M x).length=M.length:=by
 unfold setNear;split <;> simp
theorem foldl_len {α β:Type} {g:List α→β→List α} (h:∀ M x,(g M x).length=M.length) (l:List β) (M:List α):(l.foldl g M).length=M.length:=by
 induction l generalizing M with
 | nil=>rfl
 | cons x l ih=>rw [List.foldl_cons,ih,h]
theorem rowM_len (s:List Rcd) (ar:Int) (M:List Int) (i:Nat):(rowM s ar M i).length=M.length:=foldl_len (setNear_len s ar _) _ _
theorem linkM_len (s:List Rcd) (ar:Int):(linkM s ar).length=49:=by
 unfold linkM
 rw [foldl_len (fun M i=>rowM_len s ar M i)]
 simp
theorem row_gt {s:List Rcd} (hs:storeOk s=true) (ar:Int) {a:Int} (ha:1≤a∧a≤6) {u v:Int} (hu:1≤u∧u≤6) (hv:1≤v∧v≤6) {o:Int}:∀ (l:List Near) (M:List Int),nearOk o l=true∨(l.Pairwise (fun a b=>a.to < b.to)∧∀ x∈l,1≤x.to∧x.to≤6)→M.length=49 →
  gt (l.foldl (setNear s ar a) M) (u * 7+v)=if u=a∧toldC s ar v a > 0∧∃ x∈l,x.to=v then costIn l v else gt M (u * 7+v):=by
 intro l M hl hM
 replace hl:l.Pairwise (fun a b=>a.to < b.to)∧∀ x∈l,1≤x.to∧x.to≤6:=by
  rcases hl with hl | hl
  ·exact ⟨nearOk_asc hl,fun x hx=>(nearOk_all hl hx).1⟩
  ·exact hl
 induction l generalizing M with
 | nil=>simp
 | cons y l ih =>
  have hp:=List.pairwise_cons.1 hl.1
  have hy:=hl.2 y (.head _)
  have hlen:=setNear_len s ar a M y
  rw [List.foldl_cons,ih (setNear s ar a M y) (by rw [hlen];exact hM) ⟨hp.2,fun x hx=>hl.2 x (.tail _ hx)⟩]
  have hset:gt (setNear s ar a M y) (u * 7+v)=if u=a∧v=y.to∧toldC s ar y.to a > 0 then y.cost else gt M (u * 7+v):=by
   unfold setNear
   by_cases hc:inB y.to 1 6=true∧toldC s ar y.to a > 0
   ·rw [if_pos hc,gt_set (by omega) (by omega) (by omega)]
    refine if_rw ⟨fun h=>⟨by omega,by omega,hc.2⟩,fun h=>by omega⟩ _ _
   ·rw [if_neg hc,if_neg (fun h=>hc ⟨inB_iff.2 hy,h.2.2⟩)]
  rw [hset]
  by_cases hin:∃ x∈l,x.to=v
  ·obtain ⟨x,hx,e⟩:=hin
   have hne:¬ (v=y.to):=by have:=hp.1 x hx;omega
   have hcost:costIn (y :: l) v=costIn l v:=by
    unfold costIn findP
    rw [List.findIdx?_cons]
    have:(y.to == v)=false:=by simp;omega
    rw [this]
    simp only [Bool.false_eq_true,if_false]
    cases hf:l.findIdx? (fun (z:Near)=>z.to == v) with
    | none=>rfl
    | some k =>
     show (if ((k+1:Nat):Int) < 0 then 0 else (gt (y :: l) ((k+1:Nat):Int)).cost)=if (k:Int) < 0 then 0 else (gt l (k:Int)).cost
     rw [if_neg (by omega),if_neg (by omega)]
     rfl
   by_cases hu2:u=a∧toldC s ar v a > 0
   ·rw [if_pos ⟨hu2.1,hu2.2,x,hx,e⟩,if_pos ⟨hu2.1,hu2.2,x,.tail _ hx,e⟩,hcost]
   ·rw [if_neg (fun h=>hu2 ⟨h.1,h.2.1⟩),if_neg (fun h=>hne h.2.1),if_neg (fun h=>hu2 ⟨h.1,h.2.1⟩)]
  ·rw [if_neg (fun h=>hin h.2.2)]
   by_cases hc:u=a∧v=y.to∧toldC s ar y.to a > 0
   ·rw [if_pos hc,if_pos ⟨hc.1,by rw [hc.2.1];exact hc.2.2,y,.head _,hc.2.1.symm⟩]
    unfold costIn findP
    rw [List.findIdx?_cons]
    have:(y.to == v)=true:=by simp;omega
    rw [this]
    rfl
   ·rw [if_neg hc,if_neg]
    rintro ⟨h1,h2,x,hx,e⟩
    rcases List.mem_cons.1 hx with rfl | hx
    ·exact hc ⟨h1,e.symm,by rw [e];exact h2⟩
    ·exact hin ⟨x,hx,e⟩
theorem rowM_gt {s:List Rcd} (hs:storeOk s=true) (ar:Int) {i:Nat} (hi:i < 6) {M:List Int} (hM:M.length=49) {u v:Int} (hu:1≤u∧u≤6) (hv:1≤v∧v≤6) (h0:u=(i:Int)+1→gt M (u * 7+v)=0) :
  gt (rowM s ar M i) (u * 7+v)=if u=(i:Int)+1 then linkC s ar u v else gt M (u * 7+v):=by
 unfold rowM
 rw [row_gt (o:=(i:Int)+1) hs ar (by omega) hu hv _ _ (.inl (nearOf_ok hs ar ((i:Int)+1))) hM]
 by_cases hc:u=(i:Int)+1
 ·rw [if_pos hc,h0 hc]
  unfold linkC
  have hb:=toldC_bnd hs ar v u
  by_cases h1:toldC s ar v u=0
  ·rw [if_pos h1,if_neg]
   rintro ⟨_,h2,_⟩
   rw [← hc] at h2;omega
  ·rw [if_neg h1]
   by_cases h2:∃ x∈nearOf s ar ((i:Int)+1),x.to=v
   ·rw [if_pos ⟨hc,by rw [← hc];omega,h2⟩,← hc];rfl
   ·rw [if_neg (fun h=>h2 h.2.2)]
    unfold toldC
    rw [costIn_none]
    intro x hx e
    exact h2 ⟨x,hc ▸ hx,e⟩
 ·rw [if_neg (fun h=>hc h.1),if_neg hc]
theorem linkM_gt {s:List Rcd} (hs:storeOk s=true) (ar:Int) {u v:Int} (hu:1≤u∧u≤6) (hv:1≤v∧v≤6):gt (linkM s ar) (u * 7+v)=linkC s ar u v:=by
 have key:=foldl_inv (l:=List.range 6) (g:=rowM s ar) (c:=List.replicate 49 0) (Inv:=fun i M=>M.length=49∧∀ u v:Int,(1≤u∧u≤6)→(1≤v∧v≤6)→gt M (u * 7+v)=if u < (i:Int)+1 then linkC s ar u v else 0)
  ⟨by simp,fun u v hu hv=>by rw [gt_replicate (by omega) (by omega),if_neg (by omega)]⟩ (fun i M hi ⟨h1,h2⟩=>by
   have hl:(List.range 6).length=6:=List.length_range
   rw [hl] at hi
   rw [gt_elem (by rw [hl];omega),List.getElem_range]
   refine ⟨by rw [rowM_len];exact h1,fun u v hu hv=>?_⟩
   rw [rowM_gt hs ar (by omega) h1 hu hv (fun e=>by rw [h2 u v hu hv,if_neg (by omega)]),h2 u v hu hv]
   by_cases hc:u=(i:Int)+1
   ·rw [if_pos hc,if_pos (by omega)]
   ·rw [if_neg hc]
    exact if_rw ⟨fun h=>by omega,fun h=>by omega⟩ _ _)
 have:=key.2 u v hu hv
 rw [List.length_range,if_pos (by omega)] at this
 exact this
theorem e_s_l06Links (s:List Rcd) (ar:Int) (h:s.length≤1048576) (hn:NearL s) (hs:storeOk s=true):F_s_l06Links [.l (s.map eRcd),ii ar]=some [.l ((linkM s ar).map eInt)]:=by
 have e0:=mk_run (enc:=eInt) (n:=49) (x:=0) (vs:=[ii 0]) (by decide) rfl
 rw [g_s_l06Links];simp only [G_s_l06Links,pv_s]
 rw [show Prim.ev .mk [ii 49,ii 49,ii 0]=some (.l ((List.replicate 49 (0:Int)).map eInt)) from e0,bind_some']
 refine iter_uptox 6 (fun i M=>[ii (i+1),.l (M.map eInt)]) (rowM s ar) (fun M=>some [T.l (M.map eInt)]) (List.replicate 49 0) (fun _ M=>M.length=49) rfl (rounds_lt (by omega)) (by simp) ?_ ?_
 ·intro i M hi hM
  refine ⟨by rw [rowM_len];exact hM,fun q=>?_⟩
  have hi':(i:Int)+1≤6:=by omega
  obtain ⟨c0,c1,c2,c3,c4,c6,c7,e⟩:=l06Node_near s ar ((i:Int)+1) h
  have hl:=nearOf_len hn ar ((i:Int)+1)
  simp (disch:=omega) only [↓pq,↓pj,ps,pz,↓reduceIte,reduceLE,reduceLT,reduceEq,reduceGT,reduceGE,reduceAdd,reduceSub,reduceMul,reduceNeg,G_s_l06Links_l0,G_s_l06Links_l1,hi',e]
  refine iter_foldlx (nearOf s ar ((i:Int)+1)) (fun j M=>[ii j,.l (M.map eInt)]) (setNear s ar ((i:Int)+1)) (fun M=>q [ii ((i+1:Nat)+1),.l (M.map eInt)]) M (fun _ M=>M.length=49) rfl (rounds_lt hl) hM ?_ ?_
  ·intro j M hj hM
   refine ⟨by rw [setNear_len];exact hM,fun q=>?_⟩
   have ht:=nearOk_all (nearOf_ok hs ar ((i:Int)+1)) (gt_mem (n:=j) (by omega) hj)
   unfold setNear
   have hb:inB (gt (nearOf s ar ((i:Int)+1)) j).to 1 6=true:=inB_iff.2 ht.1
   simp (disch:=omega) only [↓pq,↓pj,ps,pz,↓reduceIte,reduceLE,reduceLT,reduceEq,reduceGT,reduceGE,reduceAdd,reduceSub,reduceMul,reduceNeg,G_s_l06Links_l0,G_s_l06Links_l1,hj,e_s_l01In,hb,e_s_l06Tells _ _ _ _ h hn,put_Int]
   simp only [true_and]
   by_cases hc:toldC s ar (gt (nearOf s ar ((i:Int)+1)) j).to ((i:Int)+1) > 0
   ·simp only [hc,if_true]
   ·simp only [hc,if_false]
  ·intro M q' hM
   simp (disch:=omega) only [↓pq,↓pj,ps,pz,↓reduceIte,reduceLE,reduceLT,reduceEq,reduceGT,reduceGE,reduceAdd,reduceSub,reduceMul,reduceNeg,G_s_l06Links_l0,G_s_l06Links_l1,]
 ·intro M q hM
  simp (disch:=omega) only [↓pq,↓pj,ps,pz,↓reduceIte,reduceLE,reduceLT,reduceEq,reduceGT,reduceGE,reduceAdd,reduceSub,reduceMul,reduceNeg,G_s_l06Links_l0,G_s_l06Links_l1,]
end Go.Proofs.YtbhplkilhknciaaDoorC

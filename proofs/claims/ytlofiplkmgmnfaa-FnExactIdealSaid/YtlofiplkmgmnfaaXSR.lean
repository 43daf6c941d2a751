/- What a node at a border tells, by both programs. Conditions: none. -/
import Derived.Test.YtlofiplkmgmnfaaXSQ
namespace Go.Proofs.YtlofiplkmgmnfaaC
open Int (reduceLE reduceLT reduceEq reduceGT reduceGE reduceAdd reduceSub reduceMul reduceNeg)
set_option linter.unusedVariables false
set_option linter.unusedSimpArgs false
def recOf (area fr:Int) (w:Way):Rcd:=⟨area,2,fr,w.to,0,[],w.cost,false⟩
def tellC (here:List Way) (fr:Int) (k:Int):Bool:=decide (wayP here k < 0) && decide (k≠fr)
def tellR (here:List Way) (area fr:Int) (W:List Way) (k:Int):Option Rcd:=if tellC here fr k=true then (wayO W k).map (recOf area fr) else none
def toldB (here:List Way) (area fr:Int) (W:List Way):List Rcd:=six.filterMap (tellR here area fr W)
theorem tellR_key {here:List Way} {area fr:Int} {W:List Way} {k:Int} {r:Rcd} (h:tellR here area fr W k=some r):r.key=k∧r.area=area∧r.kind=2∧r.owner=fr∧r.near=[]∧r.seq=0∧r.far=false∧tellC here fr k=true∧∃ w,wayO W k=some w∧r=recOf area fr w:=by
 unfold tellR at h
 split at h
 ·rename_i hc
  obtain ⟨w,hw,e⟩:=Option.map_eq_some_iff.1 h
  subst e
  exact ⟨(wayO_some hw).2,rfl,rfl,rfl,rfl,rfl,rfl,hc,w,hw,rfl⟩
 ·cases h
theorem toldB_mem {here:List Way} {area fr:Int} {W:List Way} {r:Rcd}:r∈toldB here area fr W↔(1≤r.key∧r.key≤6)∧tellR here area fr W r.key=some r:=by
 unfold toldB
 rw [List.mem_filterMap]
 constructor
 ·rintro ⟨k,hk,h⟩
  have:=(tellR_key h).1
  subst this
  exact ⟨mem_six.1 hk,h⟩
 ·rintro ⟨h1,h2⟩
  exact ⟨r.key,mem_six.2 h1,h2⟩
theorem toldB_asc (here:List Way) (area fr:Int) (W:List Way):(toldB here area fr W).Pairwise fun a b=>a.key < b.key:=by
 unfold toldB
 rw [List.pairwise_filterMap]
 refine six_asc.imp fun {a b} hab x hx y hy=>?_
 rw [(tellR_key hx).1,(tellR_key hy).1]
 exact hab
theorem toldB_len (here:List Way) (area fr:Int) (W:List Way):(toldB here area fr W).length≤6:=List.length_filterMap_le _ _
theorem toldB_same {here:List Way} {area fr:Int} {W:List Way} {r:Rcd} (h:r∈toldB here area fr W):r.area=area∧r.kind=2∧r.owner=fr∧r.near=[]:=by
 have:=tellR_key (toldB_mem.1 h).2
 exact ⟨this.2.1,this.2.2.1,this.2.2.2.1,this.2.2.2.2.1⟩
theorem toldB_sorted (here:List Way) (area fr:Int) (W:List Way):Sorted (toldB here area fr W):=by
 unfold Sorted
 refine (toldB_asc here area fr W).imp_of_mem fun {a b} ha hb hab=>?_
 have h1:=toldB_same ha
 have h2:=toldB_same hb
 rw [recLt_iff]
 omega
theorem toldB_near (here:List Way) (area fr:Int) (W:List Way):NearL (toldB here area fr W):=fun r hr=>by
 rw [(toldB_same hr).2.2.2];simp
theorem wayO_snoc (W:List Way) (w:Way) (k:Int):wayO (W++[w]) k=(wayO W k).or (if w.to=k then some w else none):=by
 rw [wayO_append]
 congr 1
 rw [wayO_find]
 simp only [List.find?_cons,List.find?_nil]
 by_cases h:w.to=k
 ·simp [h]
 ·have:(w.to == k)=false:=by simpa using h
  rw [this,if_neg h]
theorem toldB_skip {here:List Way} {area fr:Int} {W:List Way} {w:Way} (h:tellC here fr w.to=false∨(wayO W w.to).isSome=true):toldB here area fr (W++[w])=toldB here area fr W:=by
 unfold toldB
 refine congrArg (fun f=>List.filterMap f six) (funext fun k=>?_)
 unfold tellR
 by_cases hk:tellC here fr k=true
 ·rw [if_pos hk,if_pos hk,wayO_snoc]
  by_cases e:w.to=k
  ·subst e
   rcases h with h | h
   ·rw [h] at hk;cases hk
   ·rw [Option.or_of_isSome h]
  ·rw [if_neg e,Option.or_none]
 ·rw [if_neg hk,if_neg hk]
theorem toldB_new {here:List Way} {area fr:Int} {W:List Way} {w:Way} (hw:1≤w.to∧w.to≤6) (h1:tellC here fr w.to=true) (h2:wayO W w.to=none):toldB here area fr (W++[w])=putR (toldB here area fr W) (recOf area fr w):=by
 have hs:=putR_sorted (toldB_sorted here area fr W) (recOf area fr w)
 refine ascK_ext Rcd.key (toldB_asc _ _ _ _) ?_ fun r=>?_
 ·refine hs.imp_of_mem fun {a b} ha hb hab=>?_
  have hm:∀ x,x∈putR (toldB here area fr W) (recOf area fr w)→x.area=area∧x.kind=2∧x.owner=fr:=by
   intro x hx
   rcases mem_putR hx with rfl | hx
   ·exact ⟨rfl,rfl,rfl⟩
   ·have:=toldB_same hx;exact ⟨this.1,this.2.1,this.2.2.1⟩
  have h1:=hm a ha
  have h2:=hm b hb
  rw [recLt_iff] at hab
  omega
 ·have hp:r∈putR (toldB here area fr W) (recOf area fr w)↔r=recOf area fr w∨(r∈toldB here area fr W∧r.key≠w.to):=by
   unfold putR
   simp only [List.mem_append,List.mem_filter,List.mem_singleton]
   constructor
   ·rintro (⟨h,q⟩ | h | ⟨h,q⟩)
    ·have hx:=toldB_same h
     rw [recLt_iff] at q
     simp only [recOf] at q
     exact .inr ⟨h,by omega⟩
    ·exact .inl h
    ·have hx:=toldB_same h
     rw [recLt_iff] at q
     simp only [recOf] at q
     exact .inr ⟨h,by omega⟩
   ·rintro (h | ⟨h,q⟩)
    ·exact .inr (.inl h)
    ·have hx:=toldB_same h
     rcases Int.lt_or_gt_of_ne q with q | q
     ·exact .inl ⟨h,by rw [recLt_iff];simp only [recOf];omega⟩
     ·exact .inr (.inr ⟨h,by rw [recLt_iff];simp only [recOf];omega⟩)
  rw [hp,toldB_mem,toldB_mem]
  unfold tellR
  constructor
  ·rintro ⟨hk,h⟩
   split at h
   ·rename_i hc
    rw [wayO_snoc] at h
    by_cases e:w.to=r.key
    ·rw [if_pos e,← e,h2,Option.none_or] at h
     simp only [Option.map_some,Option.some.injEq] at h
     exact .inl h.symm
    ·rw [if_neg e,Option.or_none] at h
     exact .inr ⟨⟨hk,by rw [if_pos hc];exact h⟩,fun e'=>e e'.symm⟩
   ·cases h
  ·rintro (rfl | ⟨⟨hk,h⟩,hne⟩)
   ·refine ⟨hw,?_⟩
    show (if tellC here fr w.to=true then _ else none)=_
    rw [if_pos h1]
    show (wayO (W++[w]) w.to).map _=_
    rw [wayO_snoc,h2,if_pos rfl]
    rfl
   ·refine ⟨hk,?_⟩
    have e1:wayO (W++[w]) r.key=wayO W r.key:=by rw [wayO_snoc,if_neg (fun e:w.to=r.key=>hne e.symm),Option.or_none]
    rw [e1]
    exact h
def othersOf (A:List Int) (area:Int):List Int:=A.filter fun a=>!(a == area)
def tellW (s:List Rcd) (A:List Int) (fr area:Int):List Way:=within s (othersOf A area) fr++if area=0 then [] else beyond s A true fr
def beyondR (s:List Rcd) (A:List Int) (fr area:Int):List Rcd:=toldB (waysIn s area fr) area fr (tellW s A fr area)
theorem toldB_nil (here:List Way) (area fr:Int):toldB here area fr []=[]:=by
 unfold toldB
 rw [List.filterMap_eq_nil_iff]
 intro k _
 unfold tellR
 have:wayO [] k=none:=rfl
 rw [this]
 split <;> rfl
theorem wayO_has (W:List Way) (k:Int):(wayO W k).isSome=true↔¬ wayP W k < 0:=by
 unfold wayO
 split <;> simp_all
theorem key_toldB {here:List Way} {area fr:Int} {W:List Way} {w:Way} (hw:1≤w.to∧w.to≤6) (h1:tellC here fr w.to=true):keyP (toldB here area fr W) (recOf area fr w) < 0↔wayO W w.to=none:=by
 unfold keyP
 rw [findP_none]
 constructor
 ·intro h
  cases e:wayO W w.to with
  | none=>rfl
  | some v =>
   have hv:=(wayO_some e).2
   have hm:recOf area fr v∈toldB here area fr W:=toldB_mem.2 ⟨by show 1≤v.to∧v.to≤6;omega,by
    show tellR here area fr W v.to=_
    unfold tellR
    rw [hv,if_pos h1,e];rfl⟩
   have:=h _ hm
   simp [sameKey,recOf,hv] at this
 ·intro h x hx
  have h2:=toldB_mem.1 hx
  obtain ⟨h3,_,_,_,_,_,_,_,v,h4,h5⟩:=tellR_key h2.2
  cases hs:sameKey x (recOf area fr w) with
  | false=>rfl
  | true =>
   have:x.key=w.to:=by simp only [sameKey,Bool.and_eq_true,decide_eq_true_eq] at hs;exact hs.2.2.2
   rw [this,h] at h4;cases h4
theorem e_i_Beyond (s:List Rcd) (A:List Int) (fr area:Int) (h:s.length≤1048576) (hn:NearL s) (ha:A.length≤1048576):F_i_Beyond [.l (s.map eRcd),.l (A.map eInt),ii fr,ii area]=some [.l ((beyondR s A fr area).map eRcd)]:=by
 rw [g_i_Beyond];simp (disch:=omega) only [↓pq,↓pj,ps,pz,↓reduceIte,reduceLE,reduceLT,reduceEq,reduceGT,reduceGE,reduceAdd,reduceSub,reduceMul,reduceNeg,G_i_Beyond_l0,G_i_Beyond_l1,G_i_Beyond_l2,G_i_Beyond]
 refine (iter_foldlx A (fun j c=>[.l (c.map eInt),ii j]) (fun c a=>if (!(a == area))=true then c++[a] else c) (fun c=>if c.length≤1048576 then some [T.l ((toldB (waysIn s area fr) area fr (within s c fr++if area=0 then [] else beyond s A true fr)).map eRcd)] else none) [] (fun j c=>c.length≤j) rfl (rounds_lt ha) (by simp) ?_ ?_).trans ?_
 ·intro j c hj hc
  refine ⟨by split;(· simp;omega);(· omega),fun q=>?_⟩
  by_cases k:gt A j=area
  ·have:(!(gt A j == area))=false:=by simpa using k
   rw [this]
   simp (disch:=omega) only [↓pq,↓pj,ps,pz,↓reduceIte,reduceLE,reduceLT,reduceEq,reduceGT,reduceGE,reduceAdd,reduceSub,reduceMul,reduceNeg,G_i_Beyond_l0,G_i_Beyond_l1,G_i_Beyond_l2,hj,k,Bool.false_eq_true]
  ·have:(!(gt A j == area))=true:=by simpa using k
   rw [this]
   simp (disch:=omega) only [↓pq,↓pj,ps,pz,↓reduceIte,reduceLE,reduceLT,reduceEq,reduceGT,reduceGE,reduceAdd,reduceSub,reduceMul,reduceNeg,G_i_Beyond_l0,G_i_Beyond_l1,G_i_Beyond_l2,hj,k]
 ·intro c q hc
  rw [if_pos (by omega)]
  have hH:=e_i_WaysIn s area fr h hn
  have hWl:=within_len (s:=s) (A:=c) (fr:=fr)
  have hBl:=beyond_len (s:=s) (A:=A) (z:=true) (fr:=fr)
  have hT:=fun k:Int=>e_i_WayTo (waysIn s area fr) k (by have:=waysIn_len (s:=s) (a:=area) (fr:=fr);omega) waysIn_hops
  simp (disch:=omega) only [↓pq,↓pj,ps,pz,↓reduceIte,reduceLE,reduceLT,reduceEq,reduceGT,reduceGE,reduceAdd,reduceSub,reduceMul,reduceNeg,G_i_Beyond_l0,G_i_Beyond_l1,G_i_Beyond_l2,hH,e_i_RoutesWithin s c fr h hn (by omega)]
  refine (iter_foldlx (within s c fr) (fun j P=>[ii j,.l ((toldB (waysIn s area fr) area fr P).map eRcd),.l ((within s c fr).map eWay)]) (fun P w=>P++[w]) (fun P=>some [T.l ((toldB (waysIn s area fr) area fr (P++if area=0 then [] else beyond s A true fr)).map eRcd)]) [] (fun _ _=>True) (by rw [toldB_nil];rfl) (rounds_lt (by omega)) trivial ?_ ?_).trans (by rw [foldl_snoc,List.nil_append])
  ·intro j P hj _
   refine ⟨trivial,fun q=>?_⟩
   have hm:=(within_ok (gt_mem (l:=within s c fr) (n:=(j:Int)) (by omega) hj)).1
   generalize hw:gt (within s c fr) (j:Int)=w at hm
   have hTl:=toldB_len (waysIn s area fr) area fr P
   have hk:=e_i_keyAt (toldB (waysIn s area fr) area fr P) area 2 fr w.to (ii 0) (.l []) (ii w.cost) (bb false) (by omega)
   rw [show findP (fun x=>sameKey x ⟨area,2,fr,w.to,0,[],0,false⟩) (toldB (waysIn s area fr) area fr P)=keyP (toldB (waysIn s area fr) area fr P) (recOf area fr w) from rfl] at hk
   have hp:=e_i_put (toldB (waysIn s area fr) area fr P) area 2 fr w.to 0 [] w.cost false (by omega) (toldB_near _ _ _ _) (toldB_sorted _ _ _ _) (by simp)
   rw [show (⟨area,2,fr,w.to,0,[],w.cost,false⟩:Rcd)=recOf area fr w from rfl] at hp
   rw [List.map_nil] at hp
   have hT:=hT w.to
   by_cases k1:wayP (waysIn s area fr) w.to < 0
   ·rw [if_pos k1] at hT
    by_cases k2:w.to=fr
    ·rw [toldB_skip (.inl (by unfold tellC;simp [k2]))]
     rw [k2] at hT
     simp (disch:=omega) only [↓pq,↓pj,ps,pz,↓reduceIte,reduceLE,reduceLT,reduceEq,reduceGT,reduceGE,reduceAdd,reduceSub,reduceMul,reduceNeg,G_i_Beyond_l0,G_i_Beyond_l1,G_i_Beyond_l2,hj,hw,hT,k2,Bool.false_eq_true]
    ·have ht:tellC (waysIn s area fr) fr w.to=true:=by unfold tellC;simp [k1,k2]
     have hkey:=key_toldB (area:=area) (W:=P) hm ht
     cases ho:wayO P w.to with
     | none =>
      rw [toldB_new hm ht ho]
      have hkey:=hkey.2 ho
      simp (disch:=omega) only [↓pq,↓pj,ps,pz,↓reduceIte,reduceLE,reduceLT,reduceEq,reduceGT,reduceGE,reduceAdd,reduceSub,reduceMul,reduceNeg,G_i_Beyond_l0,G_i_Beyond_l1,G_i_Beyond_l2,hj,hw,hT,k2,Bool.false_eq_true,hk,hkey,hp]
     | some v =>
      rw [toldB_skip (.inr (by rw [ho];rfl))]
      have hkey:¬ keyP (toldB (waysIn s area fr) area fr P) (recOf area fr w) < 0:=fun h=>by rw [hkey.1 h] at ho;cases ho
      simp (disch:=omega) only [↓pq,↓pj,ps,pz,↓reduceIte,reduceLE,reduceLT,reduceEq,reduceGT,reduceGE,reduceAdd,reduceSub,reduceMul,reduceNeg,G_i_Beyond_l0,G_i_Beyond_l1,G_i_Beyond_l2,hj,hw,hT,k2,Bool.false_eq_true,hk,hkey]
   ·rw [if_neg k1] at hT
    simp only [eWay,List.cons_append,List.nil_append] at hT
    rw [toldB_skip (.inl (by unfold tellC;simp [k1]))]
    simp (disch:=omega) only [↓pq,↓pj,ps,pz,↓reduceIte,reduceLE,reduceLT,reduceEq,reduceGT,reduceGE,reduceAdd,reduceSub,reduceMul,reduceNeg,G_i_Beyond_l0,G_i_Beyond_l1,G_i_Beyond_l2,hj,hw,hT]
  ·intro P q _
   by_cases k0:area=0
   ·rw [if_pos k0,List.append_nil]
    simp (disch:=omega) only [↓pq,↓pj,ps,pz,↓reduceIte,reduceLE,reduceLT,reduceEq,reduceGT,reduceGE,reduceAdd,reduceSub,reduceMul,reduceNeg,G_i_Beyond_l0,G_i_Beyond_l1,G_i_Beyond_l2,k0]
   ·rw [if_neg k0]
    simp (disch:=omega) only [↓pq,↓pj,ps,pz,↓reduceIte,reduceLE,reduceLT,reduceEq,reduceGT,reduceGE,reduceAdd,reduceSub,reduceMul,reduceNeg,G_i_Beyond_l0,G_i_Beyond_l1,G_i_Beyond_l2,k0,e_i_RoutesBeyond s A true fr h hn ha]
    refine (iter_foldlx (beyond s A true fr) (fun j P=>[ii j,.l ((toldB (waysIn s area fr) area fr P).map eRcd),.l ((beyond s A true fr).map eWay)]) (fun P w=>P++[w]) (fun P=>some [T.l ((toldB (waysIn s area fr) area fr P).map eRcd)]) P (fun _ _=>True) rfl (rounds_lt (by omega)) trivial ?_ ?_).trans (by rw [foldl_snoc])
    ·intro j P hj _
     refine ⟨trivial,fun q=>?_⟩
     have hm:=(beyond_ok (gt_mem (l:=beyond s A true fr) (n:=(j:Int)) (by omega) hj)).1
     generalize hw:gt (beyond s A true fr) (j:Int)=w at hm
     have hTl:=toldB_len (waysIn s area fr) area fr P
     have hk:=e_i_keyAt (toldB (waysIn s area fr) area fr P) area 2 fr w.to (ii 0) (.l []) (ii w.cost) (bb false) (by omega)
     rw [show findP (fun x=>sameKey x ⟨area,2,fr,w.to,0,[],0,false⟩) (toldB (waysIn s area fr) area fr P)=keyP (toldB (waysIn s area fr) area fr P) (recOf area fr w) from rfl] at hk
     have hp:=e_i_put (toldB (waysIn s area fr) area fr P) area 2 fr w.to 0 [] w.cost false (by omega) (toldB_near _ _ _ _) (toldB_sorted _ _ _ _) (by simp)
     rw [show (⟨area,2,fr,w.to,0,[],w.cost,false⟩:Rcd)=recOf area fr w from rfl] at hp
     rw [List.map_nil] at hp
     have hT:=hT w.to
     by_cases k1:wayP (waysIn s area fr) w.to < 0
     ·rw [if_pos k1] at hT
      by_cases k2:w.to=fr
      ·rw [toldB_skip (.inl (by unfold tellC;simp [k2]))]
       rw [k2] at hT
       simp (disch:=omega) only [↓pq,↓pj,ps,pz,↓reduceIte,reduceLE,reduceLT,reduceEq,reduceGT,reduceGE,reduceAdd,reduceSub,reduceMul,reduceNeg,G_i_Beyond_l0,G_i_Beyond_l1,G_i_Beyond_l2,hj,hw,hT,k2,Bool.false_eq_true]
      ·have ht:tellC (waysIn s area fr) fr w.to=true:=by unfold tellC;simp [k1,k2]
       have hkey:=key_toldB (area:=area) (W:=P) hm ht
       cases ho:wayO P w.to with
       | none =>
        rw [toldB_new hm ht ho]
        have hkey:=hkey.2 ho
        simp (disch:=omega) only [↓pq,↓pj,ps,pz,↓reduceIte,reduceLE,reduceLT,reduceEq,reduceGT,reduceGE,reduceAdd,reduceSub,reduceMul,reduceNeg,G_i_Beyond_l0,G_i_Beyond_l1,G_i_Beyond_l2,hj,hw,hT,k2,Bool.false_eq_true,hk,hkey,hp]
       | some v =>
        rw [toldB_skip (.inr (by rw [ho];rfl))]
        have hkey:¬ keyP (toldB (waysIn s area fr) area fr P) (recOf area fr w) < 0:=fun h=>by rw [hkey.1 h] at ho;cases ho
        simp (disch:=omega) only [↓pq,↓pj,ps,pz,↓reduceIte,reduceLE,reduceLT,reduceEq,reduceGT,reduceGE,reduceAdd,reduceSub,reduceMul,reduceNeg,G_i_Beyond_l0,G_i_Beyond_l1,G_i_Beyond_l2,hj,hw,hT,k2,Bool.false_eq_true,hk,hkey]
     ·rw [if_neg k1] at hT
      simp only [eWay,List.cons_append,List.nil_append] at hT
      rw [toldB_skip (.inl (by unfold tellC;simp [k1]))]
      simp (disch:=omega) only [↓pq,↓pj,ps,pz,↓reduceIte,reduceLE,reduceLT,reduceEq,reduceGT,reduceGE,reduceAdd,reduceSub,reduceMul,reduceNeg,G_i_Beyond_l0,G_i_Beyond_l1,G_i_Beyond_l2,hj,hw,hT]
    ·intro P q _
     simp (disch:=omega) only [↓pq,↓pj,ps,pz,↓reduceIte,reduceLE,reduceLT,reduceEq,reduceGT,reduceGE,reduceAdd,reduceSub,reduceMul,reduceNeg,G_i_Beyond_l0,G_i_Beyond_l1,G_i_Beyond_l2,]
 ·rw [foldl_filter,List.nil_append,if_pos (by have:=List.length_filter_le (fun a=>!(a == area)) A;omega)]
  rfl
theorem beyondR_bad {s:List Rcd} (hs:storeOk s=false) (A:List Int) (fr area:Int):beyondR s A fr area=[]:=by
 have hw:∀ a,waysIn s a fr=[]:=fun a=>by unfold waysIn;rw [if_neg (by rw [hs];simp)]
 have h1:∀ A,cand s A fr=[]:=fun A=>by unfold cand;rw [List.flatMap_eq_nil_iff];intro a _;exact hw a
 have h2:∀ A,within s A fr=[]:=fun A=>by unfold within;rw [h1];rfl
 have h3:beyond s A true fr=[]:=by
  unfold beyond
  have:beyondC s A true fr=[]:=by
   unfold beyondC
   rw [List.filterMap_eq_nil_iff]
   intro x hx
   cases e:recB s A true fr x with
   | none=>rfl
   | some w =>
    obtain ⟨_,y,hy,_⟩:=recB_some e
    have:=(wayO_ok hy).2.2.2.2
    rw [hs] at this;cases this
  rw [this];rfl
 unfold beyondR tellW
 rw [h2,h3]
 have:(if area=0 then ([]:List Way) else [])=[]:=by split <;> rfl
 rw [this]
 exact toldB_nil _ _ _
theorem wayO_to {W:List Way} (hl:W.length≤1048576) (hW:∀ w∈W,w.hops.length≤1048576) (k:Int):F_s_WayTo [.l (W.map eWay),ii k]=some (match wayO W k with | none=>[ii 0,ii 0,.l [],bb false] | some w=>eWay w++[bb true]):=by
 rw [e_s_WayTo W k hl hW]
 unfold wayO
 split <;> rfl
theorem e_s_Beyond (s:List Rcd) (A:List Int) (fr area:Int) (h:s.length≤1048576) (hn:NearL s) (ha:A.length≤1048576):F_s_Beyond [.l (s.map eRcd),.l (A.map eInt),ii fr,ii area]=some [.l ((beyondR s A fr area).map eRcd)]:=by
 rw [g_s_Beyond];simp (disch:=omega) only [↓pq,↓pj,ps,pz,↓reduceIte,reduceLE,reduceLT,reduceEq,reduceGT,reduceGE,reduceAdd,reduceSub,reduceMul,reduceNeg,G_s_Beyond_l0,G_s_Beyond_l1,G_s_Beyond,e_s_StoreOk _ h hn]
 cases hs:storeOk s with
 | false=>rw [beyondR_bad hs];simp (disch:=omega) only [↓pq,↓pj,ps,pz,↓reduceIte,reduceLE,reduceLT,reduceEq,reduceGT,reduceGE,reduceAdd,reduceSub,reduceMul,reduceNeg,G_s_Beyond_l0,G_s_Beyond_l1,Bool.false_eq_true];rfl
 | true =>
 simp (disch:=omega) only [↓pq,↓pj,ps,pz,↓reduceIte,reduceLE,reduceLT,reduceEq,reduceGT,reduceGE,reduceAdd,reduceSub,reduceMul,reduceNeg,G_s_Beyond_l0,G_s_Beyond_l1,]
 refine (iter_foldlx A (fun j c=>[.l (c.map eInt),ii j]) (fun c a=>if (!(a == area))=true then c++[a] else c) (fun c=>if c.length≤1048576 then some [T.l ((toldB (waysIn s area fr) area fr (within s c fr++if area=0 then [] else beyond s A true fr)).map eRcd)] else none) [] (fun j c=>c.length≤j) rfl (rounds_lt ha) (by simp) ?_ ?_).trans ?_
 ·intro j c hj hc
  refine ⟨by split;(· simp;omega);(· omega),fun q=>?_⟩
  by_cases k:gt A j=area
  ·have:(!(gt A j == area))=false:=by simpa using k
   rw [this]
   simp (disch:=omega) only [↓pq,↓pj,ps,pz,↓reduceIte,reduceLE,reduceLT,reduceEq,reduceGT,reduceGE,reduceAdd,reduceSub,reduceMul,reduceNeg,G_s_Beyond_l0,G_s_Beyond_l1,hj,k,Bool.false_eq_true]
  ·have:(!(gt A j == area))=true:=by simpa using k
   rw [this]
   simp (disch:=omega) only [↓pq,↓pj,ps,pz,↓reduceIte,reduceLE,reduceLT,reduceEq,reduceGT,reduceGE,reduceAdd,reduceSub,reduceMul,reduceNeg,G_s_Beyond_l0,G_s_Beyond_l1,hj,k]
 ·intro c q hc
  rw [if_pos (by omega)]
  have hWl:=within_len (s:=s) (A:=c) (fr:=fr)
  have hBl:=beyond_len (s:=s) (A:=A) (z:=true) (fr:=fr)
  have hT:=fun k:Int=>wayO_to (W:=waysIn s area fr) (by have:=waysIn_len (s:=s) (a:=area) (fr:=fr);omega) waysIn_hops k
  have hU:=fun k:Int=>wayO_to (W:=within s c fr) (by omega) within_hops k
  have hV:=fun k:Int=>wayO_to (W:=beyond s A true fr) (by omega) (fun w hw=>by have:=hops_len (beyond_ok hw).2.1;omega) k
  simp (disch:=omega) only [↓pq,↓pj,ps,pz,↓reduceIte,reduceLE,reduceLT,reduceEq,reduceGT,reduceGE,reduceAdd,reduceSub,reduceMul,reduceNeg,G_s_Beyond_l0,G_s_Beyond_l1,e_s_WaysIn s area fr h hn,e_s_RoutesWithin s c fr h hn (by omega),e_s_RoutesBeyond s A true fr h hn ha]
  refine (iter_uptox 6 (fun i D=>[.l (D.map eRcd),ii (i+1)]) (fun D i=>D++(tellR (waysIn s area fr) area fr (within s c fr++if area=0 then [] else beyond s A true fr) ((i:Int)+1)).toList) (fun D=>some [T.l (D.map eRcd)]) [] (fun i D=>D.length≤i) rfl (rounds_lt (by omega)) (by simp) ?_ ?_).trans ?_
  ·intro i D hi hD
   have hi':(i:Int)+1≤6:=by omega
   have hT:=hT ((i:Int)+1)
   have hU:=hU ((i:Int)+1)
   have hV:=hV ((i:Int)+1)
   refine ⟨by cases tellR (waysIn s area fr) area fr (within s c fr++if area=0 then [] else beyond s A true fr) ((i:Int)+1) <;> simp <;> omega,fun q=>?_⟩
   have hlit:∀ c:Int,Prim.ev (.lit 8 [true,true,true,true,true,false,true,true]) [ii area,ii 2,ii fr,ii ((i:Int)+1),ii 0,.l [],ii c,bb false]=some (.l ([(⟨area,2,fr,(i:Int)+1,0,[],c,false⟩:Rcd)].map eRcd)):=fun c=>lit_Rcd area 2 fr ((i:Int)+1) 0 [] c false
   unfold tellR tellC
   have hz:(wayO (waysIn s area fr) ((i:Int)+1)).isSome=true↔¬ wayP (waysIn s area fr) ((i:Int)+1) < 0:=wayO_has _ _
   cases hh:wayO (waysIn s area fr) ((i:Int)+1) with
   | some w =>
    rw [hh] at hT hz
    have k1:¬ wayP (waysIn s area fr) ((i:Int)+1) < 0:=hz.1 rfl
    simp only [eWay,List.cons_append,List.nil_append] at hT
    rw [if_neg (by simp [k1])]
    simp (disch:=omega) only [↓pq,↓pj,ps,pz,↓reduceIte,reduceLE,reduceLT,reduceEq,reduceGT,reduceGE,reduceAdd,reduceSub,reduceMul,reduceNeg,G_s_Beyond_l0,G_s_Beyond_l1,hi',hT,Option.toList_none,List.append_nil]
   | none =>
    rw [hh] at hT hz
    have k1:wayP (waysIn s area fr) ((i:Int)+1) < 0:=by
     rcases Int.lt_or_le (wayP (waysIn s area fr) ((i:Int)+1)) 0 with h | h
     ·exact h
     ·have:=hz.2 (by omega);cases this
    simp only [] at hT
    by_cases k2:(i:Int)+1=fr
    ·rw [if_neg (by simp [k2])]
     subst k2
     simp (disch:=omega) only [↓pq,↓pj,ps,pz,↓reduceIte,reduceLE,reduceLT,reduceEq,reduceGT,reduceGE,reduceAdd,reduceSub,reduceMul,reduceNeg,G_s_Beyond_l0,G_s_Beyond_l1,hi',hT,eq_self,Option.toList_none,List.append_nil,Bool.false_eq_true]
    rw [if_pos (by simp [k1,k2]),wayO_append]
    cases hu:wayO (within s c fr) ((i:Int)+1) with
    | some w =>
     rw [hu] at hU
     have hwt:=(wayO_some hu).2
     simp only [eWay,List.cons_append,List.nil_append] at hU
     rw [Option.some_or]
     simp only [Option.map_some,Option.toList_some,recOf,hwt]
     simp (disch:=omega) only [↓pq,↓pj,ps,pz,↓reduceIte,reduceLE,reduceLT,reduceEq,reduceGT,reduceGE,reduceAdd,reduceSub,reduceMul,reduceNeg,G_s_Beyond_l0,G_s_Beyond_l1,hi',hT,hU,k2,Bool.false_eq_true,hlit]
    | none =>
     rw [hu] at hU
     simp only [] at hU
     rw [Option.none_or]
     by_cases k3:area=0
     ·rw [if_pos k3]
      subst k3
      rw [show wayO [] ((i:Int)+1)=none from rfl]
      simp (disch:=omega) only [↓pq,↓pj,ps,pz,↓reduceIte,reduceLE,reduceLT,reduceEq,reduceGT,reduceGE,reduceAdd,reduceSub,reduceMul,reduceNeg,G_s_Beyond_l0,G_s_Beyond_l1,hi',hT,hU,k2,eq_self,Bool.false_eq_true,Option.map_none,Option.toList_none,List.append_nil]
     ·rw [if_neg k3]
      cases hv:wayO (beyond s A true fr) ((i:Int)+1) with
      | none =>
       rw [hv] at hV
       simp only [] at hV
       simp (disch:=omega) only [↓pq,↓pj,ps,pz,↓reduceIte,reduceLE,reduceLT,reduceEq,reduceGT,reduceGE,reduceAdd,reduceSub,reduceMul,reduceNeg,G_s_Beyond_l0,G_s_Beyond_l1,hi',hT,hU,hV,k2,k3,Bool.false_eq_true,Option.map_none,Option.toList_none,List.append_nil]
      | some w =>
       rw [hv] at hV
       have hwt:=(wayO_some hv).2
       simp only [eWay,List.cons_append,List.nil_append] at hV
       simp only [Option.map_some,Option.toList_some,recOf,hwt]
       simp (disch:=omega) only [↓pq,↓pj,ps,pz,↓reduceIte,reduceLE,reduceLT,reduceEq,reduceGT,reduceGE,reduceAdd,reduceSub,reduceMul,reduceNeg,G_s_Beyond_l0,G_s_Beyond_l1,hi',hT,hU,hV,k2,k3,Bool.false_eq_true,hlit]
  ·intro D q hD
   simp (disch:=omega) only [↓pq,↓pj,ps,pz,↓reduceIte,reduceLE,reduceLT,reduceEq,reduceGT,reduceGE,reduceAdd,reduceSub,reduceMul,reduceNeg,G_s_Beyond_l0,G_s_Beyond_l1,]
  ·rw [foldl_flat (fun i:Nat=>(tellR (waysIn s area fr) area fr (within s c fr++if area=0 then [] else beyond s A true fr) ((i:Int)+1)).toList),List.nil_append,fm_flat]
   unfold toldB
   rw [six_map,List.filterMap_map]
   rfl
 ·rw [foldl_filter,List.nil_append,if_pos (by have:=List.length_filter_le (fun a=>!(a == area)) A;omega)]
  rfl
end Go.Proofs.YtlofiplkmgmnfaaC

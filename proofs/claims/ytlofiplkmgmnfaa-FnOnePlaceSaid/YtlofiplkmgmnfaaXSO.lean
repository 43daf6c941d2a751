/- All routes of a store, by both programs. Conditions: none. -/
import Derived.Test.YtlofiplkmgmnfaaXSN
namespace Go.Proofs.YtlofiplkmgmnfaaC
open Int (reduceLE reduceLT reduceEq reduceGT reduceGE reduceAdd reduceSub reduceMul reduceNeg)
set_option linter.unusedVariables false
set_option linter.unusedSimpArgs false
def upto (n:Nat):List Int:=(List.range n).map fun i:Nat=>(i:Int)+1
theorem mem_upto {n:Nat} {x:Int}:x∈upto n↔1≤x∧x≤n:=by
 unfold upto
 rw [List.mem_map]
 constructor
 ·rintro ⟨i,hi,rfl⟩
  have:=List.mem_range.1 hi
  omega
 ·intro h
  exact ⟨(x - 1).toNat,List.mem_range.2 (by omega),by omega⟩
theorem upto_asc (n:Nat):(upto n).Pairwise (· < ·):=by
 unfold upto
 rw [List.pairwise_map]
 exact List.pairwise_lt_range.imp fun {a b} h=>by omega
theorem asc_upto {n:Nat} {l:List Int} (h:l.Pairwise (· < ·)) (hm:∀ x∈l,1≤x∧x≤n):l=(upto n).filter fun x=>l.contains x :=
 asc_ext h ((upto_asc n).filter _) fun x=>by
  rw [List.mem_filter,mem_upto,List.contains_iff_mem]
  exact ⟨fun hx=>⟨hm x hx,hx⟩,fun hx=>hx.2⟩
theorem asc_len {n:Nat} {l:List Int} (h:l.Pairwise (· < ·)) (hm:∀ x∈l,1≤x∧x≤n):l.length≤n:=by
 rw [asc_upto h hm]
 refine Nat.le_trans (List.length_filter_le _ _) ?_
 unfold upto
 simp
theorem asc_fm {α:Type} {n:Nat} {l:List Int} (h:l.Pairwise (· < ·)) (hm:∀ x∈l,1≤x∧x≤n) (f:Int→Option α) (hf:∀ x,x ∉ l→f x=none):l.filterMap f=(upto n).filterMap f:=by
 conv=>lhs;rw [asc_upto h hm]
 rw [List.filterMap_filter]
 refine congrArg (fun g=>List.filterMap g (upto n)) (funext fun x=>?_)
 cases hc:l.contains x with
 | true=>rfl
 | false =>
  rw [hf x (fun hx=>by rw [List.contains_iff_mem.2 hx] at hc;cases hc)]
  rfl
theorem iter_with {c:List Int} (h:c.Pairwise (· < ·)) (hl:c.length≤1000) (n:Int) {F:Sem1→Sem1} {s:Sem1} {st:List T} (hst:st=[ii 0])
  (h1:∀ (k:Nat) (w:Sem1),(k:Int) < c.length→gt c (k:Int) < n→F w [ii k]=w [ii ((k:Int)+1)])
  (h2:∀ (k:Nat) (w:Sem1),(k:Int) < c.length→gt c (k:Int)=n→F w [ii k]=s [.l (c.map eInt)])
  (h3:∀ (k:Nat) (w:Sem1),(k:Int) < c.length→¬ gt c (k:Int) < n→gt c (k:Int)≠n→F w [ii k]=s [.l ((c.take k++([n]++c.drop k)).map eInt)])
  (h4:∀ (k:Nat) (w:Sem1),¬ (k:Int) < c.length→k≤c.length→F w [ii k]=s [.l ((c.take k++([n]++c.drop k)).map eInt)]) :
  iter F rounds st=s [.l ((insI c n).map eInt)]:=by
 have hle:=cntI_le c n
 obtain ⟨c1,c2,c3⟩:=cntI_split h n
 refine iter_while (fun k=>[ii k]) (cntI c n) hst (rounds_lt (by omega)) ?_ ?_
 ·intro k hk w
  exact h1 k w (by omega) (by rw [gt_elem (by omega)];exact (c3 k (by omega)).2 (by omega))
 ·intro w
  by_cases hlt:cntI c n < c.length
  ·have hk2:¬ (gt c ((cntI c n:Nat):Int) < n):=by rw [gt_elem hlt];intro hc';have:=(c3 _ hlt).1 hc';omega
   have hk3:=cntI_at h hlt
   by_cases hin:n∈c
   ·rw [insI_in h hin]
    exact h2 _ w (by omega) (hk3.2 hin)
   ·rw [insI_cut h hin]
    exact h3 _ w (by omega) hk2 (fun e=>hin (hk3.1 e))
  ·rw [insI_cut h (cntI_notin h hlt)]
   exact h4 _ w (by omega) hle
theorem with_keys {c:List Int} (h:c.Pairwise (· < ·)) (hl:c.length≤1000) (n:Int) (q:Sem1) :
  iter (G_i_RoutesOf_l1 F_i_copyInts (.l (c.map eInt)) (ii n) q) rounds [ii 0]=q [.l ((insI c n).map eInt)]:=by
 refine iter_with h hl n rfl ?_ ?_ ?_ ?_
 ·intro k w hk1 hk2
  simp (disch:=omega) only [↓pq,↓pj,ps,pz,↓reduceIte,reduceLE,reduceLT,reduceEq,reduceGT,reduceGE,reduceAdd,reduceSub,reduceMul,reduceNeg,G_i_RoutesOf_l0,G_i_RoutesOf_l1,G_i_RoutesOf_l2,G_i_RoutesOf_l3,G_i_RoutesOf_l4,hk1,hk2]
 ·intro k w hk1 hk2
  have hk3:¬ n < n:=by omega
  simp (disch:=omega) only [↓pq,↓pj,ps,pz,↓reduceIte,reduceLE,reduceLT,reduceEq,reduceGT,reduceGE,reduceAdd,reduceSub,reduceMul,reduceNeg,G_i_RoutesOf_l0,G_i_RoutesOf_l1,G_i_RoutesOf_l2,G_i_RoutesOf_l3,G_i_RoutesOf_l4,hk1,hk2,hk3]
 ·intro k w hk1 hk2 hk3
  simp (disch:=omega) only [↓pq,↓pj,ps,pz,↓reduceIte,reduceLE,reduceLT,reduceEq,reduceGT,reduceGE,reduceAdd,reduceSub,reduceMul,reduceNeg,G_i_RoutesOf_l0,G_i_RoutesOf_l1,G_i_RoutesOf_l2,G_i_RoutesOf_l3,G_i_RoutesOf_l4,hk1,hk2,hk3,e_i_copyInts _ (show (c.take k).length≤1048576 by simp;omega)]
  rw [app1_Int_true (by simp;omega),bind_some',app_Int_true (by simp;omega),bind_some',List.append_assoc]
 ·intro k w hk1 hk2
  simp (disch:=omega) only [↓pq,↓pj,ps,pz,↓reduceIte,reduceLE,reduceLT,reduceEq,reduceGT,reduceGE,reduceAdd,reduceSub,reduceMul,reduceNeg,G_i_RoutesOf_l0,G_i_RoutesOf_l1,G_i_RoutesOf_l2,G_i_RoutesOf_l3,G_i_RoutesOf_l4,hk1,e_i_copyInts _ (show (c.take k).length≤1048576 by simp;omega)]
  rw [app1_Int_true (by simp;omega),bind_some',app_Int_true (by simp;omega),bind_some',List.append_assoc]
theorem waysIn_fr {s:List Rcd} {ar fr:Int} {w:Way} (hw:w∈waysIn s ar fr):∃ v∈waysIn s ar fr,v.to=fr:=by
 unfold waysIn at hw ⊢
 by_cases hc:storeOk s=true∧inB fr 1 6=true∧0≤nodeP s ar fr
 ·rw [if_pos hc] at hw ⊢
  obtain ⟨D,hI⟩:=dij_inv hc.1 ar fr 6 (W0 fr) [] (DInv.start (inB_iff.1 hc.2.1))
  have hl:=hI.ok.len
  obtain ⟨h1,h2⟩:=List.mem_filter.1 hw
  have h2:w.to≠0:=by simpa using h2
  obtain ⟨i,hi,rfl⟩:=List.mem_iff_getElem.1 h1
  have hto:=hI.ok.to (i:Int) (by omega) (by omega)
  rw [gt_elem hi] at hto
  have hto:=hto.resolve_left h2
  rcases hI.first with ⟨_,hf⟩ | hf
  ·have hge:=hI.fr6
   have:=hf (i:Int) (by omega) (by omega) (by rw [gt_elem hi];exact h2)
   exact ⟨_,hw,by rw [hto,this]⟩
  ·have h3:=hI.mem fr hf
   have h4:=hI.fr6
   have h5:=(hI.ok.to fr (by omega) (by omega)).resolve_left h3.2
   refine ⟨_,List.mem_filter.2 ⟨gt_mem (n:=fr) (by omega) (by omega),?_⟩,h5⟩
   simpa using h3.2
 ·rw [if_neg hc] at hw;cases hw
theorem wayP_has {l:List Way} {w:Way} (h:w∈l):¬ wayP l w.to < 0:=by
 intro hc
 have:=(findP_none _ _).1 hc w h
 simp at this
theorem within_has {s:List Rcd} {A:List Int} {fr:Int} {v:Way} (h:v∈cand s A fr):¬ wayP (within s A fr) v.to < 0:=by
 rcases togs_best (v:=v.to) _ ((cand s A fr).filter fun w=>w.to == v.to) rfl (fun y hy=>by have:=List.mem_filter.1 hy;exact ⟨by simpa using this.2,(cand_ok y this.1).2.1⟩) with ⟨e,_⟩ | ⟨b,e,hb,_⟩
 ·have:v∈(cand s A fr).filter fun w=>w.to == v.to:=List.mem_filter.2 ⟨h,by simp⟩
  rw [e] at this;cases this
 ·have hm:b∈within s A fr:=(wlst_mem (fun x hx=>(cand_ok x hx).2.1)).2 ⟨by rw [hb];exact (cand_ok v h).1,by rw [hb];exact e⟩
  rw [← hb]
  exact wayP_has hm
theorem beyond_ok {s:List Rcd} {A:List Int} {z:Bool} {fr:Int} {w:Way} (h:w∈beyond s A z fr):(1≤w.to∧w.to≤6)∧HopsOk w.hops∧(0≤w.cost∧w.cost < 60000)∧w.to≠fr∧wayP (within s A fr) w.to < 0:=by
 have h1:=wlst_hops (fun x hx=>(beyondC_ok x hx).2.1) h
 obtain ⟨hh,y,hy,e1,e2⟩:=h1
 have h2:=beyondC_ok y hy
 obtain ⟨x,hx,h3⟩:=List.mem_filterMap.1 hy
 obtain ⟨h4,y',h5,h6,h7⟩:=recB_some h3
 have hk:x.key=w.to:=by rw [← e1,h7]
 refine ⟨by rw [← e1];exact h2.1,hh,by rw [← e2];exact h2.2.2,?_,by rw [← hk];exact h4.2.2.2.2.2⟩
 intro e
 obtain ⟨v,hv,ev⟩:=waysIn_fr (wayO_some h5).1
 have hc:v∈cand s A fr:=List.mem_flatMap.2 ⟨x.area,List.contains_iff_mem.1 h4.2.2.2.1,hv⟩
 have h8:=within_has hc
 have he:v.to=x.key:=by omega
 rw [he] at h8
 exact h8 h4.2.2.2.2.2
theorem within_ok {s:List Rcd} {A:List Int} {fr:Int} {w:Way} (h:w∈within s A fr):(1≤w.to∧w.to≤6)∧HopsOk w.hops∧(0≤w.cost∧w.cost≤6000):=by
 obtain ⟨hh,y,hy,e1,e2⟩:=wlst_hops (fun x hx=>(cand_ok x hx).2.1) h
 have:=cand_ok y hy
 exact ⟨by rw [← e1];exact this.1,hh,by rw [← e2];exact this.2.2⟩
theorem withinG {s:List Rcd} {A:List Int} {fr:Int}:WaysG (within s A fr):=⟨Nat.le_trans within_len (by omega),fun w hw=>by
 have:=within_ok hw
 exact ⟨this.2.1,this.2.2.1,by omega⟩⟩
theorem beyond_len {s:List Rcd} {A:List Int} {z:Bool} {fr:Int}:(beyond s A z fr).length≤6:=wlst_len _
theorem beyondG {s:List Rcd} {A:List Int} {z:Bool} {fr:Int}:WaysG (beyond s A z fr):=⟨Nat.le_trans beyond_len (by omega),fun w hw=>by
 have:=beyond_ok hw
 exact ⟨this.2.1,this.2.2.1.1,by omega⟩⟩
def rWith (w:Way):Route:=⟨false,w.to,1,w.cost,0,w.hops⟩
def rBey (w:Way):Route:=⟨false,w.to,2,w.cost,0,w.hops⟩
def routesOf (s:List Rcd) (A:List Int) (z:Bool) (fr:Int):List Route :=
 ((within s A fr).filter fun w=>!(w.to == fr)).map rWith++(beyond s A z fr).map rBey++(upto 9).filterMap fun k=>thingR s (within s A fr++beyond s A z fr) k fr
theorem rec3_ok {s:List Rcd} (hs:storeOk s=true) {x:Rcd} (hx:x∈s) (h:x.kind=3):1≤x.key∧x.key≤9:=by
 have:=storeOk_all hs hx
 unfold recOk at this
 rw [if_neg (by omega),if_neg (by omega),if_pos h] at this
 simp only [Bool.and_eq_true,inB_iff] at this
 exact this.2.1.1.2
theorem thingR_none {s:List Rcd} {W:List Way} {key fr:Int} (h:∀ x∈s,¬ (x.kind=3∧x.key=key∧x.cost < 60000)):thingR s W key fr=none:=by
 have h1:∀ l:List Rcd,(∀ x∈l,x∈s)→l.foldl (stepN W key fr) none=none∧l.foldl (stepF W key fr) none=none:=by
  intro l hl
  induction l with
  | nil=>exact ⟨rfl,rfl⟩
  | cons x l ih =>
   have hx:thC W key fr x=none:=by unfold thC;rw [if_neg (h x (hl x (.head _)))]
   have e1:stepN W key fr none x=none:=by unfold stepN;rw [hx];simp
   have e2:stepF W key fr none x=none:=by unfold stepF;rw [hx];simp
   rw [List.foldl_cons,List.foldl_cons,e1,e2]
   exact ih fun y hy=>hl y (.tail _ hy)
 unfold thingR nearB farB
 rw [(h1 s fun _ h=>h).1,(h1 s fun _ h=>h).2]
def thKeys (s:List Rcd):List Int:=s.foldl (fun c x=>if x.kind=3∧x.cost < 60000 then insI c x.key else c) []
theorem foldl_keys (s:List Rcd) (c:List Int) (hc:c.Pairwise (· < ·)):let K:=s.foldl (fun c x=>if x.kind=3∧x.cost < 60000 then insI c x.key else c) c;K.Pairwise (· < ·)∧∀ k,k∈K↔k∈c∨∃ x∈s,(x.kind=3∧x.cost < 60000)∧x.key=k:=by
 induction s generalizing c with
 | nil=>exact ⟨hc,by simp⟩
 | cons x s ih =>
  rw [List.foldl_cons]
  by_cases h:x.kind=3∧x.cost < 60000
  ·rw [if_pos h]
   obtain ⟨h1,h2⟩:=ih _ (insI_asc hc x.key)
   refine ⟨h1,fun k=>?_⟩
   rw [h2,mem_insI]
   simp only [List.mem_cons]
   constructor
   ·rintro ((e | e) | ⟨y,hy,e⟩)
    ·exact .inr ⟨x,.inl rfl,h,e.symm⟩
    ·exact .inl e
    ·exact .inr ⟨y,.inr hy,e⟩
   ·rintro (e | ⟨y,rfl | hy,e⟩)
    ·exact .inl (.inr e)
    ·exact .inl (.inl e.2.symm)
    ·exact .inr ⟨y,hy,e⟩
  ·rw [if_neg h]
   obtain ⟨h1,h2⟩:=ih _ hc
   refine ⟨h1,fun k=>?_⟩
   rw [h2]
   simp only [List.mem_cons]
   constructor
   ·rintro (e | ⟨y,hy,e⟩)
    ·exact .inl e
    ·exact .inr ⟨y,.inr hy,e⟩
   ·rintro (e | ⟨y,rfl | hy,e⟩)
    ·exact .inl e
    ·exact absurd e.1 h
    ·exact .inr ⟨y,hy,e⟩
theorem thKeys_ok {s:List Rcd} (hs:storeOk s=true):(thKeys s).Pairwise (· < ·)∧(∀ k∈thKeys s,1≤k∧k≤9)∧∀ k,k ∉ thKeys s→∀ W fr,thingR s W k fr=none:=by
 obtain ⟨h1,h2⟩:=foldl_keys s [] .nil
 refine ⟨h1,fun k hk=>?_,fun k hk W fr=>thingR_none fun x hx hc=>hk ?_⟩
 ·rcases (h2 k).1 hk with h | ⟨x,hx,h,rfl⟩
  ·cases h
  ·exact rec3_ok hs hx h.1
 ·exact (h2 k).2 (.inr ⟨x,hx,⟨hc.1,hc.2.2⟩,hc.2.1⟩)
theorem e_i_RoutesOf (s:List Rcd) (A:List Int) (z:Bool) (fr:Int) (h:s.length≤1048576) (hn:NearL s) (hs:storeOk s=true) (ha:A.length≤1048576):F_i_RoutesOf [.l (s.map eRcd),.l (A.map eInt),bb z,ii fr]=some [.l ((routesOf s A z fr).map eRoute)]:=by
 have hwl:=within_len (s:=s) (A:=A) (fr:=fr)
 have hbl:=beyond_len (s:=s) (A:=A) (z:=z) (fr:=fr)
 rw [g_i_RoutesOf];simp (disch:=omega) only [↓pq,↓pj,ps,pz,↓reduceIte,reduceLE,reduceLT,reduceEq,reduceGT,reduceGE,reduceAdd,reduceSub,reduceMul,reduceNeg,G_i_RoutesOf_l0,G_i_RoutesOf_l1,G_i_RoutesOf_l2,G_i_RoutesOf_l3,G_i_RoutesOf_l4,G_i_RoutesOf,e_i_RoutesWithin _ _ _ h hn ha,e_i_RoutesBeyond _ _ _ _ h hn ha]
 refine (iter_foldlx (within s A fr) (fun j C=>[.l (C.map eRoute),ii j,.l ((within s A fr).map eWay)]) (fun C w=>if (!(w.to == fr))=true then C++[rWith w] else C) (fun C=>some [T.l ((C++(beyond s A z fr).map rBey++(upto 9).filterMap fun k=>thingR s (within s A fr++beyond s A z fr) k fr).map eRoute)]) [] (fun j C=>C.length≤j) rfl (rounds_lt (by omega)) (by simp) ?_ ?_).trans (by rw [foldl_keep,List.nil_append];rfl)
 ·intro j C hj hC
  have hm:=within_ok (gt_mem (l:=within s A fr) (n:=(j:Int)) (by omega) hj)
  have hcp:=e_i_copyInts (gt (within s A fr) (j:Int)).hops (by have:=hops_len hm.2.1;omega)
  refine ⟨by split;(· simp;omega);(· omega),fun q=>?_⟩
  by_cases k:(gt (within s A fr) (j:Int)).to=fr
  ·have:(!((gt (within s A fr) (j:Int)).to == fr))=false:=by simpa using k
   rw [this]
   simp (disch:=omega) only [↓pq,↓pj,ps,pz,↓reduceIte,reduceLE,reduceLT,reduceEq,reduceGT,reduceGE,reduceAdd,reduceSub,reduceMul,reduceNeg,G_i_RoutesOf_l0,G_i_RoutesOf_l1,G_i_RoutesOf_l2,G_i_RoutesOf_l3,G_i_RoutesOf_l4,hj,k,Bool.false_eq_true]
  ·have:(!((gt (within s A fr) (j:Int)).to == fr))=true:=by simpa using k
   rw [this]
   simp (disch:=omega) only [↓pq,↓pj,ps,pz,↓reduceIte,reduceLE,reduceLT,reduceEq,reduceGT,reduceGE,reduceAdd,reduceSub,reduceMul,reduceNeg,G_i_RoutesOf_l0,G_i_RoutesOf_l1,G_i_RoutesOf_l2,G_i_RoutesOf_l3,G_i_RoutesOf_l4,hj,k,hcp,rWith]
 ·intro C q hC
  have hC6:C.length≤6:=by omega
  simp (disch:=omega) only [↓pq,↓pj,ps,pz,↓reduceIte,reduceLE,reduceLT,reduceEq,reduceGT,reduceGE,reduceAdd,reduceSub,reduceMul,reduceNeg,G_i_RoutesOf_l0,G_i_RoutesOf_l1,G_i_RoutesOf_l2,G_i_RoutesOf_l3,G_i_RoutesOf_l4,]
  refine (iter_foldlx (beyond s A z fr) (fun j C=>[.l (C.map eRoute),ii j,.l ((beyond s A z fr).map eWay)]) (fun C w=>C++[rBey w]) (fun C=>some [T.l ((C++(upto 9).filterMap fun k=>thingR s (within s A fr++beyond s A z fr) k fr).map eRoute)]) C (fun j C=>C.length≤6+j) rfl (rounds_lt (by omega)) (by omega) ?_ ?_).trans (by rw [foldl_map])
  ·intro j C hj hC
   have hm:=beyond_ok (gt_mem (l:=beyond s A z fr) (n:=(j:Int)) (by omega) hj)
   have hcp:=e_i_copyInts (gt (beyond s A z fr) (j:Int)).hops (by have:=hops_len hm.2.1;omega)
   refine ⟨by simp;omega,fun q=>?_⟩
   simp (disch:=omega) only [↓pq,↓pj,ps,pz,↓reduceIte,reduceLE,reduceLT,reduceEq,reduceGT,reduceGE,reduceAdd,reduceSub,reduceMul,reduceNeg,G_i_RoutesOf_l0,G_i_RoutesOf_l1,G_i_RoutesOf_l2,G_i_RoutesOf_l3,G_i_RoutesOf_l4,hj,hcp,rBey]
  ·intro C q hC
   have hC12:C.length≤12:=by omega
   obtain ⟨t1,t2,t3⟩:=thKeys_ok hs
   have ht9:(thKeys s).length≤9:=asc_len t1 t2
   simp (disch:=omega) only [↓pq,↓pj,ps,pz,↓reduceIte,reduceLE,reduceLT,reduceEq,reduceGT,reduceGE,reduceAdd,reduceSub,reduceMul,reduceNeg,G_i_RoutesOf_l0,G_i_RoutesOf_l1,G_i_RoutesOf_l2,G_i_RoutesOf_l3,G_i_RoutesOf_l4,]
   refine (iter_foldlx s (fun j c=>[.l (c.map eInt),ii j]) (fun c x=>if x.kind=3∧x.cost < 60000 then insI c x.key else c) (fun K=>some [T.l ((C++K.filterMap fun k=>thingR s (within s A fr++beyond s A z fr) k fr).map eRoute)]) [] (fun j c=>c.Pairwise (· < ·)∧∀ x∈c,1≤x∧x≤((9:Nat):Int)) rfl (rounds_lt h) ⟨.nil,by simp⟩ ?_ ?_).trans (by rw [← asc_fm t1 t2 _ (fun k hk=>t3 k hk _ _)];rfl)
   ·rintro j c hj ⟨c1,c2⟩
    have c9:=asc_len c1 c2
    have hm:=gt_mem (l:=s) (n:=(j:Int)) (by omega) hj
    by_cases k1:(gt s j).kind=3
    ·have k3:=rec3_ok hs hm k1
     by_cases k2:(gt s j).cost < 60000
     ·rw [if_pos ⟨k1,k2⟩]
      refine ⟨⟨insI_asc c1 _,fun x hx=>by rcases mem_insI.1 hx with rfl | hx;exact k3;exact c2 x hx⟩,fun q=>?_⟩
      simp (disch:=omega) only [↓pq,↓pj,ps,pz,↓reduceIte,reduceLE,reduceLT,reduceEq,reduceGT,reduceGE,reduceAdd,reduceSub,reduceMul,reduceNeg,G_i_RoutesOf_l0,G_i_RoutesOf_l1,G_i_RoutesOf_l2,G_i_RoutesOf_l3,G_i_RoutesOf_l4,hj,k1,k2]
      refine (with_keys c1 (by omega) _ _).trans ?_
      simp (disch:=omega) only [↓pq,↓pj,ps,pz,↓reduceIte,reduceLE,reduceLT,reduceEq,reduceGT,reduceGE,reduceAdd,reduceSub,reduceMul,reduceNeg,G_i_RoutesOf_l0,G_i_RoutesOf_l1,G_i_RoutesOf_l2,G_i_RoutesOf_l3,G_i_RoutesOf_l4,]
     ·rw [if_neg (fun h=>k2 h.2)]
      refine ⟨⟨c1,c2⟩,fun q=>?_⟩
      simp (disch:=omega) only [↓pq,↓pj,ps,pz,↓reduceIte,reduceLE,reduceLT,reduceEq,reduceGT,reduceGE,reduceAdd,reduceSub,reduceMul,reduceNeg,G_i_RoutesOf_l0,G_i_RoutesOf_l1,G_i_RoutesOf_l2,G_i_RoutesOf_l3,G_i_RoutesOf_l4,hj,k1,k2]
    ·rw [if_neg (fun h=>k1 h.1)]
     refine ⟨⟨c1,c2⟩,fun q=>?_⟩
     simp (disch:=omega) only [↓pq,↓pj,ps,pz,↓reduceIte,reduceLE,reduceLT,reduceEq,reduceGT,reduceGE,reduceAdd,reduceSub,reduceMul,reduceNeg,G_i_RoutesOf_l0,G_i_RoutesOf_l1,G_i_RoutesOf_l2,G_i_RoutesOf_l3,G_i_RoutesOf_l4,hj,k1]
   ·rintro K q ⟨c1,c2⟩
    have c9:=asc_len c1 c2
    simp (disch:=omega) only [↓pq,↓pj,ps,pz,↓reduceIte,reduceLE,reduceLT,reduceEq,reduceGT,reduceGE,reduceAdd,reduceSub,reduceMul,reduceNeg,G_i_RoutesOf_l0,G_i_RoutesOf_l1,G_i_RoutesOf_l2,G_i_RoutesOf_l3,G_i_RoutesOf_l4,]
    refine (iter_foldlx K (fun j D=>[.l (D.map eRoute),ii j]) (fun D k=>D++(thingR s (within s A fr++beyond s A z fr) k fr).toList) (fun D=>some [T.l (D.map eRoute)]) C (fun j D=>D.length≤12+j) rfl (rounds_lt (by omega)) (by omega) ?_ ?_).trans (by rw [foldl_flat,fm_flat])
    ·intro j D hj hD
     have hT:=e_i_thing s (within s A fr++beyond s A z fr) (gt K j) fr h hs (WaysG.app (by omega) (by omega) withinG beyondG)
     cases hr:thingR s (within s A fr++beyond s A z fr) (gt K j) fr with
     | none =>
      rw [hr] at hT
      simp only [] at hT
      refine ⟨by simp;omega,fun q=>?_⟩
      simp (disch:=omega) only [↓pq,↓pj,ps,pz,↓reduceIte,reduceLE,reduceLT,reduceEq,reduceGT,reduceGE,reduceAdd,reduceSub,reduceMul,reduceNeg,G_i_RoutesOf_l0,G_i_RoutesOf_l1,G_i_RoutesOf_l2,G_i_RoutesOf_l3,G_i_RoutesOf_l4,hj,hT,Bool.false_eq_true,Option.toList_none,List.append_nil]
     | some r =>
      rw [hr] at hT
      simp only [eRoute,List.cons_append,List.nil_append] at hT
      refine ⟨by simp;omega,fun q=>?_⟩
      simp (disch:=omega) only [↓pq,↓pj,ps,pz,↓reduceIte,reduceLE,reduceLT,reduceEq,reduceGT,reduceGE,reduceAdd,reduceSub,reduceMul,reduceNeg,G_i_RoutesOf_l0,G_i_RoutesOf_l1,G_i_RoutesOf_l2,G_i_RoutesOf_l3,G_i_RoutesOf_l4,hj,hT,Option.toList_some]
    ·intro D q hD
     simp (disch:=omega) only [↓pq,↓pj,ps,pz,↓reduceIte,reduceLE,reduceLT,reduceEq,reduceGT,reduceGE,reduceAdd,reduceSub,reduceMul,reduceNeg,G_i_RoutesOf_l0,G_i_RoutesOf_l1,G_i_RoutesOf_l2,G_i_RoutesOf_l3,G_i_RoutesOf_l4,]
theorem foldl_okO {W:List Way} (hW:WaysG W) {key fr:Int} (l:List Rcd) (o:Option Way) (ho:OkO o):OkO (l.foldl (stepN W key fr) o):=by
 induction l generalizing o with
 | nil=>exact ho
 | cons x l ih=>exact ih _ (stepN_ok hW ho x)
theorem foldl_okF {W:List Way} (hW:WaysG W) {key fr:Int} (l:List Rcd) (o:Option (Int × Way)) (ho:OkF o):OkF (l.foldl (stepF W key fr) o):=by
 induction l generalizing o with
 | nil=>exact ho
 | cons x l ih=>exact ih _ (stepF_ok hW ho x)
theorem lit_RouteS (v0:Bool) (v1:Int) (v2:Int) (v3:Int) (v4:Int) (v5:List Int):Prim.ev (.lit 6 []) [bb v0,ii v1,ii v2,ii v3,ii v4,.l (v5.map eInt)]=some (.l ([(⟨v0,v1,v2,v3,v4,v5⟩:Route)].map eRoute)):=ev_lit1 (by decide) rfl rfl
theorem e_s_RoutesOf (s:List Rcd) (A:List Int) (z:Bool) (fr:Int) (h:s.length≤1048576) (hn:NearL s) (hs:storeOk s=true) (ha:A.length≤1048576):F_s_RoutesOf [.l (s.map eRcd),.l (A.map eInt),bb z,ii fr]=some [.l ((routesOf s A z fr).map eRoute)]:=by
 have hwl:=within_len (s:=s) (A:=A) (fr:=fr)
 have hbl:=beyond_len (s:=s) (A:=A) (z:=z) (fr:=fr)
 rw [g_s_RoutesOf];simp (disch:=omega) only [↓pq,↓pj,ps,pz,↓reduceIte,reduceLE,reduceLT,reduceEq,reduceGT,reduceGE,reduceAdd,reduceSub,reduceMul,reduceNeg,G_s_RoutesOf_l0,G_s_RoutesOf_l1,G_s_RoutesOf_l2,G_s_RoutesOf,e_s_RoutesWithin _ _ _ h hn ha,e_s_RoutesBeyond _ _ _ _ h hn ha,e_s_StoreOk _ h hn,hs]
 refine (iter_foldlx (within s A fr) (fun j C=>[.l (C.map eRoute),ii j]) (fun C w=>if (!(w.to == fr))=true then C++[rWith w] else C) (fun C=>some [T.l ((C++(beyond s A z fr).map rBey++(upto 9).filterMap fun k=>thingR s (within s A fr++beyond s A z fr) k fr).map eRoute)]) [] (fun j C=>C.length≤j) rfl (rounds_lt (by omega)) (by simp) ?_ ?_).trans (by rw [foldl_keep,List.nil_append];rfl)
 ·intro j C hj hC
  have hm:=within_ok (gt_mem (l:=within s A fr) (n:=(j:Int)) (by omega) hj)
  have hl:=hops_len hm.2.1
  refine ⟨by split;(· simp;omega);(· omega),fun q=>?_⟩
  by_cases k:(gt (within s A fr) (j:Int)).to=fr
  ·have:(!((gt (within s A fr) (j:Int)).to == fr))=false:=by simpa using k
   rw [this]
   simp (disch:=omega) only [↓pq,↓pj,ps,pz,↓reduceIte,reduceLE,reduceLT,reduceEq,reduceGT,reduceGE,reduceAdd,reduceSub,reduceMul,reduceNeg,G_s_RoutesOf_l0,G_s_RoutesOf_l1,G_s_RoutesOf_l2,hj,k,Bool.false_eq_true]
  ·have:(!((gt (within s A fr) (j:Int)).to == fr))=true:=by simpa using k
   rw [this]
   simp (disch:=omega) only [↓pq,↓pj,ps,pz,↓reduceIte,reduceLE,reduceLT,reduceEq,reduceGT,reduceGE,reduceAdd,reduceSub,reduceMul,reduceNeg,G_s_RoutesOf_l0,G_s_RoutesOf_l1,G_s_RoutesOf_l2,hj,k,lit_RouteS,rWith]
 ·intro C q hC
  have hC6:C.length≤6:=by omega
  simp (disch:=omega) only [↓pq,↓pj,ps,pz,↓reduceIte,reduceLE,reduceLT,reduceEq,reduceGT,reduceGE,reduceAdd,reduceSub,reduceMul,reduceNeg,G_s_RoutesOf_l0,G_s_RoutesOf_l1,G_s_RoutesOf_l2,]
  refine (iter_foldlx (beyond s A z fr) (fun j C=>[.l (C.map eRoute),ii j]) (fun C w=>C++[rBey w]) (fun C=>some [T.l ((C++(upto 9).filterMap fun k=>thingR s (within s A fr++beyond s A z fr) k fr).map eRoute)]) C (fun j C=>C.length≤6+j) rfl (rounds_lt (by omega)) (by omega) ?_ ?_).trans (by rw [foldl_map])
  ·intro j C hj hC
   have hm:=beyond_ok (gt_mem (l:=beyond s A z fr) (n:=(j:Int)) (by omega) hj)
   have hl:=hops_len hm.2.1
   have k:¬ (gt (beyond s A z fr) (j:Int)).to=fr:=hm.2.2.2.1
   refine ⟨by simp;omega,fun q=>?_⟩
   simp (disch:=omega) only [↓pq,↓pj,ps,pz,↓reduceIte,reduceLE,reduceLT,reduceEq,reduceGT,reduceGE,reduceAdd,reduceSub,reduceMul,reduceNeg,G_s_RoutesOf_l0,G_s_RoutesOf_l1,G_s_RoutesOf_l2,hj,k,lit_RouteS,rBey]
  ·intro C q hC
   have hC12:C.length≤12:=by omega
   simp (disch:=omega) only [↓pq,↓pj,ps,pz,↓reduceIte,reduceLE,reduceLT,reduceEq,reduceGT,reduceGE,reduceAdd,reduceSub,reduceMul,reduceNeg,G_s_RoutesOf_l0,G_s_RoutesOf_l1,G_s_RoutesOf_l2,]
   refine (iter_uptox 9 (fun i D=>[.l (D.map eRoute),ii (i+1)]) (fun D i=>D++(thingR s (within s A fr++beyond s A z fr) ((i:Int)+1) fr).toList) (fun D=>some [T.l (D.map eRoute)]) C (fun j D=>D.length≤12+j) rfl (rounds_lt (by omega)) (by omega) ?_ ?_).trans (by rw [foldl_flat (fun i:Nat=>(thingR s (within s A fr++beyond s A z fr) ((i:Int)+1) fr).toList),fm_flat])
   ·intro j D hj hD
    have hj':(j:Int)+1≤9:=by omega
    have hT1:=es_thing_near s (within s A fr) (beyond s A z fr) ((j:Int)+1) fr h hs (by omega) (by omega) withinG beyondG
    have hT2:=es_thing_far s (within s A fr) (beyond s A z fr) ((j:Int)+1) fr h hs (by omega) (by omega) withinG beyondG
    refine ⟨by cases thingR s (within s A fr++beyond s A z fr) ((j:Int)+1) fr <;> simp <;> omega,fun q=>?_⟩
    unfold thingR
    cases hb:nearB s (within s A fr++beyond s A z fr) ((j:Int)+1) fr with
    | some b =>
     have hlb:b.hops.length≤6:=hops_len ((foldl_okO (WaysG.app (by omega) (by omega) withinG beyondG) s none (by intro b hb;(cases hb))) b hb)
     rw [hb] at hT1
     simp only [] at hT1
     simp (disch:=omega) only [↓pq,↓pj,ps,pz,↓reduceIte,reduceLE,reduceLT,reduceEq,reduceGT,reduceGE,reduceAdd,reduceSub,reduceMul,reduceNeg,G_s_RoutesOf_l0,G_s_RoutesOf_l1,G_s_RoutesOf_l2,hj',hT1,Option.isSome_some,oW_some,Bool.false_eq_true,Option.toList_some]
    | none =>
     rw [hb] at hT1
     simp only [] at hT1
     cases hf:farB s (within s A fr++beyond s A z fr) ((j:Int)+1) fr with
     | none =>
      rw [hf] at hT2
      simp only [] at hT2
      simp (disch:=omega) only [↓pq,↓pj,ps,pz,↓reduceIte,reduceLE,reduceLT,reduceEq,reduceGT,reduceGE,reduceAdd,reduceSub,reduceMul,reduceNeg,G_s_RoutesOf_l0,G_s_RoutesOf_l1,G_s_RoutesOf_l2,hj',hT1,hT2,Option.isSome_none,Bool.false_eq_true,Option.toList_none,List.append_nil]
     | some lb =>
      obtain ⟨l,b⟩:=lb
      have hlb:b.hops.length≤6:=hops_len ((foldl_okF (WaysG.app (by omega) (by omega) withinG beyondG) s none (by intro c b hb;(cases hb))) l b hf)
      rw [hf] at hT2
      simp only [] at hT2
      simp (disch:=omega) only [↓pq,↓pj,ps,pz,↓reduceIte,reduceLE,reduceLT,reduceEq,reduceGT,reduceGE,reduceAdd,reduceSub,reduceMul,reduceNeg,G_s_RoutesOf_l0,G_s_RoutesOf_l1,G_s_RoutesOf_l2,hj',hT1,hT2,Option.isSome_none,Option.isSome_some,fW_some,fL_some,Bool.false_eq_true,Option.toList_some]
   ·intro D q hD
    simp (disch:=omega) only [↓pq,↓pj,ps,pz,↓reduceIte,reduceLE,reduceLT,reduceEq,reduceGT,reduceGE,reduceAdd,reduceSub,reduceMul,reduceNeg,G_s_RoutesOf_l0,G_s_RoutesOf_l1,G_s_RoutesOf_l2,]
end Go.Proofs.YtlofiplkmgmnfaaC

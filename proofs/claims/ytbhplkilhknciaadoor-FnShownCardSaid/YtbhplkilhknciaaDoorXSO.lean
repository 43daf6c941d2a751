/- All routes of a store, by both programs. Conditions: none. -/
import Derived.Test.YtbhplkilhknciaaDoorXSN
namespace Go.Proofs.YtbhplkilhknciaaDoorC
open Int (reduceLE reduceLT reduceEq reduceGT reduceGE reduceAdd reduceSub reduceMul reduceNeg)
set_option linter.unusedVariables false
set_option linter.unusedSimpArgs false
def upto (n:Nat):List Int:=(List.range n).map fun i:Nat=>(i:Int)+1
theorem mem_upto {n:Nat} {x:Int}:x∈upto n↔1≤x∧x≤n:=by
 unfold upto
 rw [List.mem_map]
 constructor
 ·rintro ⟨i,hi,rfl⟩
  have:=List.mem_range.1 hi
  omega
 ·intro h
  exact ⟨(x - 1).toNat,List.mem_range.2 (by omega),by omega⟩
theorem upto_asc (n:Nat):(upto n).Pairwise (· < ·):=by
 unfold upto
 rw [List.pairwise_map]
 exact List.pairwise_lt_range.imp fun {a b} h=>by omega
theorem asc_upto {n:Nat} {l:List Int} (h:l.Pairwise (· < ·)) (hm:∀ x∈l,1≤x∧x≤n):l=(upto n).filter fun x=>l.contains x :=
 asc_ext h ((upto_asc n).filter _) fun x=>by
  rw [List.mem_filter,mem_upto,List.contains_iff_mem]
  exact ⟨fun hx=>⟨hm x hx,hx⟩,fun hx=>hx.2⟩
theorem asc_len {n:Nat} {l:List Int} (h:l.Pairwise (· < ·)) (hm:∀ x∈l,1≤x∧x≤n):l.length≤n:=by
 rw [asc_upto h hm]
 refine Nat.le_trans (List.length_filter_le _ _) ?_
 unfold upto
 simp
theorem waysIn_fr {s:List Rcd} {ar fr:Int} {w:Way} (hw:w∈waysIn s ar fr):∃ v∈waysIn s ar fr,v.to=fr:=by
 unfold waysIn at hw ⊢
 by_cases hc:storeOk s=true∧inB fr 1 6=true∧0≤nodeP s ar fr
 ·rw [if_pos hc] at hw ⊢
  obtain ⟨D,hI⟩:=dij_inv hc.1 ar fr 6 (W0 fr) [] (DInv.start (inB_iff.1 hc.2.1))
  have hl:=hI.ok.len
  obtain ⟨h1,h2⟩:=List.mem_filter.1 hw
  have h2:w.to≠0:=by simpa using h2
  obtain ⟨i,hi,rfl⟩:=List.mem_iff_getElem.1 h1
  have hto:=hI.ok.to (i:Int) (by omega) (by omega)
  rw [gt_elem hi] at hto
  have hto:=hto.resolve_left h2
  rcases hI.first with ⟨_,hf⟩ | hf
  ·have hge:=hI.fr6
   have:=hf (i:Int) (by omega) (by omega) (by rw [gt_elem hi];exact h2)
   exact ⟨_,hw,by rw [hto,this]⟩
  ·have h3:=hI.mem fr hf
   have h4:=hI.fr6
   have h5:=(hI.ok.to fr (by omega) (by omega)).resolve_left h3.2
   refine ⟨_,List.mem_filter.2 ⟨gt_mem (n:=fr) (by omega) (by omega),?_⟩,h5⟩
   simpa using h3.2
 ·rw [if_neg hc] at hw;cases hw
theorem wayP_has {l:List Way} {w:Way} (h:w∈l):¬ wayP l w.to < 0:=by
 intro hc
 have:=(findP_none _ _).1 hc w h
 simp at this
theorem within_has {s:List Rcd} {A:List Int} {fr:Int} {v:Way} (h:v∈cand s A fr):¬ wayP (within s A fr) v.to < 0:=by
 rcases togs_best (v:=v.to) _ ((cand s A fr).filter fun w=>w.to == v.to) rfl (fun y hy=>by have:=List.mem_filter.1 hy;exact ⟨by simpa using this.2,(cand_ok y this.1).2.1⟩) with ⟨e,_⟩ | ⟨b,e,hb,_⟩
 ·have:v∈(cand s A fr).filter fun w=>w.to == v.to:=List.mem_filter.2 ⟨h,by simp⟩
  rw [e] at this;cases this
 ·have hm:b∈within s A fr:=(wlst_mem (fun x hx=>(cand_ok x hx).2.1)).2 ⟨by rw [hb];exact (cand_ok v h).1,by rw [hb];exact e⟩
  rw [← hb]
  exact wayP_has hm
theorem beyond_ok {s:List Rcd} {A:List Int} {z:Bool} {fr:Int} {w:Way} (h:w∈beyond s A z fr):(1≤w.to∧w.to≤6)∧HopsOk w.hops∧(0≤w.cost∧w.cost < 60000)∧w.to≠fr∧wayP (within s A fr) w.to < 0:=by
 have h1:=wlst_hops (fun x hx=>(beyondC_ok x hx).2.1) h
 obtain ⟨hh,y,hy,e1,e2⟩:=h1
 have h2:=beyondC_ok y hy
 obtain ⟨x,hx,h3⟩:=List.mem_filterMap.1 hy
 obtain ⟨h4,y',h5,h6,h7⟩:=recB_some h3
 have hk:x.key=w.to:=by rw [← e1,h7]
 refine ⟨by rw [← e1];exact h2.1,hh,by rw [← e2];exact h2.2.2,?_,by rw [← hk];exact h4.2.2.2.2.2⟩
 intro e
 obtain ⟨v,hv,ev⟩:=waysIn_fr (wayO_some h5).1
 have hc:v∈cand s A fr:=List.mem_flatMap.2 ⟨x.area,List.contains_iff_mem.1 h4.2.2.2.1,hv⟩
 have h8:=within_has hc
 have he:v.to=x.key:=by omega
 rw [he] at h8
 exact h8 h4.2.2.2.2.2
theorem within_ok {s:List Rcd} {A:List Int} {fr:Int} {w:Way} (h:w∈within s A fr):(1≤w.to∧w.to≤6)∧HopsOk w.hops∧(0≤w.cost∧w.cost≤6000):=by
 obtain ⟨hh,y,hy,e1,e2⟩:=wlst_hops (fun x hx=>(cand_ok x hx).2.1) h
 have:=cand_ok y hy
 exact ⟨by rw [← e1];exact this.1,hh,by rw [← e2];exact this.2.2⟩
theorem withinG {s:List Rcd} {A:List Int} {fr:Int}:WaysG (within s A fr):=⟨Nat.le_trans within_len (by omega),fun w hw=>by
 have:=within_ok hw
 exact ⟨this.2.1,this.2.2.1,by omega⟩⟩
theorem beyond_len {s:List Rcd} {A:List Int} {z:Bool} {fr:Int}:(beyond s A z fr).length≤6:=wlst_len _
theorem beyondG {s:List Rcd} {A:List Int} {z:Bool} {fr:Int}:WaysG (beyond s A z fr):=⟨Nat.le_trans beyond_len (by omega),fun w hw=>by
 have:=beyond_ok hw
 exact ⟨this.2.1,this.2.2.1.1,by omega⟩⟩
def rWith (w:Way):Route:=⟨false,w.to,1,w.cost,0,w.hops⟩
def rBey (w:Way):Route:=⟨false,w.to,2,w.cost,0,w.hops⟩
def routesOf (s:List Rcd) (A:List Int) (z:Bool) (fr:Int):List Route :=
 ((within s A fr).filter fun w=>!(w.to == fr)).map rWith++(beyond s A z fr).map rBey++(upto 9).filterMap fun k=>thingR s (within s A fr++beyond s A z fr) k fr
theorem foldl_okO {W:List Way} (hW:WaysG W) {key fr:Int} (l:List Rcd) (o:Option Way) (ho:OkO o):OkO (l.foldl (stepN W key fr) o):=by
 induction l generalizing o with
 | nil=>exact ho
 | cons x l ih=>exact ih _ (stepN_ok hW ho x)
theorem foldl_okF {W:List Way} (hW:WaysG W) {key fr:Int} (l:List Rcd) (o:Option (Int × Way)) (ho:OkF o):OkF (l.foldl (stepF W key fr) o):=by
 induction l generalizing o with
 | nil=>exact ho
 | cons x l ih=>exact ih _ (stepF_ok hW ho x)
theorem lit_RouteS (v0:Bool) (v1:Int) (v2:Int) (v3:Int) (v4:Int) (v5:List Int):Prim.ev (.lit 6 []) [bb v0,ii v1,ii v2,ii v3,ii v4,.l (v5.map eInt)]=some (.l ([(⟨v0,v1,v2,v3,v4,v5⟩:Route)].map eRoute)):=ev_lit1 (by decide) rfl rfl
theorem e_s_RoutesOf (s:List Rcd) (A:List Int) (z:Bool) (fr:Int) (h:s.length≤1048576) (hn:NearL s) (hs:storeOk s=true) (ha:A.length≤1048576):F_s_RoutesOf [.l (s.map eRcd),.l (A.map eInt),bb z,ii fr]=some [.l ((routesOf s A z fr).map eRoute)]:=by
 have hwl:=within_len (s:=s) (A:=A) (fr:=fr)
 have hbl:=beyond_len (s:=s) (A:=A) (z:=z) (fr:=fr)
 rw [g_s_RoutesOf];simp (disch:=omega) only [↓pq,↓pj,ps,pz,↓reduceIte,reduceLE,reduceLT,reduceEq,reduceGT,reduceGE,reduceAdd,reduceSub,reduceMul,reduceNeg,G_s_RoutesOf_l0,G_s_RoutesOf_l1,G_s_RoutesOf_l2,G_s_RoutesOf,e_s_RoutesWithin _ _ _ h hn ha,e_s_RoutesBeyond _ _ _ _ h hn ha,e_s_StoreOk _ h hn,hs]
 refine (iter_foldlx (within s A fr) (fun j C=>[.l (C.map eRoute),ii j]) (fun C w=>if (!(w.to == fr))=true then C++[rWith w] else C) (fun C=>some [T.l ((C++(beyond s A z fr).map rBey++(upto 9).filterMap fun k=>thingR s (within s A fr++beyond s A z fr) k fr).map eRoute)]) [] (fun j C=>C.length≤j) rfl (rounds_lt (by omega)) (by simp) ?_ ?_).trans (by rw [foldl_keep,List.nil_append];rfl)
 ·intro j C hj hC
  have hm:=within_ok (gt_mem (l:=within s A fr) (n:=(j:Int)) (by omega) hj)
  have hl:=hops_len hm.2.1
  refine ⟨by split;(· simp;omega);(· omega),fun q=>?_⟩
  by_cases k:(gt (within s A fr) (j:Int)).to=fr
  ·have:(!((gt (within s A fr) (j:Int)).to == fr))=false:=by simpa using k
   rw [this]
   simp (disch:=omega) only [↓pq,↓pj,ps,pz,↓reduceIte,reduceLE,reduceLT,reduceEq,reduceGT,reduceGE,reduceAdd,reduceSub,reduceMul,reduceNeg,G_s_RoutesOf_l0,G_s_RoutesOf_l1,G_s_RoutesOf_l2,hj,k,Bool.false_eq_true]
  ·have:(!((gt (within s A fr) (j:Int)).to == fr))=true:=by simpa using k
   rw [this]
   simp (disch:=omega) only [↓pq,↓pj,ps,pz,↓reduceIte,reduceLE,reduceLT,reduceEq,reduceGT,reduceGE,reduceAdd,reduceSub,reduceMul,reduceNeg,G_s_RoutesOf_l0,G_s_RoutesOf_l1,G_s_RoutesOf_l2,hj,k,lit_RouteS,rWith]
 ·intro C q hC
  have hC6:C.length≤6:=by omega
  simp (disch:=omega) only [↓pq,↓pj,ps,pz,↓reduceIte,reduceLE,reduceLT,reduceEq,reduceGT,reduceGE,reduceAdd,reduceSub,reduceMul,reduceNeg,G_s_RoutesOf_l0,G_s_RoutesOf_l1,G_s_RoutesOf_l2,]
  refine (iter_foldlx (beyond s A z fr) (fun j C=>[.l (C.map eRoute),ii j]) (fun C w=>C++[rBey w]) (fun C=>some [T.l ((C++(upto 9).filterMap fun k=>thingR s (within s A fr++beyond s A z fr) k fr).map eRoute)]) C (fun j C=>C.length≤6+j) rfl (rounds_lt (by omega)) (by omega) ?_ ?_).trans (by rw [foldl_map])
  ·intro j C hj hC
   have hm:=beyond_ok (gt_mem (l:=beyond s A z fr) (n:=(j:Int)) (by omega) hj)
   have hl:=hops_len hm.2.1
   have k:¬ (gt (beyond s A z fr) (j:Int)).to=fr:=hm.2.2.2.1
   refine ⟨by simp;omega,fun q=>?_⟩
   simp (disch:=omega) only [↓pq,↓pj,ps,pz,↓reduceIte,reduceLE,reduceLT,reduceEq,reduceGT,reduceGE,reduceAdd,reduceSub,reduceMul,reduceNeg,G_s_RoutesOf_l0,G_s_RoutesOf_l1,G_s_RoutesOf_l2,hj,k,lit_RouteS,rBey]
  ·intro C q hC
   have hC12:C.length≤12:=by omega
   simp (disch:=omega) only [↓pq,↓pj,ps,pz,↓reduceIte,reduceLE,reduceLT,reduceEq,reduceGT,reduceGE,reduceAdd,reduceSub,reduceMul,reduceNeg,G_s_RoutesOf_l0,G_s_RoutesOf_l1,G_s_RoutesOf_l2,]
   refine (iter_uptox 9 (fun i D=>[.l (D.map eRoute),ii (i+1)]) (fun D i=>D++(thingR s (within s A fr++beyond s A z fr) ((i:Int)+1) fr).toList) (fun D=>some [T.l (D.map eRoute)]) C (fun j D=>D.length≤12+j) rfl (rounds_lt (by omega)) (by omega) ?_ ?_).trans (by rw [foldl_flat (fun i:Nat=>(thingR s (within s A fr++beyond s A z fr) ((i:Int)+1) fr).toList),fm_flat])
   ·intro j D hj hD
    have hj':(j:Int)+1≤9:=by omega
    have hT1:=es_thing_near s (within s A fr) (beyond s A z fr) ((j:Int)+1) fr h hs (by omega) (by omega) withinG beyondG
    have hT2:=es_thing_far s (within s A fr) (beyond s A z fr) ((j:Int)+1) fr h hs (by omega) (by omega) withinG beyondG
    refine ⟨by cases thingR s (within s A fr++beyond s A z fr) ((j:Int)+1) fr <;> simp <;> omega,fun q=>?_⟩
    unfold thingR
    cases hb:nearB s (within s A fr++beyond s A z fr) ((j:Int)+1) fr with
    | some b =>
     have hlb:b.hops.length≤6:=hops_len ((foldl_okO (WaysG.app (by omega) (by omega) withinG beyondG) s none (by intro b hb;(cases hb))) b hb)
     rw [hb] at hT1
     simp only [] at hT1
     simp (disch:=omega) only [↓pq,↓pj,ps,pz,↓reduceIte,reduceLE,reduceLT,reduceEq,reduceGT,reduceGE,reduceAdd,reduceSub,reduceMul,reduceNeg,G_s_RoutesOf_l0,G_s_RoutesOf_l1,G_s_RoutesOf_l2,hj',hT1,Option.isSome_some,oW_some,Bool.false_eq_true,Option.toList_some]
    | none =>
     rw [hb] at hT1
     simp only [] at hT1
     cases hf:farB s (within s A fr++beyond s A z fr) ((j:Int)+1) fr with
     | none =>
      rw [hf] at hT2
      simp only [] at hT2
      simp (disch:=omega) only [↓pq,↓pj,ps,pz,↓reduceIte,reduceLE,reduceLT,reduceEq,reduceGT,reduceGE,reduceAdd,reduceSub,reduceMul,reduceNeg,G_s_RoutesOf_l0,G_s_RoutesOf_l1,G_s_RoutesOf_l2,hj',hT1,hT2,Option.isSome_none,Bool.false_eq_true,Option.toList_none,List.append_nil]
     | some lb =>
      obtain ⟨l,b⟩:=lb
      have hlb:b.hops.length≤6:=hops_len ((foldl_okF (WaysG.app (by omega) (by omega) withinG beyondG) s none (by intro c b hb;(cases hb))) l b hf)
      rw [hf] at hT2
      simp only [] at hT2
      simp (disch:=omega) only [↓pq,↓pj,ps,pz,↓reduceIte,reduceLE,reduceLT,reduceEq,reduceGT,reduceGE,reduceAdd,reduceSub,reduceMul,reduceNeg,G_s_RoutesOf_l0,G_s_RoutesOf_l1,G_s_RoutesOf_l2,hj',hT1,hT2,Option.isSome_none,Option.isSome_some,fW_some,fL_some,Bool.false_eq_true,Option.toList_some]
   ·intro D q hD
    simp (disch:=omega) only [↓pq,↓pj,ps,pz,↓reduceIte,reduceLE,reduceLT,reduceEq,reduceGT,reduceGE,reduceAdd,reduceSub,reduceMul,reduceNeg,G_s_RoutesOf_l0,G_s_RoutesOf_l1,G_s_RoutesOf_l2,]
end Go.Proofs.YtbhplkilhknciaaDoorC

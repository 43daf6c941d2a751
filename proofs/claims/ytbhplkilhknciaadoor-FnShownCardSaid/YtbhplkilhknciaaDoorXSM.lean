/- Routes beyond an area, by both programs. Conditions: none. -/
import Derived.Test.YtbhplkilhknciaaDoorXSL
namespace Go.Proofs.YtbhplkilhknciaaDoorC
open Int (reduceLE reduceLT reduceEq reduceGT reduceGE reduceAdd reduceSub reduceMul reduceNeg)
set_option linter.unusedVariables false
set_option linter.unusedSimpArgs false
theorem rec2_ok {s:List Rcd} (hs:storeOk s=true) {x:Rcd} (hx:x∈s) (h:x.kind=2):(1≤x.key∧x.key≤6)∧0≤x.cost∧x.cost≤60000:=by
 have:=storeOk_all hs hx
 unfold recOk at this
 rw [if_neg (by omega),if_pos h] at this
 simp only [Bool.and_eq_true,inB_iff] at this
 exact ⟨this.2.1.1.1.2,this.2.1.2⟩
theorem rec_cost {s:List Rcd} (hs:storeOk s=true) {x:Rcd} (hx:x∈s):0≤x.cost∧x.cost≤60000:=by
 have:=storeOk_all hs hx
 unfold recOk at this
 grind [inB_iff]
theorem wayO_ok {s:List Rcd} {a fr v:Int} {w:Way} (h:wayO (waysIn s a fr) v=some w):w.to=v∧HopsOk w.hops∧0≤w.cost∧w.cost≤6000∧storeOk s=true:=by
 have h1:=wayO_some h
 have h2:=waysIn_ok.2.2 w h1.1
 refine ⟨h1.2,h2.2.1,h2.2.2.1,h2.2.2.2,?_⟩
 cases e:storeOk s with
 | true=>rfl
 | false =>
  have:waysIn s a fr=[]:=by unfold waysIn;rw [if_neg (by rw [e];simp)]
  rw [this] at h1;cases h1.1
def recB (s:List Rcd) (A:List Int) (z:Bool) (fr:Int) (x:Rcd):Option Way :=
 if x.kind=2∧x.cost < 60000∧x.owner≠fr∧A.contains x.area=true∧(z=true→x.area=0)∧wayP (within s A fr) x.key < 0 then
  match wayO (waysIn s x.area fr) x.owner with
  | none=>none
  | some w=>if x.cost+w.cost < 60000 then some ⟨x.key,x.cost+w.cost,w.hops⟩ else none
 else none
theorem recB_some {s:List Rcd} {A:List Int} {z:Bool} {fr:Int} {x:Rcd} {w:Way} (h:recB s A z fr x=some w):(x.kind=2∧x.cost < 60000∧x.owner≠fr∧A.contains x.area=true∧(z=true→x.area=0)∧wayP (within s A fr) x.key < 0)∧∃ y,wayO (waysIn s x.area fr) x.owner=some y∧x.cost+y.cost < 60000∧w=⟨x.key,x.cost+y.cost,y.hops⟩:=by
 unfold recB at h
 split at h
 ·rename_i hc
  refine ⟨hc,?_⟩
  split at h
  ·cases h
  ·rename_i y hy
   split at h
   ·rename_i hl;cases h;exact ⟨y,hy,hl,rfl⟩
   ·cases h
 ·cases h
theorem recB_ok {s:List Rcd} {A:List Int} {z:Bool} {fr:Int} {x:Rcd} (hx:x∈s) {w:Way} (h:recB s A z fr x=some w):(1≤w.to∧w.to≤6)∧HopsOk w.hops∧0≤w.cost∧w.cost < 60000:=by
 obtain ⟨h1,y,h2,h3,rfl⟩:=recB_some h
 have h4:=wayO_ok h2
 have h5:=rec2_ok h4.2.2.2.2 hx h1.1
 exact ⟨h5.1,h4.2.1,by show 0≤x.cost+y.cost;omega,h3⟩
def beyondC (s:List Rcd) (A:List Int) (z:Bool) (fr:Int):List Way:=s.filterMap (recB s A z fr)
theorem beyondC_ok {s:List Rcd} {A:List Int} {z:Bool} {fr:Int}:∀ w∈beyondC s A z fr,(1≤w.to∧w.to≤6)∧HopsOk w.hops∧0≤w.cost∧w.cost < 60000:=by
 intro w hw
 obtain ⟨x,hx,h⟩:=List.mem_filterMap.1 hw
 exact recB_ok hx h
def beyond (s:List Rcd) (A:List Int) (z:Bool) (fr:Int):List Way:=wlst (beyondC s A z fr)
theorem within_hops {s:List Rcd} {A:List Int} {fr:Int}:∀ w∈within s A fr,w.hops.length≤1048576:=by
 intro w hw
 have:=hops_len (wlst_hops (fun x hx=>(cand_ok x hx).2.1) hw).1
 omega
theorem within_len {s:List Rcd} {A:List Int} {fr:Int}:(within s A fr).length≤6:=wlst_len _
theorem waysIn_hops {s:List Rcd} {a fr:Int}:∀ w∈waysIn s a fr,w.hops.length≤1048576:=by
 intro w hw
 have:=hops_len (waysIn_ok.2.2 w hw).2.1
 omega
theorem waysIn_len {s:List Rcd} {a fr:Int}:(waysIn s a fr).length≤7:=waysIn_ok.2.1
def wz:Way:=⟨0,0,[]⟩
def oW (o:Option Way):Way:=o.getD wz
theorem oW_some (w:Way):oW (some w)=w:=rfl
def recA (W:List Way) (area fr to:Int) (x:Rcd):Option Way :=
 if x.kind=2∧x.area=area∧x.key=to∧x.owner≠fr∧x.cost < 60000 then
  match wayO W x.owner with
  | none=>none
  | some w=>if w.cost+x.cost < 60000 then some ⟨to,w.cost+x.cost,w.hops⟩ else none
 else none
theorem recA_ok {W:List Way} {area fr to:Int} {x:Rcd} (hW:∀ w∈W,HopsOk w.hops) {w:Way} (h:recA W area fr to x=some w):w.to=to∧HopsOk w.hops:=by
 unfold recA at h
 split at h
 ·split at h
  ·cases h
  ·rename_i y hy
   split at h
   ·cases h;exact ⟨rfl,hW y (wayO_some hy).1⟩
   ·cases h
 ·cases h
def tog1s (o:Option Way) (l:List Way):Option Way:=l.foldl tog1 o
theorem tog1s_ok {l:List Way} {o:Option Way} (ho:∀ b,o=some b→HopsOk b.hops) (hl:∀ w∈l,HopsOk w.hops):∀ b,tog1s o l=some b→HopsOk b.hops:=by
 induction l generalizing o with
 | nil=>exact ho
 | cons a l ih =>
  refine ih (o:=tog1 o a) (fun b hb=>?_) fun w hw=>hl w (.tail _ hw)
  cases o with
  | none=>simp only [tog1] at hb;cases hb;exact hl _ (.head _)
  | some b0=>simp only [tog1] at hb;cases hb;exact tog_ok (ho b0 rfl) (hl _ (.head _))
theorem tog1s_fm {α:Type} (f:α→Option Way) (l:List α) (o:Option Way):l.foldl (fun o x=>match f x with | none=>o | some w=>tog1 o w) o=tog1s o (l.filterMap f):=by
 induction l generalizing o with
 | nil=>rfl
 | cons a l ih =>
  rw [List.foldl_cons,List.filterMap_cons]
  cases f a with
  | none=>exact ih o
  | some w=>exact ih _
theorem e_s_l07Beyond (s:List Rcd) (W:List Way) (area fr to:Int) (o:Option Way) (h:s.length≤1048576) (hn:NearL s) (hs:storeOk s=true) (hWl:W.length≤7) (hW:∀ w∈W,HopsOk w.hops∧0≤w.cost∧w.cost≤6000) (ho:∀ b,o=some b→HopsOk b.hops) :
  F_s_l07Beyond [.l (s.map eRcd),.l (W.map eWay),ii area,ii fr,ii to,ii (oW o).to,ii (oW o).cost,.l ((oW o).hops.map eInt),bb o.isSome]=(fun o':Option Way=>some [ii (oW o').to,ii (oW o').cost,.l ((oW o').hops.map eInt),bb o'.isSome]) (tog1s o (s.filterMap (recA W area fr to))):=by
 rw [g_s_l07Beyond];simp (disch:=omega) only [↓pq,↓pj,ps,pz,↓reduceIte,reduceLE,reduceLT,reduceEq,reduceGT,reduceGE,reduceAdd,reduceSub,reduceMul,reduceNeg,G_s_l07Beyond_l0,G_s_l07Beyond]
 refine (iter_foldlx s (fun j o=>[bb o.isSome,ii j,ii (oW o).to,ii (oW o).cost,.l ((oW o).hops.map eInt)]) (fun o x=>match recA W area fr to x with | none=>o | some w=>tog1 o w) (fun o':Option Way=>some [ii (oW o').to,ii (oW o').cost,.l ((oW o').hops.map eInt),bb o'.isSome]) o (fun _ o=>∀ b,o=some b→HopsOk b.hops) rfl (rounds_lt h) ho ?_ ?_).trans (by rw [tog1s_fm])
 ·intro j o hj ho
  have hm:=gt_mem (l:=s) (n:=(j:Int)) (by omega) hj
  have hc:=rec_cost hs hm
  constructor
  ·intro b hb
   cases e:recA W area fr to (gt s j) with
   | none=>rw [e] at hb;exact ho b hb
   | some w =>
    rw [e] at hb
    exact tog1s_ok (l:=[w]) ho (by intro y hy;rw [List.mem_singleton] at hy;subst hy;exact (recA_ok (fun w hw=>(hW w hw).1) e).2) b hb
  intro q
  have hT:=e_s_WayTo W (gt s j).owner (by omega) (fun w hw=>by have:=hops_len (hW w hw).1;omega)
  by_cases k1:(gt s j).kind=2∧(gt s j).area=area∧(gt s j).key=to∧(gt s j).owner≠fr∧(gt s j).cost < 60000
  rotate_left
  ·have hr:recA W area fr to (gt s j)=none:=by unfold recA;rw [if_neg k1]
   rw [hr]
   by_cases a1:(gt s j).kind=2
   ·by_cases a2:(gt s j).area=area
    ·by_cases a3:(gt s j).key=to
     ·by_cases a4:(gt s j).owner=fr
      ·simp (disch:=omega) only [↓pq,↓pj,ps,pz,↓reduceIte,reduceLE,reduceLT,reduceEq,reduceGT,reduceGE,reduceAdd,reduceSub,reduceMul,reduceNeg,G_s_l07Beyond_l0,hj,a1,a2,a3,a4]
      ·have a5:(gt s j).cost ≥ 60000:=by
        rcases Int.lt_or_le (gt s j).cost 60000 with h | h
        ·exact absurd ⟨a1,a2,a3,a4,h⟩ k1
        ·exact h
       simp (disch:=omega) only [↓pq,↓pj,ps,pz,↓reduceIte,reduceLE,reduceLT,reduceEq,reduceGT,reduceGE,reduceAdd,reduceSub,reduceMul,reduceNeg,G_s_l07Beyond_l0,hj,a1,a2,a3,a4,a5]
     ·simp (disch:=omega) only [↓pq,↓pj,ps,pz,↓reduceIte,reduceLE,reduceLT,reduceEq,reduceGT,reduceGE,reduceAdd,reduceSub,reduceMul,reduceNeg,G_s_l07Beyond_l0,hj,a1,a2,a3]
    ·simp (disch:=omega) only [↓pq,↓pj,ps,pz,↓reduceIte,reduceLE,reduceLT,reduceEq,reduceGT,reduceGE,reduceAdd,reduceSub,reduceMul,reduceNeg,G_s_l07Beyond_l0,hj,a1,a2]
   ·simp (disch:=omega) only [↓pq,↓pj,ps,pz,↓reduceIte,reduceLE,reduceLT,reduceEq,reduceGT,reduceGE,reduceAdd,reduceSub,reduceMul,reduceNeg,G_s_l07Beyond_l0,hj,a1]
  obtain ⟨a1,a2,a3,a4,a5⟩:=k1
  have a5':¬ (gt s j).cost ≥ 60000:=by omega
  by_cases hp:wayP W (gt s j).owner < 0
  ·have hr:recA W area fr to (gt s j)=none:=by unfold recA wayO;rw [if_pos ⟨a1,a2,a3,a4,a5⟩,if_pos hp]
   rw [hr]
   rw [if_pos hp] at hT
   simp (disch:=omega) only [↓pq,↓pj,ps,pz,↓reduceIte,reduceLE,reduceLT,reduceEq,reduceGT,reduceGE,reduceAdd,reduceSub,reduceMul,reduceNeg,G_s_l07Beyond_l0,hj,a1,a2,a3,a4,a5',hT,Bool.false_eq_true]
  rw [if_neg hp] at hT
  have hO:wayO W (gt s j).owner=some (gt W (wayP W (gt s j).owner)):=by unfold wayO;rw [if_neg hp]
  generalize gt W (wayP W (gt s j).owner)=w at hO hT
  have hw:=hW w (wayO_some hO).1
  have hl1:=hops_len hw.1
  simp only [eWay,List.cons_append,List.nil_append] at hT
  by_cases hq:w.cost+(gt s j).cost < 60000
  ·have hr:recA W area fr to (gt s j)=some ⟨to,w.cost+(gt s j).cost,w.hops⟩:=by unfold recA;rw [if_pos ⟨a1,a2,a3,a4,a5⟩,hO];simp only [];rw [if_pos hq]
   rw [hr]
   cases o with
   | none=>simp (disch:=omega) only [↓pq,↓pj,ps,pz,↓reduceIte,reduceLE,reduceLT,reduceEq,reduceGT,reduceGE,reduceAdd,reduceSub,reduceMul,reduceNeg,G_s_l07Beyond_l0,hj,a1,a2,a3,a4,a5',hT,show ¬ w.cost+(gt s j).cost ≥ 60000 by omega,Option.isSome_none,Bool.false_eq_true];rfl
   | some b =>
    have hl2:=hops_len (ho b rfl)
    simp (disch:=omega) only [↓pq,↓pj,ps,pz,↓reduceIte,reduceLE,reduceLT,reduceEq,reduceGT,reduceGE,reduceAdd,reduceSub,reduceMul,reduceNeg,G_s_l07Beyond_l0,hj,a1,a2,a3,a4,a5',hT,show ¬ w.cost+(gt s j).cost ≥ 60000 by omega,Option.isSome_some,oW_some,e_s_Together _ _ _ _ _ _ (show b.hops.length≤1048576 by omega) (show w.hops.length≤1048576 by omega),eWay];rfl
  ·have hr:recA W area fr to (gt s j)=none:=by unfold recA;rw [if_pos ⟨a1,a2,a3,a4,a5⟩,hO];simp only [];rw [if_neg hq]
   rw [hr]
   simp (disch:=omega) only [↓pq,↓pj,ps,pz,↓reduceIte,reduceLE,reduceLT,reduceEq,reduceGT,reduceGE,reduceAdd,reduceSub,reduceMul,reduceNeg,G_s_l07Beyond_l0,hj,a1,a2,a3,a4,a5',hT,show w.cost+(gt s j).cost ≥ 60000 by omega]
 ·intro o q ho
  simp (disch:=omega) only [↓pq,↓pj,ps,pz,↓reduceIte,reduceLE,reduceLT,reduceEq,reduceGT,reduceGE,reduceAdd,reduceSub,reduceMul,reduceNeg,G_s_l07Beyond_l0,]
def refC (s:List Rcd) (A:List Int) (z:Bool) (fr to:Int):List Way:=(A.filter fun a=>!z || a == 0).flatMap fun a=>s.filterMap (recA (waysIn s a fr) a fr to)
theorem tog1s_flat {α:Type} (p:α→Bool) (f:α→List Way) (l:List α) (o:Option Way):l.foldl (fun o a=>if p a=true then tog1s o (f a) else o) o=tog1s o ((l.filter p).flatMap f):=by
 induction l generalizing o with
 | nil=>rfl
 | cons a l ih =>
  rw [List.foldl_cons,ih,List.filter_cons]
  cases p a with
  | false=>rfl
  | true=>simp [tog1s]
theorem refC_ok {s:List Rcd} {A:List Int} {z:Bool} {fr to:Int}:∀ w∈refC s A z fr to,w.to=to∧HopsOk w.hops:=by
 intro w hw
 unfold refC at hw
 obtain ⟨a,_,h⟩:=List.mem_flatMap.1 hw
 obtain ⟨x,hx,h⟩:=List.mem_filterMap.1 h
 exact recA_ok (fun y hy=>(waysIn_ok.2.2 y hy).2.1) h
theorem refC_mem {s:List Rcd} {A:List Int} {z:Bool} {fr to:Int} (ht:wayP (within s A fr) to < 0) (w:Way):w∈refC s A z fr to↔w∈(beyondC s A z fr).filter fun w=>w.to == to:=by
 unfold refC beyondC
 rw [List.mem_flatMap,List.mem_filter,List.mem_filterMap]
 constructor
 ·rintro ⟨a,ha,h⟩
  obtain ⟨x,hx,h⟩:=List.mem_filterMap.1 h
  have ha:=List.mem_filter.1 ha
  unfold recA at h
  split at h
  ·rename_i hc
   obtain ⟨c1,c2,c3,c4,c5⟩:=hc
   subst c2 c3
   split at h
   ·cases h
   ·rename_i y hy
    split at h
    ·rename_i hl
     cases h
     refine ⟨⟨x,hx,?_⟩,by simp⟩
     unfold recB
     rw [if_pos ⟨c1,c5,c4,List.contains_iff_mem.2 ha.1,fun hz=>by have:=ha.2;rw [hz] at this;simpa using this,ht⟩,hy]
     simp only []
     rw [if_pos (by omega),Int.add_comm]
    ·cases h
  ·cases h
 ·rintro ⟨⟨x,hx,h⟩,hto⟩
  obtain ⟨⟨c1,c2,c3,c4,c5,c6⟩,y,hy,hl,rfl⟩:=recB_some h
  have hto:x.key=to:=by simpa using hto
  refine ⟨x.area,List.mem_filter.2 ⟨List.contains_iff_mem.1 c4,?_⟩,List.mem_filterMap.2 ⟨x,hx,?_⟩⟩
  ·cases z with
   | false=>rfl
   | true=>simp [c5 rfl]
  ·unfold recA
   rw [if_pos ⟨c1,rfl,hto,c3,c2⟩,hy]
   simp only []
   rw [if_pos (by omega),Int.add_comm,hto]
theorem beyondC_none {s:List Rcd} {A:List Int} {z:Bool} {fr to:Int} (ht:¬ wayP (within s A fr) to < 0):(beyondC s A z fr).filter (fun w=>w.to == to)=[]:=by
 rw [List.filter_eq_nil_iff]
 intro w hw
 obtain ⟨x,hx,h⟩:=List.mem_filterMap.1 hw
 obtain ⟨hc,y,_,_,rfl⟩:=recB_some h
 intro e
 have e:x.key=to:=by simpa using e
 subst e
 exact ht hc.2.2.2.2.2
theorem e_s_RoutesBeyond (s:List Rcd) (A:List Int) (z:Bool) (fr:Int) (h:s.length≤1048576) (hn:NearL s) (ha:A.length≤1048576):F_s_RoutesBeyond [.l (s.map eRcd),.l (A.map eInt),bb z,ii fr]=some [.l ((beyond s A z fr).map eWay)]:=by
 have hW:=fun a=>waysIn_ok (s:=s) (ar:=a) (fr:=fr)
 rw [g_s_RoutesBeyond];simp (disch:=omega) only [↓pq,↓pj,ps,pz,↓reduceIte,reduceLE,reduceLT,reduceEq,reduceGT,reduceGE,reduceAdd,reduceSub,reduceMul,reduceNeg,G_s_RoutesBeyond_l0,G_s_RoutesBeyond_l1,G_s_RoutesBeyond_l2,G_s_RoutesBeyond,e_s_RoutesWithin _ _ _ h hn ha,e_s_StoreOk _ h hn]
 cases hs:storeOk s with
 | false =>
  have:beyondC s A z fr=[]:=by
   unfold beyondC
   rw [List.filterMap_eq_nil_iff]
   intro x hx
   cases e:recB s A z fr x with
   | none=>rfl
   | some w =>
    obtain ⟨_,y,hy,_⟩:=recB_some e
    have:=(wayO_ok hy).2.2.2.2
    rw [hs] at this;cases this
  simp (disch:=omega) only [↓pq,↓pj,ps,pz,↓reduceIte,reduceLE,reduceLT,reduceEq,reduceGT,reduceGE,reduceAdd,reduceSub,reduceMul,reduceNeg,G_s_RoutesBeyond_l0,G_s_RoutesBeyond_l1,G_s_RoutesBeyond_l2,Bool.false_eq_true]
  unfold beyond
  rw [this]
  rfl
 | true =>
 simp (disch:=omega) only [↓pq,↓pj,ps,pz,↓reduceIte,reduceLE,reduceLT,reduceEq,reduceGT,reduceGE,reduceAdd,reduceSub,reduceMul,reduceNeg,G_s_RoutesBeyond_l0,G_s_RoutesBeyond_l1,G_s_RoutesBeyond_l2,]
 refine iter_foldlx A (fun j C=>[.l (C.map eWays),ii j]) (fun C a=>C++[waysIn s a fr]) (fun _=>some [T.l ((beyond s A z fr).map eWay)]) [] (fun j C=>C=(A.take j).map (fun a=>waysIn s a fr)) rfl (rounds_lt ha) rfl ?_ ?_
 ·intro j C hj hC
  have hl:C.length≤j:=by rw [hC];simp;omega
  refine ⟨by rw [List.take_add_one,hC,List.map_append,List.getElem?_eq_getElem (by omega),gt_elem (by omega)];rfl,fun q=>?_⟩
  simp (disch:=omega) only [↓pq,↓pj,ps,pz,↓reduceIte,reduceLE,reduceLT,reduceEq,reduceGT,reduceGE,reduceAdd,reduceSub,reduceMul,reduceNeg,G_s_RoutesBeyond_l0,G_s_RoutesBeyond_l1,G_s_RoutesBeyond_l2,hj,e_s_WaysIn _ _ _ h hn,lit_Ways,app1_Ways]
 ·intro C q hC
  have hC:C=A.map (fun a=>waysIn s a fr):=by rw [hC,List.take_length]
  have hCl:C.length=A.length:=by rw [hC,List.length_map]
  have hCg:∀ j:Nat,(j:Int) < A.length→gt C (j:Int)=waysIn s (gt A j) fr:=by
   intro j hj
   rw [gt_elem (by omega),gt_elem (by omega)]
   simp only [hC,List.getElem_map]
  simp (disch:=omega) only [↓pq,↓pj,ps,pz,↓reduceIte,reduceLE,reduceLT,reduceEq,reduceGT,reduceGE,reduceAdd,reduceSub,reduceMul,reduceNeg,G_s_RoutesBeyond_l0,G_s_RoutesBeyond_l1,G_s_RoutesBeyond_l2,]
  refine (iter_uptox 6 (fun i c=>[.l (c.map eWay),ii (i+1)]) (fun c i=>c++(if wayP (within s A fr) ((i:Int)+1) < 0 then togs (refC s A z fr ((i:Int)+1)) else none).toList) (fun c=>some [T.l (c.map eWay)]) [] (fun i c=>c.length≤i) rfl (rounds_lt (by omega)) (by simp) ?_ ?_).trans ?_
  ·intro i c hi hc
   refine ⟨by cases (if wayP (within s A fr) ((i:Int)+1) < 0 then togs (refC s A z fr ((i:Int)+1)) else none) <;> simp <;> omega,fun q'=>?_⟩
   have hi':(i:Int)+1≤6:=by omega
   have hT:=e_s_WayTo (within s A fr) ((i:Int)+1) (by have:=within_len (s:=s) (A:=A) (fr:=fr);omega) within_hops
   by_cases hp:wayP (within s A fr) ((i:Int)+1) < 0
   rotate_left
   ·rw [if_neg hp] at hT ⊢
    simp only [eWay,List.cons_append,List.nil_append] at hT
    simp (disch:=omega) only [↓pq,↓pj,ps,pz,↓reduceIte,reduceLE,reduceLT,reduceEq,reduceGT,reduceGE,reduceAdd,reduceSub,reduceMul,reduceNeg,G_s_RoutesBeyond_l0,G_s_RoutesBeyond_l1,G_s_RoutesBeyond_l2,hi',hT,Option.toList_none,List.append_nil]
   rw [if_pos hp] at hT ⊢
   simp (disch:=omega) only [↓pq,↓pj,ps,pz,↓reduceIte,reduceLE,reduceLT,reduceEq,reduceGT,reduceGE,reduceAdd,reduceSub,reduceMul,reduceNeg,G_s_RoutesBeyond_l0,G_s_RoutesBeyond_l1,G_s_RoutesBeyond_l2,hi',hT,Bool.false_eq_true]
   refine (iter_foldlx A (fun j o=>[bb o.isSome,ii j,ii (oW o).to,ii (oW o).cost,.l ((oW o).hops.map eInt)]) (fun o a=>if (!z || a == 0)=true then tog1s o (s.filterMap (recA (waysIn s a fr) a fr ((i:Int)+1))) else o) (fun o=>q' [T.l ((c++o.toList).map eWay),ii ((i:Int)+1+1)]) none (fun _ o=>∀ b,o=some b→HopsOk b.hops) rfl (rounds_lt ha) (by simp) ?_ ?_).trans (by rw [tog1s_flat];rfl)
   ·intro j o hj ho
    obtain ⟨w1,w2,w3⟩:=hW (gt A j)
    have hlC:(j:Int) < C.length:=by omega
    have hB:=e_s_l07Beyond s (waysIn s (gt A j) fr) (gt A j) fr ((i:Int)+1) o h hn hs w2 (fun w hw=>(w3 w hw).2) ho
    have hok:=tog1s_ok (o:=o) (l:=s.filterMap (recA (waysIn s (gt A j) fr) (gt A j) fr ((i:Int)+1))) ho (fun w hw=>by
     obtain ⟨x,_,e⟩:=List.mem_filterMap.1 hw
     exact (recA_ok (fun w hw=>(w3 w hw).2.1) e).2)
    cases z with
    | false =>
     refine ⟨hok,fun q2=>?_⟩
     simp (disch:=omega) only [↓pq,↓pj,ps,pz,↓reduceIte,reduceLE,reduceLT,reduceEq,reduceGT,reduceGE,reduceAdd,reduceSub,reduceMul,reduceNeg,G_s_RoutesBeyond_l0,G_s_RoutesBeyond_l1,G_s_RoutesBeyond_l2,hj,cell_Ways,hCg j hj,hB,Bool.false_eq_true,Bool.not_false,Bool.true_or]
    | true =>
     by_cases h0:gt A j=0
     ·rw [h0] at hB hok
      refine ⟨by rw [h0];exact hok,fun q2=>?_⟩
      have hc0:=hCg j hj
      rw [h0] at hc0
      simp (disch:=omega) only [↓pq,↓pj,ps,pz,↓reduceIte,reduceLE,reduceLT,reduceEq,reduceGT,reduceGE,reduceAdd,reduceSub,reduceMul,reduceNeg,G_s_RoutesBeyond_l0,G_s_RoutesBeyond_l1,G_s_RoutesBeyond_l2,hj,cell_Ways,hc0,h0,hB,beq_self_eq_true,Bool.or_true]
     ·have hne:(gt A j == 0)=false:=by simpa using h0
      rw [hne]
      refine ⟨ho,fun q2=>?_⟩
      simp (disch:=omega) only [↓pq,↓pj,ps,pz,↓reduceIte,reduceLE,reduceLT,reduceEq,reduceGT,reduceGE,reduceAdd,reduceSub,reduceMul,reduceNeg,G_s_RoutesBeyond_l0,G_s_RoutesBeyond_l1,G_s_RoutesBeyond_l2,hj,h0,Bool.not_true,Bool.or_false,Bool.false_eq_true]
   ·intro o q2 ho
    cases o with
    | none=>simp (disch:=omega) only [↓pq,↓pj,ps,pz,↓reduceIte,reduceLE,reduceLT,reduceEq,reduceGT,reduceGE,reduceAdd,reduceSub,reduceMul,reduceNeg,G_s_RoutesBeyond_l0,G_s_RoutesBeyond_l1,G_s_RoutesBeyond_l2,Bool.false_eq_true,Option.isSome_none];simp
    | some b=>simp (disch:=omega) only [↓pq,↓pj,ps,pz,↓reduceIte,reduceLE,reduceLT,reduceEq,reduceGT,reduceGE,reduceAdd,reduceSub,reduceMul,reduceNeg,G_s_RoutesBeyond_l0,G_s_RoutesBeyond_l1,G_s_RoutesBeyond_l2,Option.isSome_some,oW_some];simp
  ·intro c q' hc
   simp (disch:=omega) only [↓pq,↓pj,ps,pz,↓reduceIte,reduceLE,reduceLT,reduceEq,reduceGT,reduceGE,reduceAdd,reduceSub,reduceMul,reduceNeg,G_s_RoutesBeyond_l0,G_s_RoutesBeyond_l1,G_s_RoutesBeyond_l2,]
  ·rw [foldl_flat (fun i:Nat=>(if wayP (within s A fr) ((i:Int)+1) < 0 then togs (refC s A z fr ((i:Int)+1)) else none).toList),List.nil_append]
   congr 3
   unfold beyond wlst
   rw [six_map,List.filterMap_map,fm_flat]
   refine congrArg (fun f=>List.map eWay (List.filterMap f (List.range 6))) (funext fun i=>?_)
   show _=togs _
   by_cases hp:wayP (within s A fr) ((i:Int)+1) < 0
   ·rw [if_pos hp]
    exact togs_ext (v:=(i:Int)+1) refC_ok (refC_mem hp)
   ·rw [if_neg hp,beyondC_none hp]
    rfl
end Go.Proofs.YtbhplkilhknciaaDoorC

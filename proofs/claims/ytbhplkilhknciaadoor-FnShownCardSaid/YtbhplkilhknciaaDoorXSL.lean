/- Routes within areas, by both programs. Conditions: none. -/
import Derived.Test.YtbhplkilhknciaaDoorXSK
namespace Go.Proofs.YtbhplkilhknciaaDoorC
open Int (reduceLE reduceLT reduceEq reduceGT reduceGE reduceAdd reduceSub reduceMul reduceNeg)
set_option linter.unusedVariables false
set_option linter.unusedSimpArgs false
theorem dij_inv {s:List Rcd} (hs:storeOk s=true) (ar fr:Int):∀ k W D,DInv fr W D→∃ D',DInv fr (dij s ar fr k W D) D'
 | 0,W,D,h=>⟨D,h⟩
 | k+1,W,D,h=>by
  unfold dij
  by_cases hb:best W D=0
  ·rw [if_pos hb];exact ⟨D,h⟩
  ·rw [if_neg hb];exact dij_inv hs ar fr k _ _ (h.step hs ar hb)
theorem waysIn_ok {s:List Rcd} {ar fr:Int}:(waysIn s ar fr).Pairwise (fun a b=>a.to < b.to)∧(waysIn s ar fr).length≤7∧∀ w∈waysIn s ar fr,(1≤w.to∧w.to≤6)∧HopsOk w.hops∧0≤w.cost∧w.cost≤6000:=by
 unfold waysIn
 by_cases hc:storeOk s=true∧inB fr 1 6=true∧0≤nodeP s ar fr
 ·rw [if_pos hc]
  obtain ⟨D,hI⟩:=dij_inv hc.1 ar fr 6 (W0 fr) [] (DInv.start (inB_iff.1 hc.2.1))
  have hD:=hI.len
  have hl:=hI.ok.len
  have key:∀ i,(hi:i < (dij s ar fr 6 (W0 fr) []).length)→(dij s ar fr 6 (W0 fr) [])[i].to≠0→(dij s ar fr 6 (W0 fr) [])[i].to=(i:Int)∧1≤i:=by
   intro i hi h0
   have:=(hI.ok.to (i:Int) (by omega) (by omega))
   rw [gt_elem hi] at this
   have:=this.resolve_left h0
   exact ⟨this,by omega⟩
  refine ⟨?_,Nat.le_trans (known_len _) (by omega),fun w hw=>?_⟩
  ·have hp:(dij s ar fr 6 (W0 fr) []).Pairwise fun a b=>a.to≠0→b.to≠0→a.to < b.to:=by
    rw [List.pairwise_iff_getElem]
    intro i j hi hj hij h1 h2
    rw [(key i hi h1).1,(key j hj h2).1];omega
   unfold known
   have hp2:=hp.filter (fun w=>!(w.to == 0))
   refine hp2.imp_of_mem fun {a b} ha hb hab=>hab ?_ ?_
   ·have:=(List.mem_filter.1 ha).2;simpa using this
   ·have:=(List.mem_filter.1 hb).2;simpa using this
  ·obtain ⟨h1,h2⟩:=List.mem_filter.1 hw
   have h2:w.to≠0:=by simpa using h2
   obtain ⟨i,hi,rfl⟩:=List.mem_iff_getElem.1 h1
   obtain ⟨h3,h4⟩:=key i hi h2
   have h5:=hI.ok.hops (i:Int) (by omega) (by omega)
   have h6:=hI.ok.cost (i:Int) (by omega) (by omega)
   rw [gt_elem hi] at h5 h6
   exact ⟨by omega,h5,by omega⟩
 ·rw [if_neg hc];simp
def cand (s:List Rcd) (areas:List Int) (fr:Int):List Way:=areas.flatMap fun a=>waysIn s a fr
theorem cand_ok {s:List Rcd} {areas:List Int} {fr:Int}:∀ w∈cand s areas fr,(1≤w.to∧w.to≤6)∧HopsOk w.hops∧0≤w.cost∧w.cost≤6000:=by
 intro w hw
 unfold cand at hw
 obtain ⟨a,_,h⟩:=List.mem_flatMap.1 hw
 exact waysIn_ok.2.2 w h
theorem foldl_flat {α β:Type} (f:α→List β) (l:List α) (c:List β):l.foldl (fun c a=>c++f a) c=c++l.flatMap f:=by
 induction l generalizing c with
 | nil=>simp
 | cons a l ih=>rw [List.foldl_cons,ih];simp
theorem fm_flat {α β:Type} (f:α→Option β) (l:List α):l.flatMap (fun a=>(f a).toList)=l.filterMap f:=by
 induction l with
 | nil=>rfl
 | cons a l ih=>rw [List.flatMap_cons,List.filterMap_cons,ih];cases f a <;> rfl
def within (s:List Rcd) (areas:List Int) (fr:Int):List Way:=wlst (cand s areas fr)
def eWays (l:List Way):List T:=[.l (l.map eWay)]
theorem cell_Ways {l:List (List Way)} {n:Int} (h:0≤n) (h':n < l.length):Prim.ev (.cell 1 0) [.l (l.map eWays),ii n]=some (.l ((gt l n).map eWay)):=ev_cellZ h (gt_get h h') rfl rfl
theorem lit_Ways (x:List Way):Prim.ev (.lit 1 []) [.l (x.map eWay)]=some (.l ([x].map eWays)):=ev_lit1 (by decide) rfl rfl
theorem app1_Ways {l:List (List Way)} {x:List Way} (h:l.length < 4294967295):Prim.ev (.app false 1) [.l (l.map eWays),.l ([x].map eWays)]=some (.l ((l++[x]).map eWays)):=app_enc (w:=1) (fun _=>rfl) (.inl rfl) (by unfold cap32;simp;omega)
def wayO (l:List Way) (v:Int):Option Way:=if wayP l v < 0 then none else some (gt l (wayP l v))
theorem wayP_lt (l:List Way) (v:Int):wayP l v < l.length:=findP_lt _ _
theorem wayO_some {l:List Way} {v:Int} {w:Way} (h:wayO l v=some w):w∈l∧w.to=v:=by
 unfold wayO at h
 split at h
 ·cases h
 ·rename_i hf
  cases h
  have:=findP_spec (fun w:Way=>w.to == v) l (by unfold wayP at hf;omega)
  exact ⟨gt_mem (by omega) (wayP_lt _ _),by simpa [wayP] using this⟩
theorem wayO_none {l:List Way} {v:Int} (h:wayO l v=none):∀ w∈l,w.to≠v:=by
 unfold wayO at h
 split at h
 ·rename_i hf
  intro w hw
  have:=(findP_none _ _).1 hf w hw
  simpa using this
 ·cases h
theorem asc_same {l:List Way} (h:l.Pairwise fun a b=>a.to < b.to) {x y:Way} (hx:x∈l) (hy:y∈l) (e:x.to=y.to):x=y:=by
 obtain ⟨i,hi,rfl⟩:=List.mem_iff_getElem.1 hx
 obtain ⟨j,hj,rfl⟩:=List.mem_iff_getElem.1 hy
 rw [List.pairwise_iff_getElem] at h
 rcases Nat.lt_trichotomy i j with h1 | h1 | h1
 ·have:=h i j hi hj h1;omega
 ·subst h1;rfl
 ·have:=h j i hj hi h1;omega
theorem wayO_mem {l:List Way} (h:l.Pairwise fun a b=>a.to < b.to) {v:Int} {w:Way}:wayO l v=some w↔w∈l∧w.to=v:=by
 refine ⟨wayO_some,fun ⟨h1,h2⟩=>?_⟩
 cases e:wayO l v with
 | none=>exact absurd h2 (wayO_none e w h1)
 | some w' =>
  have:=wayO_some e
  rw [asc_same h this.1 h1 (by omega)]
def stO (o:Option Way) (i:Int):List T:=match o with | none=>[bb false,ii i,ii 0,ii 0,.l []] | some b=>[bb true,ii i,ii b.to,ii b.cost,.l (b.hops.map eInt)]
theorem e_s_RoutesWithin (s:List Rcd) (areas:List Int) (fr:Int) (h:s.length≤1048576) (hn:NearL s) (ha:areas.length≤1048576):F_s_RoutesWithin [.l (s.map eRcd),.l (areas.map eInt),ii fr]=some [.l ((within s areas fr).map eWay)]:=by
 have hW:=fun a=>waysIn_ok (s:=s) (ar:=a) (fr:=fr)
 rw [g_s_RoutesWithin];simp (disch:=omega) only [↓pq,↓pj,ps,pz,↓reduceIte,reduceLE,reduceLT,reduceEq,reduceGT,reduceGE,reduceAdd,reduceSub,reduceMul,reduceNeg,G_s_RoutesWithin_l0,G_s_RoutesWithin_l1,G_s_RoutesWithin_l2,G_s_RoutesWithin]
 refine iter_foldlx areas (fun j C=>[.l (C.map eWays),ii j]) (fun C a=>C++[waysIn s a fr]) (fun _=>some [T.l ((within s areas fr).map eWay)]) [] (fun j C=>C=(areas.take j).map (fun a=>waysIn s a fr)) rfl (rounds_lt ha) rfl ?_ ?_
 ·intro j C hj hC
  have hl:C.length≤j:=by rw [hC];simp;omega
  refine ⟨by rw [List.take_add_one,hC,List.map_append,List.getElem?_eq_getElem (by omega),gt_elem (by omega)];rfl,fun q=>?_⟩
  simp (disch:=omega) only [↓pq,↓pj,ps,pz,↓reduceIte,reduceLE,reduceLT,reduceEq,reduceGT,reduceGE,reduceAdd,reduceSub,reduceMul,reduceNeg,G_s_RoutesWithin_l0,G_s_RoutesWithin_l1,G_s_RoutesWithin_l2,hj,e_s_WaysIn _ _ _ h hn,lit_Ways,app1_Ways]
 ·intro C q hC
  have hC:C=areas.map (fun a=>waysIn s a fr):=by rw [hC,List.take_length]
  have hCl:C.length=areas.length:=by rw [hC,List.length_map]
  have hCg:∀ j:Nat,(j:Int) < areas.length→gt C (j:Int)=waysIn s (gt areas j) fr:=by
   intro j hj
   rw [gt_elem (by omega),gt_elem (by omega)]
   simp only [hC,List.getElem_map]
  simp (disch:=omega) only [↓pq,↓pj,ps,pz,↓reduceIte,reduceLE,reduceLT,reduceEq,reduceGT,reduceGE,reduceAdd,reduceSub,reduceMul,reduceNeg,G_s_RoutesWithin_l0,G_s_RoutesWithin_l1,G_s_RoutesWithin_l2,]
  refine (iter_uptox 6 (fun i c=>[.l (c.map eWay),ii (i+1)]) (fun c i=>c++(togs (areas.filterMap fun a=>wayO (waysIn s a fr) ((i:Int)+1))).toList) (fun c=>some [T.l (c.map eWay)]) [] (fun i c=>c.length≤i) rfl (rounds_lt (by omega)) (by simp) ?_ ?_).trans ?_
  ·intro i c hi hc
   refine ⟨by cases togs (areas.filterMap fun a=>wayO (waysIn s a fr) ((i:Int)+1)) <;> simp <;> omega,fun q'=>?_⟩
   have hi':(i:Int)+1≤6:=by omega
   simp (disch:=omega) only [↓pq,↓pj,ps,pz,↓reduceIte,reduceLE,reduceLT,reduceEq,reduceGT,reduceGE,reduceAdd,reduceSub,reduceMul,reduceNeg,G_s_RoutesWithin_l0,G_s_RoutesWithin_l1,G_s_RoutesWithin_l2,hi']
   have hfm:∀ (l:List Int) (o:Option Way),l.foldl (fun o a=>match wayO (waysIn s a fr) ((i:Int)+1) with | none=>o | some w=>tog1 o w) o=(l.filterMap fun a=>wayO (waysIn s a fr) ((i:Int)+1)).foldl tog1 o:=by
    intro l
    induction l with
    | nil=>intro o;rfl
    | cons a l ih =>
     intro o
     rw [List.foldl_cons,List.filterMap_cons]
     cases wayO (waysIn s a fr) ((i:Int)+1) with
     | none=>exact ih o
     | some w=>exact ih _
   refine (iter_foldlx areas (fun j o=>stO o j) (fun o a=>match wayO (waysIn s a fr) ((i:Int)+1) with | none=>o | some w=>tog1 o w) (fun o=>q' [T.l ((c++o.toList).map eWay),ii ((i:Int)+1+1)]) none (fun _ o=>∀ b,o=some b→HopsOk b.hops) rfl (rounds_lt ha) (by simp) ?_ ?_).trans (by rw [hfm];rfl)
   ·intro j o hj ho
    obtain ⟨w1,w2,w3⟩:=hW (gt areas j)
    have hlC:(j:Int) < C.length:=by omega
    have hT:=e_s_WayTo (waysIn s (gt areas j) fr) ((i:Int)+1) (by omega) (fun w hw=>by have:=hops_len (w3 w hw).2.1;omega)
    constructor
    ·intro b hb
     cases hw:wayO (waysIn s (gt areas j) fr) ((i:Int)+1) with
     | none=>rw [hw] at hb;exact ho b hb
     | some w =>
      rw [hw] at hb
      have hh:=(w3 w (wayO_some hw).1).2.1
      cases o with
      | none=>simp only [tog1] at hb;cases hb;exact hh
      | some b0=>simp only [tog1] at hb;cases hb;exact tog_ok (ho b0 rfl) hh
    ·intro q2
     unfold wayO
     by_cases hp:wayP (waysIn s (gt areas j) fr) ((i:Int)+1) < 0
     ·rw [if_pos hp] at hT
      cases o with
      | none=>simp only [stO];simp (disch:=omega) only [↓pq,↓pj,ps,pz,↓reduceIte,reduceLE,reduceLT,reduceEq,reduceGT,reduceGE,reduceAdd,reduceSub,reduceMul,reduceNeg,G_s_RoutesWithin_l0,G_s_RoutesWithin_l1,G_s_RoutesWithin_l2,hj,cell_Ways,hCg j hj,hT,hp,Bool.false_eq_true]
      | some b=>simp only [stO];simp (disch:=omega) only [↓pq,↓pj,ps,pz,↓reduceIte,reduceLE,reduceLT,reduceEq,reduceGT,reduceGE,reduceAdd,reduceSub,reduceMul,reduceNeg,G_s_RoutesWithin_l0,G_s_RoutesWithin_l1,G_s_RoutesWithin_l2,hj,cell_Ways,hCg j hj,hT,hp,Bool.false_eq_true]
     ·rw [if_neg hp] at hT
      have hm:=w3 _ (gt_mem (l:=waysIn s (gt areas j) fr) (n:=wayP (waysIn s (gt areas j) fr) ((i:Int)+1)) (by omega) (wayP_lt _ _))
      have hl1:=hops_len hm.2.1
      simp only [eWay,List.cons_append,List.nil_append] at hT
      cases o with
      | none=>simp only [stO];simp (disch:=omega) only [↓pq,↓pj,ps,pz,↓reduceIte,reduceLE,reduceLT,reduceEq,reduceGT,reduceGE,reduceAdd,reduceSub,reduceMul,reduceNeg,G_s_RoutesWithin_l0,G_s_RoutesWithin_l1,G_s_RoutesWithin_l2,hj,cell_Ways,hCg j hj,hT,hp,Bool.false_eq_true];rfl
      | some b =>
       have hl2:=hops_len (ho b rfl)
       simp only [stO]
       simp (disch:=omega) only [↓pq,↓pj,ps,pz,↓reduceIte,reduceLE,reduceLT,reduceEq,reduceGT,reduceGE,reduceAdd,reduceSub,reduceMul,reduceNeg,G_s_RoutesWithin_l0,G_s_RoutesWithin_l1,G_s_RoutesWithin_l2,hj,cell_Ways,hCg j hj,hT,hp,Bool.false_eq_true,e_s_Together _ _ _ _ _ _ (show b.hops.length≤1048576 by omega) (show (gt (waysIn s (gt areas j) fr) (wayP (waysIn s (gt areas j) fr) ((i:Int)+1))).hops.length≤1048576 by omega),eWay]
       rfl
   ·intro o q2 ho
    cases o with
    | none=>simp only [stO];simp (disch:=omega) only [↓pq,↓pj,ps,pz,↓reduceIte,reduceLE,reduceLT,reduceEq,reduceGT,reduceGE,reduceAdd,reduceSub,reduceMul,reduceNeg,G_s_RoutesWithin_l0,G_s_RoutesWithin_l1,G_s_RoutesWithin_l2,Bool.false_eq_true];simp
    | some b=>simp only [stO];simp (disch:=omega) only [↓pq,↓pj,ps,pz,↓reduceIte,reduceLE,reduceLT,reduceEq,reduceGT,reduceGE,reduceAdd,reduceSub,reduceMul,reduceNeg,G_s_RoutesWithin_l0,G_s_RoutesWithin_l1,G_s_RoutesWithin_l2,];simp
  ·intro c q' hc
   simp (disch:=omega) only [↓pq,↓pj,ps,pz,↓reduceIte,reduceLE,reduceLT,reduceEq,reduceGT,reduceGE,reduceAdd,reduceSub,reduceMul,reduceNeg,G_s_RoutesWithin_l0,G_s_RoutesWithin_l1,G_s_RoutesWithin_l2,]
  ·rw [foldl_flat (fun i:Nat=>(togs (areas.filterMap fun a=>wayO (waysIn s a fr) ((i:Int)+1))).toList),List.nil_append]
   congr 3
   unfold within wlst
   rw [six_map,List.filterMap_map,fm_flat]
   refine congrArg (fun f=>List.map eWay (List.filterMap f (List.range 6))) (funext fun i=>?_)
   show _=togs _
   refine togs_ext (v:=(i:Int)+1) (fun x hx=>?_) fun x=>?_
   ·obtain ⟨a,_,hx⟩:=List.mem_filterMap.1 hx
    have:=wayO_some hx
    exact ⟨this.2,((hW a).2.2 x this.1).2.1⟩
   ·rw [List.mem_filterMap,List.mem_filter]
    unfold cand
    rw [List.mem_flatMap]
    constructor
    ·rintro ⟨a,ha',hx⟩
     have:=wayO_some hx
     exact ⟨⟨a,ha',this.1⟩,by simpa using this.2⟩
    ·rintro ⟨⟨a,ha',hx⟩,e⟩
     exact ⟨a,ha',(wayO_mem (hW a).1).2 ⟨hx,by simpa using e⟩⟩
end Go.Proofs.YtbhplkilhknciaaDoorC

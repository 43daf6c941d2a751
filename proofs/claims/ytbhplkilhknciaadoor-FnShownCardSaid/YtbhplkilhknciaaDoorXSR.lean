/- What a node at a border tells, by both programs. Conditions: none. -/
import Derived.Test.YtbhplkilhknciaaDoorXSQ
namespace Go.Proofs.YtbhplkilhknciaaDoorC
open Int (reduceLE reduceLT reduceEq reduceGT reduceGE reduceAdd reduceSub reduceMul reduceNeg)
set_option linter.unusedVariables false
set_option linter.unusedSimpArgs false
def recOf (area fr:Int) (w:Way):Rcd:=⟨area,2,fr,w.to,0,[],w.cost,false⟩
def tellC (here:List Way) (fr:Int) (k:Int):Bool:=decide (wayP here k < 0) && decide (k≠fr)
def tellR (here:List Way) (area fr:Int) (W:List Way) (k:Int):Option Rcd:=if tellC here fr k=true then (wayO W k).map (recOf area fr) else none
def toldB (here:List Way) (area fr:Int) (W:List Way):List Rcd:=six.filterMap (tellR here area fr W)
theorem tellR_key {here:List Way} {area fr:Int} {W:List Way} {k:Int} {r:Rcd} (h:tellR here area fr W k=some r):r.key=k∧r.area=area∧r.kind=2∧r.owner=fr∧r.near=[]∧r.seq=0∧r.far=false∧tellC here fr k=true∧∃ w,wayO W k=some w∧r=recOf area fr w:=by
 unfold tellR at h
 split at h
 ·rename_i hc
  obtain ⟨w,hw,e⟩:=Option.map_eq_some_iff.1 h
  subst e
  exact ⟨(wayO_some hw).2,rfl,rfl,rfl,rfl,rfl,rfl,hc,w,hw,rfl⟩
 ·cases h
theorem toldB_mem {here:List Way} {area fr:Int} {W:List Way} {r:Rcd}:r∈toldB here area fr W↔(1≤r.key∧r.key≤6)∧tellR here area fr W r.key=some r:=by
 unfold toldB
 rw [List.mem_filterMap]
 constructor
 ·rintro ⟨k,hk,h⟩
  have:=(tellR_key h).1
  subst this
  exact ⟨mem_six.1 hk,h⟩
 ·rintro ⟨h1,h2⟩
  exact ⟨r.key,mem_six.2 h1,h2⟩
theorem toldB_len (here:List Way) (area fr:Int) (W:List Way):(toldB here area fr W).length≤6:=List.length_filterMap_le _ _
def othersOf (A:List Int) (area:Int):List Int:=A.filter fun a=>!(a == area)
def tellW (s:List Rcd) (A:List Int) (fr area:Int):List Way:=within s (othersOf A area) fr++if area=0 then [] else beyond s A true fr
def beyondR (s:List Rcd) (A:List Int) (fr area:Int):List Rcd:=toldB (waysIn s area fr) area fr (tellW s A fr area)
theorem toldB_nil (here:List Way) (area fr:Int):toldB here area fr []=[]:=by
 unfold toldB
 rw [List.filterMap_eq_nil_iff]
 intro k _
 unfold tellR
 have:wayO [] k=none:=rfl
 rw [this]
 split <;> rfl
theorem wayO_has (W:List Way) (k:Int):(wayO W k).isSome=true↔¬ wayP W k < 0:=by
 unfold wayO
 split <;> simp_all
theorem beyondR_bad {s:List Rcd} (hs:storeOk s=false) (A:List Int) (fr area:Int):beyondR s A fr area=[]:=by
 have hw:∀ a,waysIn s a fr=[]:=fun a=>by unfold waysIn;rw [if_neg (by rw [hs];simp)]
 have h1:∀ A,cand s A fr=[]:=fun A=>by unfold cand;rw [List.flatMap_eq_nil_iff];intro a _;exact hw a
 have h2:∀ A,within s A fr=[]:=fun A=>by unfold within;rw [h1];rfl
 have h3:beyond s A true fr=[]:=by
  unfold beyond
  have:beyondC s A true fr=[]:=by
   unfold beyondC
   rw [List.filterMap_eq_nil_iff]
   intro x hx
   cases e:recB s A true fr x with
   | none=>rfl
   | some w =>
    obtain ⟨_,y,hy,_⟩:=recB_some e
    have:=(wayO_ok hy).2.2.2.2
    rw [hs] at this;cases this
  rw [this];rfl
 unfold beyondR tellW
 rw [h2,h3]
 have:(if area=0 then ([]:List Way) else [])=[]:=by split <;> rfl
 rw [this]
 exact toldB_nil _ _ _
theorem wayO_to {W:List Way} (hl:W.length≤1048576) (hW:∀ w∈W,w.hops.length≤1048576) (k:Int):F_s_WayTo [.l (W.map eWay),ii k]=some (match wayO W k with | none=>[ii 0,ii 0,.l [],bb false] | some w=>eWay w++[bb true]):=by
 rw [e_s_WayTo W k hl hW]
 unfold wayO
 split <;> rfl
theorem e_s_Beyond (s:List Rcd) (A:List Int) (fr area:Int) (h:s.length≤1048576) (hn:NearL s) (ha:A.length≤1048576):F_s_Beyond [.l (s.map eRcd),.l (A.map eInt),ii fr,ii area]=some [.l ((beyondR s A fr area).map eRcd)]:=by
 rw [g_s_Beyond];simp (disch:=omega) only [↓pq,↓pj,ps,pz,↓reduceIte,reduceLE,reduceLT,reduceEq,reduceGT,reduceGE,reduceAdd,reduceSub,reduceMul,reduceNeg,G_s_Beyond_l0,G_s_Beyond_l1,G_s_Beyond,e_s_StoreOk _ h hn]
 cases hs:storeOk s with
 | false=>rw [beyondR_bad hs];simp (disch:=omega) only [↓pq,↓pj,ps,pz,↓reduceIte,reduceLE,reduceLT,reduceEq,reduceGT,reduceGE,reduceAdd,reduceSub,reduceMul,reduceNeg,G_s_Beyond_l0,G_s_Beyond_l1,Bool.false_eq_true];rfl
 | true =>
 simp (disch:=omega) only [↓pq,↓pj,ps,pz,↓reduceIte,reduceLE,reduceLT,reduceEq,reduceGT,reduceGE,reduceAdd,reduceSub,reduceMul,reduceNeg,G_s_Beyond_l0,G_s_Beyond_l1,]
 refine (iter_foldlx A (fun j c=>[.l (c.map eInt),ii j]) (fun c a=>if (!(a == area))=true then c++[a] else c) (fun c=>if c.length≤1048576 then some [T.l ((toldB (waysIn s area fr) area fr (within s c fr++if area=0 then [] else beyond s A true fr)).map eRcd)] else none) [] (fun j c=>c.length≤j) rfl (rounds_lt ha) (by simp) ?_ ?_).trans ?_
 ·intro j c hj hc
  refine ⟨by split;(· simp;omega);(· omega),fun q=>?_⟩
  by_cases k:gt A j=area
  ·have:(!(gt A j == area))=false:=by simpa using k
   rw [this]
   simp (disch:=omega) only [↓pq,↓pj,ps,pz,↓reduceIte,reduceLE,reduceLT,reduceEq,reduceGT,reduceGE,reduceAdd,reduceSub,reduceMul,reduceNeg,G_s_Beyond_l0,G_s_Beyond_l1,hj,k,Bool.false_eq_true]
  ·have:(!(gt A j == area))=true:=by simpa using k
   rw [this]
   simp (disch:=omega) only [↓pq,↓pj,ps,pz,↓reduceIte,reduceLE,reduceLT,reduceEq,reduceGT,reduceGE,reduceAdd,reduceSub,reduceMul,reduceNeg,G_s_Beyond_l0,G_s_Beyond_l1,hj,k]
 ·intro c q hc
  rw [if_pos (by omega)]
  have hWl:=within_len (s:=s) (A:=c) (fr:=fr)
  have hBl:=beyond_len (s:=s) (A:=A) (z:=true) (fr:=fr)
  have hT:=fun k:Int=>wayO_to (W:=waysIn s area fr) (by have:=waysIn_len (s:=s) (a:=area) (fr:=fr);omega) waysIn_hops k
  have hU:=fun k:Int=>wayO_to (W:=within s c fr) (by omega) within_hops k
  have hV:=fun k:Int=>wayO_to (W:=beyond s A true fr) (by omega) (fun w hw=>by have:=hops_len (beyond_ok hw).2.1;omega) k
  simp (disch:=omega) only [↓pq,↓pj,ps,pz,↓reduceIte,reduceLE,reduceLT,reduceEq,reduceGT,reduceGE,reduceAdd,reduceSub,reduceMul,reduceNeg,G_s_Beyond_l0,G_s_Beyond_l1,e_s_WaysIn s area fr h hn,e_s_RoutesWithin s c fr h hn (by omega),e_s_RoutesBeyond s A true fr h hn ha]
  refine (iter_uptox 6 (fun i D=>[.l (D.map eRcd),ii (i+1)]) (fun D i=>D++(tellR (waysIn s area fr) area fr (within s c fr++if area=0 then [] else beyond s A true fr) ((i:Int)+1)).toList) (fun D=>some [T.l (D.map eRcd)]) [] (fun i D=>D.length≤i) rfl (rounds_lt (by omega)) (by simp) ?_ ?_).trans ?_
  ·intro i D hi hD
   have hi':(i:Int)+1≤6:=by omega
   have hT:=hT ((i:Int)+1)
   have hU:=hU ((i:Int)+1)
   have hV:=hV ((i:Int)+1)
   refine ⟨by cases tellR (waysIn s area fr) area fr (within s c fr++if area=0 then [] else beyond s A true fr) ((i:Int)+1) <;> simp <;> omega,fun q=>?_⟩
   have hlit:∀ c:Int,Prim.ev (.lit 8 [true,true,true,true,true,false,true,true]) [ii area,ii 2,ii fr,ii ((i:Int)+1),ii 0,.l [],ii c,bb false]=some (.l ([(⟨area,2,fr,(i:Int)+1,0,[],c,false⟩:Rcd)].map eRcd)):=fun c=>lit_Rcd area 2 fr ((i:Int)+1) 0 [] c false
   unfold tellR tellC
   have hz:(wayO (waysIn s area fr) ((i:Int)+1)).isSome=true↔¬ wayP (waysIn s area fr) ((i:Int)+1) < 0:=wayO_has _ _
   cases hh:wayO (waysIn s area fr) ((i:Int)+1) with
   | some w =>
    rw [hh] at hT hz
    have k1:¬ wayP (waysIn s area fr) ((i:Int)+1) < 0:=hz.1 rfl
    simp only [eWay,List.cons_append,List.nil_append] at hT
    rw [if_neg (by simp [k1])]
    simp (disch:=omega) only [↓pq,↓pj,ps,pz,↓reduceIte,reduceLE,reduceLT,reduceEq,reduceGT,reduceGE,reduceAdd,reduceSub,reduceMul,reduceNeg,G_s_Beyond_l0,G_s_Beyond_l1,hi',hT,Option.toList_none,List.append_nil]
   | none =>
    rw [hh] at hT hz
    have k1:wayP (waysIn s area fr) ((i:Int)+1) < 0:=by
     rcases Int.lt_or_le (wayP (waysIn s area fr) ((i:Int)+1)) 0 with h | h
     ·exact h
     ·have:=hz.2 (by omega);cases this
    simp only [] at hT
    by_cases k2:(i:Int)+1=fr
    ·rw [if_neg (by simp [k2])]
     subst k2
     simp (disch:=omega) only [↓pq,↓pj,ps,pz,↓reduceIte,reduceLE,reduceLT,reduceEq,reduceGT,reduceGE,reduceAdd,reduceSub,reduceMul,reduceNeg,G_s_Beyond_l0,G_s_Beyond_l1,hi',hT,eq_self,Option.toList_none,List.append_nil,Bool.false_eq_true]
    rw [if_pos (by simp [k1,k2]),wayO_append]
    cases hu:wayO (within s c fr) ((i:Int)+1) with
    | some w =>
     rw [hu] at hU
     have hwt:=(wayO_some hu).2
     simp only [eWay,List.cons_append,List.nil_append] at hU
     rw [Option.some_or]
     simp only [Option.map_some,Option.toList_some,recOf,hwt]
     simp (disch:=omega) only [↓pq,↓pj,ps,pz,↓reduceIte,reduceLE,reduceLT,reduceEq,reduceGT,reduceGE,reduceAdd,reduceSub,reduceMul,reduceNeg,G_s_Beyond_l0,G_s_Beyond_l1,hi',hT,hU,k2,Bool.false_eq_true,hlit]
    | none =>
     rw [hu] at hU
     simp only [] at hU
     rw [Option.none_or]
     by_cases k3:area=0
     ·rw [if_pos k3]
      subst k3
      rw [show wayO [] ((i:Int)+1)=none from rfl]
      simp (disch:=omega) only [↓pq,↓pj,ps,pz,↓reduceIte,reduceLE,reduceLT,reduceEq,reduceGT,reduceGE,reduceAdd,reduceSub,reduceMul,reduceNeg,G_s_Beyond_l0,G_s_Beyond_l1,hi',hT,hU,k2,eq_self,Bool.false_eq_true,Option.map_none,Option.toList_none,List.append_nil]
     ·rw [if_neg k3]
      cases hv:wayO (beyond s A true fr) ((i:Int)+1) with
      | none =>
       rw [hv] at hV
       simp only [] at hV
       simp (disch:=omega) only [↓pq,↓pj,ps,pz,↓reduceIte,reduceLE,reduceLT,reduceEq,reduceGT,reduceGE,reduceAdd,reduceSub,reduceMul,reduceNeg,G_s_Beyond_l0,G_s_Beyond_l1,hi',hT,hU,hV,k2,k3,Bool.false_eq_true,Option.map_none,Option.toList_none,List.append_nil]
      | some w =>
       rw [hv] at hV
       have hwt:=(wayO_some hv).2
       simp only [eWay,List.cons_append,List.nil_append] at hV
       simp only [Option.map_some,Option.toList_some,recOf,hwt]
       simp (disch:=omega) only [↓pq,↓pj,ps,pz,↓reduceIte,reduceLE,reduceLT,reduceEq,reduceGT,reduceGE,reduceAdd,reduceSub,reduceMul,reduceNeg,G_s_Beyond_l0,G_s_Beyond_l1,hi',hT,hU,hV,k2,k3,Bool.false_eq_true,hlit]
  ·intro D q hD
   simp (disch:=omega) only [↓pq,↓pj,ps,pz,↓reduceIte,reduceLE,reduceLT,reduceEq,reduceGT,reduceGE,reduceAdd,reduceSub,reduceMul,reduceNeg,G_s_Beyond_l0,G_s_Beyond_l1,]
  ·rw [foldl_flat (fun i:Nat=>(tellR (waysIn s area fr) area fr (within s c fr++if area=0 then [] else beyond s A true fr) ((i:Int)+1)).toList),List.nil_append,fm_flat]
   unfold toldB
   rw [six_map,List.filterMap_map]
   rfl
 ·rw [foldl_filter,List.nil_append,if_pos (by have:=List.length_filter_le (fun a=>!(a == area)) A;omega)]
  rfl
end Go.Proofs.YtbhplkilhknciaaDoorC

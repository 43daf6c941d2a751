/- All routes of a store, by both programs. Conditions: none. -/
import Derived.Test.YtlofiplkmgmnfaaXSN
namespace Go.Proofs.YtlofiplkmgmnfaaC
open Int (reduceLE reduceLT reduceEq reduceGT reduceGE reduceAdd reduceSub reduceMul reduceNeg)
set_option linter.unusedVariables false
set_option linter.unusedSimpArgs false
def upto (n:Nat):List Int:=(List.range n).map fun i:Nat=>(i:Int)+1
theorem mem_upto {n:Nat} {x:Int}:x∈upto n↔1≤x∧x≤n:=by
 unfold upto
 rw [List.mem_map]
 constructor
 ·rintro ⟨i,hi,rfl⟩
  have:=List.mem_range.1 hi
  omega
 ·intro h
  exact ⟨(x - 1).toNat,List.mem_range.2 (by omega),by omega⟩
theorem upto_asc (n:Nat):(upto n).Pairwise (· < ·):=by
 unfold upto
 rw [List.pairwise_map]
 exact List.pairwise_lt_range.imp fun {a b} h=>by omega
theorem asc_upto {n:Nat} {l:List Int} (h:l.Pairwise (· < ·)) (hm:∀ x∈l,1≤x∧x≤n):l=(upto n).filter fun x=>l.contains x :=
 asc_ext h ((upto_asc n).filter _) fun x=>by
  rw [List.mem_filter,mem_upto,List.contains_iff_mem]
  exact ⟨fun hx=>⟨hm x hx,hx⟩,fun hx=>hx.2⟩
theorem asc_len {n:Nat} {l:List Int} (h:l.Pairwise (· < ·)) (hm:∀ x∈l,1≤x∧x≤n):l.length≤n:=by
 rw [asc_upto h hm]
 refine Nat.le_trans (List.length_filter_le _ _) ?_
 unfold upto
 simp
theorem iter_with {c:List Int} (h:c.Pairwise (· < ·)) (hl:c.length≤1000) (n:Int) {F:Sem1→Sem1} {s:Sem1} {st:List T} (hst:st=[ii 0])
  (h1:∀ (k:Nat) (w:Sem1),(k:Int) < c.length→gt c (k:Int) < n→F w [ii k]=w [ii ((k:Int)+1)])
  (h2:∀ (k:Nat) (w:Sem1),(k:Int) < c.length→gt c (k:Int)=n→F w [ii k]=s [.l (c.map eInt)])
  (h3:∀ (k:Nat) (w:Sem1),(k:Int) < c.length→¬ gt c (k:Int) < n→gt c (k:Int)≠n→F w [ii k]=s [.l ((c.take k++([n]++c.drop k)).map eInt)])
  (h4:∀ (k:Nat) (w:Sem1),¬ (k:Int) < c.length→k≤c.length→F w [ii k]=s [.l ((c.take k++([n]++c.drop k)).map eInt)]) :
  iter F rounds st=s [.l ((insI c n).map eInt)]:=by
 have hle:=cntI_le c n
 obtain ⟨c1,c2,c3⟩:=cntI_split h n
 refine iter_while (fun k=>[ii k]) (cntI c n) hst (rounds_lt (by omega)) ?_ ?_
 ·intro k hk w
  exact h1 k w (by omega) (by rw [gt_elem (by omega)];exact (c3 k (by omega)).2 (by omega))
 ·intro w
  by_cases hlt:cntI c n < c.length
  ·have hk2:¬ (gt c ((cntI c n:Nat):Int) < n):=by rw [gt_elem hlt];intro hc';have:=(c3 _ hlt).1 hc';omega
   have hk3:=cntI_at h hlt
   by_cases hin:n∈c
   ·rw [insI_in h hin]
    exact h2 _ w (by omega) (hk3.2 hin)
   ·rw [insI_cut h hin]
    exact h3 _ w (by omega) hk2 (fun e=>hin (hk3.1 e))
  ·rw [insI_cut h (cntI_notin h hlt)]
   exact h4 _ w (by omega) hle
theorem with_areas0 {c:List Int} (h:c.Pairwise (· < ·)) (hl:c.length≤1000) (n:Int) (q:Sem1) :
  iter (G_i_AreasOf_l0 F_i_copyInts (.l (c.map eInt)) (ii n) q) rounds [ii 0]=q [.l ((insI c n).map eInt)]:=by
 refine iter_with h hl n rfl ?_ ?_ ?_ ?_
 ·intro k w hk1 hk2
  simp (disch:=omega) only [↓pq,↓pj,ps,pz,↓reduceIte,reduceLE,reduceLT,reduceEq,reduceGT,reduceGE,reduceAdd,reduceSub,reduceMul,reduceNeg,G_i_AreasOf_l0,G_i_AreasOf_l1,G_i_AreasOf_l2,hk1,hk2]
 ·intro k w hk1 hk2
  have hk3:¬ n < n:=by omega
  simp (disch:=omega) only [↓pq,↓pj,ps,pz,↓reduceIte,reduceLE,reduceLT,reduceEq,reduceGT,reduceGE,reduceAdd,reduceSub,reduceMul,reduceNeg,G_i_AreasOf_l0,G_i_AreasOf_l1,G_i_AreasOf_l2,hk1,hk2,hk3]
 ·intro k w hk1 hk2 hk3
  simp (disch:=omega) only [↓pq,↓pj,ps,pz,↓reduceIte,reduceLE,reduceLT,reduceEq,reduceGT,reduceGE,reduceAdd,reduceSub,reduceMul,reduceNeg,G_i_AreasOf_l0,G_i_AreasOf_l1,G_i_AreasOf_l2,hk1,hk2,hk3,e_i_copyInts _ (show (c.take k).length≤1048576 by simp;omega)]
  rw [app1_Int_true (by simp;omega),bind_some',app_Int_true (by simp;omega),bind_some',List.append_assoc]
 ·intro k w hk1 hk2
  simp (disch:=omega) only [↓pq,↓pj,ps,pz,↓reduceIte,reduceLE,reduceLT,reduceEq,reduceGT,reduceGE,reduceAdd,reduceSub,reduceMul,reduceNeg,G_i_AreasOf_l0,G_i_AreasOf_l1,G_i_AreasOf_l2,hk1,e_i_copyInts _ (show (c.take k).length≤1048576 by simp;omega)]
  rw [app1_Int_true (by simp;omega),bind_some',app_Int_true (by simp;omega),bind_some',List.append_assoc]
theorem with_areas1 {c:List Int} (h:c.Pairwise (· < ·)) (hl:c.length≤1000) (n:Int) (q:Sem1) :
  iter (G_i_AreasOf_l1 F_i_copyInts (.l (c.map eInt)) (ii n) q) rounds [ii 0]=q [.l ((insI c n).map eInt)]:=by
 refine iter_with h hl n rfl ?_ ?_ ?_ ?_
 ·intro k w hk1 hk2
  simp (disch:=omega) only [↓pq,↓pj,ps,pz,↓reduceIte,reduceLE,reduceLT,reduceEq,reduceGT,reduceGE,reduceAdd,reduceSub,reduceMul,reduceNeg,G_i_AreasOf_l0,G_i_AreasOf_l1,G_i_AreasOf_l2,hk1,hk2]
 ·intro k w hk1 hk2
  have hk3:¬ n < n:=by omega
  simp (disch:=omega) only [↓pq,↓pj,ps,pz,↓reduceIte,reduceLE,reduceLT,reduceEq,reduceGT,reduceGE,reduceAdd,reduceSub,reduceMul,reduceNeg,G_i_AreasOf_l0,G_i_AreasOf_l1,G_i_AreasOf_l2,hk1,hk2,hk3]
 ·intro k w hk1 hk2 hk3
  simp (disch:=omega) only [↓pq,↓pj,ps,pz,↓reduceIte,reduceLE,reduceLT,reduceEq,reduceGT,reduceGE,reduceAdd,reduceSub,reduceMul,reduceNeg,G_i_AreasOf_l0,G_i_AreasOf_l1,G_i_AreasOf_l2,hk1,hk2,hk3,e_i_copyInts _ (show (c.take k).length≤1048576 by simp;omega)]
  rw [app1_Int_true (by simp;omega),bind_some',app_Int_true (by simp;omega),bind_some',List.append_assoc]
 ·intro k w hk1 hk2
  simp (disch:=omega) only [↓pq,↓pj,ps,pz,↓reduceIte,reduceLE,reduceLT,reduceEq,reduceGT,reduceGE,reduceAdd,reduceSub,reduceMul,reduceNeg,G_i_AreasOf_l0,G_i_AreasOf_l1,G_i_AreasOf_l2,hk1,e_i_copyInts _ (show (c.take k).length≤1048576 by simp;omega)]
  rw [app1_Int_true (by simp;omega),bind_some',app_Int_true (by simp;omega),bind_some',List.append_assoc]
theorem with_next0 {c:List Int} (h:c.Pairwise (· < ·)) (hl:c.length≤1000) (n:Int) (q:Sem1) :
  iter (G_i_NextTo_l0 F_i_copyInts (.l (c.map eInt)) (ii n) q) rounds [ii 0]=q [.l ((insI c n).map eInt)]:=by
 refine iter_with h hl n rfl ?_ ?_ ?_ ?_
 ·intro k w hk1 hk2
  simp (disch:=omega) only [↓pq,↓pj,ps,pz,↓reduceIte,reduceLE,reduceLT,reduceEq,reduceGT,reduceGE,reduceAdd,reduceSub,reduceMul,reduceNeg,G_i_NextTo_l0,G_i_NextTo_l1,G_i_NextTo_l2,hk1,hk2]
 ·intro k w hk1 hk2
  have hk3:¬ n < n:=by omega
  simp (disch:=omega) only [↓pq,↓pj,ps,pz,↓reduceIte,reduceLE,reduceLT,reduceEq,reduceGT,reduceGE,reduceAdd,reduceSub,reduceMul,reduceNeg,G_i_NextTo_l0,G_i_NextTo_l1,G_i_NextTo_l2,hk1,hk2,hk3]
 ·intro k w hk1 hk2 hk3
  simp (disch:=omega) only [↓pq,↓pj,ps,pz,↓reduceIte,reduceLE,reduceLT,reduceEq,reduceGT,reduceGE,reduceAdd,reduceSub,reduceMul,reduceNeg,G_i_NextTo_l0,G_i_NextTo_l1,G_i_NextTo_l2,hk1,hk2,hk3,e_i_copyInts _ (show (c.take k).length≤1048576 by simp;omega)]
  rw [app1_Int_true (by simp;omega),bind_some',app_Int_true (by simp;omega),bind_some',List.append_assoc]
 ·intro k w hk1 hk2
  simp (disch:=omega) only [↓pq,↓pj,ps,pz,↓reduceIte,reduceLE,reduceLT,reduceEq,reduceGT,reduceGE,reduceAdd,reduceSub,reduceMul,reduceNeg,G_i_NextTo_l0,G_i_NextTo_l1,G_i_NextTo_l2,hk1,e_i_copyInts _ (show (c.take k).length≤1048576 by simp;omega)]
  rw [app1_Int_true (by simp;omega),bind_some',app_Int_true (by simp;omega),bind_some',List.append_assoc]
theorem with_next1 {c:List Int} (h:c.Pairwise (· < ·)) (hl:c.length≤1000) (n:Int) (q:Sem1) :
  iter (G_i_NextTo_l1 F_i_copyInts (ii n) (.l (c.map eInt)) q) rounds [ii 0]=q [.l ((insI c n).map eInt)]:=by
 refine iter_with h hl n rfl ?_ ?_ ?_ ?_
 ·intro k w hk1 hk2
  simp (disch:=omega) only [↓pq,↓pj,ps,pz,↓reduceIte,reduceLE,reduceLT,reduceEq,reduceGT,reduceGE,reduceAdd,reduceSub,reduceMul,reduceNeg,G_i_NextTo_l0,G_i_NextTo_l1,G_i_NextTo_l2,hk1,hk2]
 ·intro k w hk1 hk2
  have hk3:¬ n < n:=by omega
  simp (disch:=omega) only [↓pq,↓pj,ps,pz,↓reduceIte,reduceLE,reduceLT,reduceEq,reduceGT,reduceGE,reduceAdd,reduceSub,reduceMul,reduceNeg,G_i_NextTo_l0,G_i_NextTo_l1,G_i_NextTo_l2,hk1,hk2,hk3]
 ·intro k w hk1 hk2 hk3
  simp (disch:=omega) only [↓pq,↓pj,ps,pz,↓reduceIte,reduceLE,reduceLT,reduceEq,reduceGT,reduceGE,reduceAdd,reduceSub,reduceMul,reduceNeg,G_i_NextTo_l0,G_i_NextTo_l1,G_i_NextTo_l2,hk1,hk2,hk3,e_i_copyInts _ (show (c.take k).length≤1048576 by simp;omega)]
  rw [app1_Int_true (by simp;omega),bind_some',app_Int_true (by simp;omega),bind_some',List.append_assoc]
 ·intro k w hk1 hk2
  simp (disch:=omega) only [↓pq,↓pj,ps,pz,↓reduceIte,reduceLE,reduceLT,reduceEq,reduceGT,reduceGE,reduceAdd,reduceSub,reduceMul,reduceNeg,G_i_NextTo_l0,G_i_NextTo_l1,G_i_NextTo_l2,hk1,e_i_copyInts _ (show (c.take k).length≤1048576 by simp;omega)]
  rw [app1_Int_true (by simp;omega),bind_some',app_Int_true (by simp;omega),bind_some',List.append_assoc]
theorem waysIn_fr {s:List Rcd} {ar fr:Int} {w:Way} (hw:w∈waysIn s ar fr):∃ v∈waysIn s ar fr,v.to=fr:=by
 unfold waysIn at hw ⊢
 by_cases hc:storeOk s=true∧inB fr 1 6=true∧0≤nodeP s ar fr
 ·rw [if_pos hc] at hw ⊢
  obtain ⟨D,hI⟩:=dij_inv hc.1 ar fr 6 (W0 fr) [] (DInv.start (inB_iff.1 hc.2.1))
  have hl:=hI.ok.len
  obtain ⟨h1,h2⟩:=List.mem_filter.1 hw
  have h2:w.to≠0:=by simpa using h2
  obtain ⟨i,hi,rfl⟩:=List.mem_iff_getElem.1 h1
  have hto:=hI.ok.to (i:Int) (by omega) (by omega)
  rw [gt_elem hi] at hto
  have hto:=hto.resolve_left h2
  rcases hI.first with ⟨_,hf⟩ | hf
  ·have hge:=hI.fr6
   have:=hf (i:Int) (by omega) (by omega) (by rw [gt_elem hi];exact h2)
   exact ⟨_,hw,by rw [hto,this]⟩
  ·have h3:=hI.mem fr hf
   have h4:=hI.fr6
   have h5:=(hI.ok.to fr (by omega) (by omega)).resolve_left h3.2
   refine ⟨_,List.mem_filter.2 ⟨gt_mem (n:=fr) (by omega) (by omega),?_⟩,h5⟩
   simpa using h3.2
 ·rw [if_neg hc] at hw;cases hw
theorem wayP_has {l:List Way} {w:Way} (h:w∈l):¬ wayP l w.to < 0:=by
 intro hc
 have:=(findP_none _ _).1 hc w h
 simp at this
theorem within_has {s:List Rcd} {A:List Int} {fr:Int} {v:Way} (h:v∈cand s A fr):¬ wayP (within s A fr) v.to < 0:=by
 rcases togs_best (v:=v.to) _ ((cand s A fr).filter fun w=>w.to == v.to) rfl (fun y hy=>by have:=List.mem_filter.1 hy;exact ⟨by simpa using this.2,(cand_ok y this.1).2.1⟩) with ⟨e,_⟩ | ⟨b,e,hb,_⟩
 ·have:v∈(cand s A fr).filter fun w=>w.to == v.to:=List.mem_filter.2 ⟨h,by simp⟩
  rw [e] at this;cases this
 ·have hm:b∈within s A fr:=(wlst_mem (fun x hx=>(cand_ok x hx).2.1)).2 ⟨by rw [hb];exact (cand_ok v h).1,by rw [hb];exact e⟩
  rw [← hb]
  exact wayP_has hm
theorem beyond_ok {s:List Rcd} {A:List Int} {z:Bool} {fr:Int} {w:Way} (h:w∈beyond s A z fr):(1≤w.to∧w.to≤6)∧HopsOk w.hops∧(0≤w.cost∧w.cost < 60000)∧w.to≠fr∧wayP (within s A fr) w.to < 0:=by
 have h1:=wlst_hops (fun x hx=>(beyondC_ok x hx).2.1) h
 obtain ⟨hh,y,hy,e1,e2⟩:=h1
 have h2:=beyondC_ok y hy
 obtain ⟨x,hx,h3⟩:=List.mem_filterMap.1 hy
 obtain ⟨h4,y',h5,h6,h7⟩:=recB_some h3
 have hk:x.key=w.to:=by rw [← e1,h7]
 refine ⟨by rw [← e1];exact h2.1,hh,by rw [← e2];exact h2.2.2,?_,by rw [← hk];exact h4.2.2.2.2.2⟩
 intro e
 obtain ⟨v,hv,ev⟩:=waysIn_fr (wayO_some h5).1
 have hc:v∈cand s A fr:=List.mem_flatMap.2 ⟨x.area,List.contains_iff_mem.1 h4.2.2.2.1,hv⟩
 have h8:=within_has hc
 have he:v.to=x.key:=by omega
 rw [he] at h8
 exact h8 h4.2.2.2.2.2
theorem within_ok {s:List Rcd} {A:List Int} {fr:Int} {w:Way} (h:w∈within s A fr):(1≤w.to∧w.to≤6)∧HopsOk w.hops∧(0≤w.cost∧w.cost≤6000):=by
 obtain ⟨hh,y,hy,e1,e2⟩:=wlst_hops (fun x hx=>(cand_ok x hx).2.1) h
 have:=cand_ok y hy
 exact ⟨by rw [← e1];exact this.1,hh,by rw [← e2];exact this.2.2⟩
theorem beyond_len {s:List Rcd} {A:List Int} {z:Bool} {fr:Int}:(beyond s A z fr).length≤6:=wlst_len _
end Go.Proofs.YtlofiplkmgmnfaaC

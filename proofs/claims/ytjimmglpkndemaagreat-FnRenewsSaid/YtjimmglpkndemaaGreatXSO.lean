/- All routes of a store, by both programs. Conditions: none. -/
import Derived.Test.YtjimmglpkndemaaGreatXSN
namespace Go.Proofs.YtjimmglpkndemaaGreatC
open Int renaming reduceLE → Q0_, reduceLT → Q1_, reduceEq → Q2_, reduceGT → Q3_, reduceGE → Q4_, reduceAdd → Q5_, reduceSub → Q6_, reduceMul → Q7_, reduceNeg → Q8_
set_option linter.unusedVariables false
set_option linter.unusedSimpArgs false
def upto (n:Nat):List Int:=(List.range n).map fun i:Nat=>(i:Int)+1
theorem avg_ {n:Nat} {x:Int}:x∈upto n↔1≤x∧x≤n:=by
 unfold upto
 rw [List.mem_map]
 constructor
 ·rintro ⟨i,hi,rfl⟩
  have:=List.mem_range.1 hi
  omega
 ·intro h
  exact ⟨(x - 1).toNat,List.mem_range.2 (by omega),by omega⟩
theorem avu_ (n:Nat):(upto n).Pairwise (· < ·):=by
 unfold upto
 rw [List.pairwise_map]
 exact List.pairwise_lt_range.imp fun {a b} h=>by omega
theorem aI3_ {n:Nat} {l:List Int} (h:l.Pairwise (· < ·)) (hm:∀ x∈l,1≤x∧x≤n):l=(upto n).filter fun x=>l.contains x :=
 qD_ h ((avu_ n).filter _) fun x=>by
  rw [List.mem_filter,avg_,List.contains_iff_mem]
  exact ⟨fun hx=>⟨hm x hx,hx⟩,fun hx=>hx.2⟩
theorem apy_ {n:Nat} {l:List Int} (h:l.Pairwise (· < ·)) (hm:∀ x∈l,1≤x∧x≤n):l.length≤n:=by
 rw [aI3_ h hm]
 refine Nat.le_trans (List.length_filter_le _ _) ?_
 unfold upto
 simp
theorem ara_ {c:List Int} (h:c.Pairwise (· < ·)) (hl:c.length≤1000) (n:Int) {F:Sem1→Sem1} {s:Sem1} {st:List T} (hst:st=[ii 0])
  (h1:∀ (k:Nat) (w:Sem1),(k:Int) < c.length→gt c (k:Int) < n→F w [ii k]=w [ii ((k:Int)+1)])
  (h2:∀ (k:Nat) (w:Sem1),(k:Int) < c.length→gt c (k:Int)=n→F w [ii k]=s [.l (c.map eInt)])
  (h3:∀ (k:Nat) (w:Sem1),(k:Int) < c.length→¬ gt c (k:Int) < n→gt c (k:Int)≠n→F w [ii k]=s [.l ((c.take k++([n]++c.drop k)).map eInt)])
  (h4:∀ (k:Nat) (w:Sem1),¬ (k:Int) < c.length→k≤c.length→F w [ii k]=s [.l ((c.take k++([n]++c.drop k)).map eInt)]) :
  iter F rounds st=s [.l ((insI c n).map eInt)]:=by
 have hle:=akv_ c n
 obtain ⟨c1,c2,c3⟩:=qZ_ h n
 refine wi_ (fun k=>[ii k]) (cntI c n) hst (za_ (by omega)) ?_ ?_
 ·intro k hk w
  exact h1 k w (by omega) (by rw [zm_ (by omega)];exact (c3 k (by omega)).2 (by omega))
 ·intro w
  by_cases hlt:cntI c n < c.length
  ·have hk2:¬ (gt c ((cntI c n:Nat):Int) < n):=by rw [zm_ hlt];intro hc';have:=(c3 _ hlt).1 hc';omega
   have hk3:=apm_ h hlt
   by_cases hin:n∈c
   ·rw [aqa_ h hin]
    exact h2 _ w (by omega) (hk3.2 hin)
   ·rw [kz_ h hin]
    exact h3 _ w (by omega) hk2 (fun e=>hin (hk3.1 e))
  ·rw [kz_ h (ag1_ h hlt)]
   exact h4 _ w (by omega) hle
theorem az1_ {c:List Int} (h:c.Pairwise (· < ·)) (hl:c.length≤1000) (n:Int) (q:Sem1) :
  iter (z9_ ya_ (.l (c.map eInt)) (ii n) q) rounds [ii 0]=q [.l ((insI c n).map eInt)]:=by
 refine ara_ h hl n rfl ?_ ?_ ?_ ?_
 ·intro k w hk1 hk2
  simp (disch:=omega) only [↓pq,↓pj,ps,pz,↓reduceIte,Q0_,Q1_,Q2_,Q3_,Q4_,Q5_,Q6_,Q7_,Q8_,z9_,yb_,yn_,hk1,hk2]
 ·intro k w hk1 hk2
  have hk3:¬ n < n:=by omega
  simp (disch:=omega) only [↓pq,↓pj,ps,pz,↓reduceIte,Q0_,Q1_,Q2_,Q3_,Q4_,Q5_,Q6_,Q7_,Q8_,z9_,yb_,yn_,hk1,hk2,hk3]
 ·intro k w hk1 hk2 hk3
  simp (disch:=omega) only [↓pq,↓pj,ps,pz,↓reduceIte,Q0_,Q1_,Q2_,Q3_,Q4_,Q5_,Q6_,Q7_,Q8_,z9_,yb_,yn_,hk1,hk2,hk3,yq_ _ (show (c.take k).length≤1048576 by simp;omega)]
  rw [wf_ (by simp;omega),zd_,xR_ (by simp;omega),zd_,List.append_assoc]
 ·intro k w hk1 hk2
  simp (disch:=omega) only [↓pq,↓pj,ps,pz,↓reduceIte,Q0_,Q1_,Q2_,Q3_,Q4_,Q5_,Q6_,Q7_,Q8_,z9_,yb_,yn_,hk1,yq_ _ (show (c.take k).length≤1048576 by simp;omega)]
  rw [wf_ (by simp;omega),zd_,xR_ (by simp;omega),zd_,List.append_assoc]
theorem azu_ {c:List Int} (h:c.Pairwise (· < ·)) (hl:c.length≤1000) (n:Int) (q:Sem1) :
  iter (yb_ ya_ (.l (c.map eInt)) (ii n) q) rounds [ii 0]=q [.l ((insI c n).map eInt)]:=by
 refine ara_ h hl n rfl ?_ ?_ ?_ ?_
 ·intro k w hk1 hk2
  simp (disch:=omega) only [↓pq,↓pj,ps,pz,↓reduceIte,Q0_,Q1_,Q2_,Q3_,Q4_,Q5_,Q6_,Q7_,Q8_,z9_,yb_,yn_,hk1,hk2]
 ·intro k w hk1 hk2
  have hk3:¬ n < n:=by omega
  simp (disch:=omega) only [↓pq,↓pj,ps,pz,↓reduceIte,Q0_,Q1_,Q2_,Q3_,Q4_,Q5_,Q6_,Q7_,Q8_,z9_,yb_,yn_,hk1,hk2,hk3]
 ·intro k w hk1 hk2 hk3
  simp (disch:=omega) only [↓pq,↓pj,ps,pz,↓reduceIte,Q0_,Q1_,Q2_,Q3_,Q4_,Q5_,Q6_,Q7_,Q8_,z9_,yb_,yn_,hk1,hk2,hk3,yq_ _ (show (c.take k).length≤1048576 by simp;omega)]
  rw [wf_ (by simp;omega),zd_,xR_ (by simp;omega),zd_,List.append_assoc]
 ·intro k w hk1 hk2
  simp (disch:=omega) only [↓pq,↓pj,ps,pz,↓reduceIte,Q0_,Q1_,Q2_,Q3_,Q4_,Q5_,Q6_,Q7_,Q8_,z9_,yb_,yn_,hk1,yq_ _ (show (c.take k).length≤1048576 by simp;omega)]
  rw [wf_ (by simp;omega),zd_,xR_ (by simp;omega),zd_,List.append_assoc]
theorem aFu_ {s:List Rcd} {ar fr:Int} {w:Way} (hw:w∈waysIn s ar fr):∃ v∈waysIn s ar fr,v.to=fr:=by
 unfold waysIn at hw ⊢
 by_cases hc:ze_ s=true∧inB fr 1 6=true∧0≤zT_ s ar fr
 ·rw [if_pos hc] at hw ⊢
  obtain ⟨D,hI⟩:=apw_ hc.1 ar fr 6 (W0 fr) [] (DInv.start (inB_iff.1 hc.2.1))
  have hl:=hI.ok.len
  obtain ⟨h1,h2⟩:=List.mem_filter.1 hw
  have h2:w.to≠0:=by simpa using h2
  obtain ⟨i,hi,rfl⟩:=List.mem_iff_getElem.1 h1
  have hto:=hI.ok.to (i:Int) (by omega) (by omega)
  rw [zm_ hi] at hto
  have hto:=hto.resolve_left h2
  rcases hI.first with ⟨_,hf⟩ | hf
  ·have hge:=hI.fr6
   have:=hf (i:Int) (by omega) (by omega) (by rw [zm_ hi];exact h2)
   exact ⟨_,hw,by rw [hto,this]⟩
  ·have h3:=hI.mem fr hf
   have h4:=hI.fr6
   have h5:=(hI.ok.to fr (by omega) (by omega)).resolve_left h3.2
   refine ⟨_,List.mem_filter.2 ⟨zS_ (n:=fr) (by omega) (by omega),?_⟩,h5⟩
   simpa using h3.2
 ·rw [if_neg hc] at hw;cases hw
theorem aLj_ {l:List Way} {w:Way} (h:w∈l):¬ wayP l w.to < 0:=by
 intro hc
 have:=(wX_ _ _).1 hc w h
 simp at this
theorem aDf_ {s:List Rcd} {A:List Int} {fr:Int} {v:Way} (h:v∈cand s A fr):¬ wayP (within s A fr) v.to < 0:=by
 rcases uy_ (v:=v.to) _ ((cand s A fr).filter fun w=>w.to == v.to) rfl (fun y hy=>by have:=List.mem_filter.1 hy;exact ⟨by simpa using this.2,(abb_ y this.1).2.1⟩) with ⟨e,_⟩ | ⟨b,e,hb,_⟩
 ·have:v∈(cand s A fr).filter fun w=>w.to == v.to:=List.mem_filter.2 ⟨h,by simp⟩
  rw [e] at this;cases this
 ·have hm:b∈within s A fr:=(uH_ (fun x hx=>(abb_ x hx).2.1)).2 ⟨by rw [hb];exact (abb_ v h).1,by rw [hb];exact e⟩
  rw [← hb]
  exact aLj_ hm
theorem ajx_ {s:List Rcd} {A:List Int} {z:Bool} {fr:Int} {w:Way} (h:w∈beyond s A z fr):(1≤w.to∧w.to≤6)∧zs_ w.hops∧(0≤w.cost∧w.cost < 60000)∧w.to≠fr∧wayP (within s A fr) w.to < 0:=by
 have h1:=jI_ (fun x hx=>(anl_ x hx).2.1) h
 obtain ⟨hh,y,hy,e1,e2⟩:=h1
 have h2:=anl_ y hy
 obtain ⟨x,hx,h3⟩:=List.mem_filterMap.1 hy
 obtain ⟨h4,y',h5,h6,h7⟩:=jH_ h3
 have hk:x.key=w.to:=by rw [← e1,h7]
 refine ⟨by rw [← e1];exact h2.1,hh,by rw [← e2];exact h2.2.2,?_,by rw [← hk];exact h4.2.2.2.2.2⟩
 intro e
 obtain ⟨v,hv,ev⟩:=aFu_ (wa_ h5).1
 have hc:v∈cand s A fr:=List.mem_flatMap.2 ⟨x.area,List.contains_iff_mem.1 h4.2.2.2.1,hv⟩
 have h8:=aDf_ hc
 have he:v.to=x.key:=by omega
 rw [he] at h8
 exact h8 h4.2.2.2.2.2
theorem ar2_ {s:List Rcd} {A:List Int} {fr:Int} {w:Way} (h:w∈within s A fr):(1≤w.to∧w.to≤6)∧zs_ w.hops∧(0≤w.cost∧w.cost≤6000):=by
 obtain ⟨hh,y,hy,e1,e2⟩:=jI_ (fun x hx=>(abb_ x hx).2.1) h
 have:=abb_ y hy
 exact ⟨by rw [← e1];exact this.1,hh,by rw [← e2];exact this.2.2⟩
theorem anw_ {s:List Rcd} {A:List Int} {z:Bool} {fr:Int}:(beyond s A z fr).length≤6:=abm_ _
end Go.Proofs.YtjimmglpkndemaaGreatC

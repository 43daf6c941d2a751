/- All routes of a store, by both programs. Conditions: none. -/
import Derived.Test.YtiebbbmibbkpcaaGreatXSN
namespace Go.Proofs.YtiebbbmibbkpcaaGreatC
open Int (reduceLE reduceLT reduceEq reduceGT reduceGE reduceAdd reduceSub reduceMul reduceNeg)
set_option linter.unusedVariables false
set_option linter.unusedSimpArgs false
def upto (n:Nat):List Int:=(List.range n).map fun i:Nat=>(i:Int)+1
theorem aOo_ {n:Nat} {x:Int}:x∈upto n↔1≤x∧x≤n:=by
 unfold upto
 rw [List.mem_map]
 constructor
 ·rintro ⟨i,hi,rfl⟩
  have:=List.mem_range.1 hi
  omega
 ·intro h
  exact ⟨(x - 1).toNat,List.mem_range.2 (by omega),by omega⟩
theorem aNm_ (n:Nat):(upto n).Pairwise (· < ·):=by
 unfold upto
 rw [List.pairwise_map]
 exact List.pairwise_lt_range.imp fun {a b} h=>by omega
theorem axn_ {n:Nat} {l:List Int} (h:l.Pairwise (· < ·)) (hm:∀ x∈l,1≤x∧x≤n):l=(upto n).filter fun x=>l.contains x :=
 j1_ h ((aNm_ n).filter _) fun x=>by
  rw [List.mem_filter,aOo_,List.contains_iff_mem]
  exact ⟨fun hx=>⟨hm x hx,hx⟩,fun hx=>hx.2⟩
theorem abq_ {n:Nat} {l:List Int} (h:l.Pairwise (· < ·)) (hm:∀ x∈l,1≤x∧x≤n):l.length≤n:=by
 rw [axn_ h hm]
 refine Nat.le_trans (List.length_filter_le _ _) ?_
 unfold upto
 simp
theorem aRa_ {α:Type} {n:Nat} {l:List Int} (h:l.Pairwise (· < ·)) (hm:∀ x∈l,1≤x∧x≤n) (f:Int→Option α) (hf:∀ x,x ∉ l→f x=none):l.filterMap f=(upto n).filterMap f:=by
 conv=>lhs;rw [axn_ h hm]
 rw [List.filterMap_filter]
 refine congrArg (fun g=>List.filterMap g (upto n)) (funext fun x=>?_)
 cases hc:l.contains x with
 | true=>rfl
 | false =>
  rw [hf x (fun hx=>by rw [List.contains_iff_mem.2 hx] at hc;cases hc)]
  rfl
theorem akj_ {c:List Int} (h:c.Pairwise (· < ·)) (hl:c.length≤1000) (n:Int) {F:Sem1→Sem1} {s:Sem1} {st:List T} (hst:st=[ii 0])
  (h1:∀ (k:Nat) (w:Sem1),(k:Int) < c.length→gt c (k:Int) < n→F w [ii k]=w [ii ((k:Int)+1)])
  (h2:∀ (k:Nat) (w:Sem1),(k:Int) < c.length→gt c (k:Int)=n→F w [ii k]=s [.l (c.map eInt)])
  (h3:∀ (k:Nat) (w:Sem1),(k:Int) < c.length→¬ gt c (k:Int) < n→gt c (k:Int)≠n→F w [ii k]=s [.l ((c.take k++([n]++c.drop k)).map eInt)])
  (h4:∀ (k:Nat) (w:Sem1),¬ (k:Int) < c.length→k≤c.length→F w [ii k]=s [.l ((c.take k++([n]++c.drop k)).map eInt)]) :
  iter F rounds st=s [.l ((insI c n).map eInt)]:=by
 have hle:=alk_ c n
 obtain ⟨c1,c2,c3⟩:=qA_ h n
 refine qC_ (fun k=>[ii k]) (cntI c n) hst (zb_ (by omega)) ?_ ?_
 ·intro k hk w
  exact h1 k w (by omega) (by rw [zm_ (by omega)];exact (c3 k (by omega)).2 (by omega))
 ·intro w
  by_cases hlt:cntI c n < c.length
  ·have hk2:¬ (gt c ((cntI c n:Nat):Int) < n):=by rw [zm_ hlt];intro hc';have:=(c3 _ hlt).1 hc';omega
   have hk3:=aqy_ h hlt
   by_cases hin:n∈c
   ·rw [aqu_ h hin]
    exact h2 _ w (by omega) (hk3.2 hin)
   ·rw [kP_ h hin]
    exact h3 _ w (by omega) hk2 (fun e=>hin (hk3.1 e))
  ·rw [kP_ h (ai9_ h hlt)]
   exact h4 _ w (by omega) hle
theorem aI1_ {c:List Int} (h:c.Pairwise (· < ·)) (hl:c.length≤1000) (n:Int) (q:Sem1) :
  iter (zK_ zM_ (.l (c.map eInt)) (ii n) q) rounds [ii 0]=q [.l ((insI c n).map eInt)]:=by
 refine akj_ h hl n rfl ?_ ?_ ?_ ?_
 ·intro k w hk1 hk2
  simp (disch:=omega) only [↓pq,ps,pz,↓reduceIte,reduceLE,reduceLT,reduceEq,reduceGT,reduceGE,reduceAdd,reduceSub,reduceMul,reduceNeg,zQ_,zK_,zO_,zP_,zN_,hk1,hk2]
 ·intro k w hk1 hk2
  have hk3:¬ n < n:=by omega
  simp (disch:=omega) only [↓pq,ps,pz,↓reduceIte,reduceLE,reduceLT,reduceEq,reduceGT,reduceGE,reduceAdd,reduceSub,reduceMul,reduceNeg,zQ_,zK_,zO_,zP_,zN_,hk1,hk2,hk3]
 ·intro k w hk1 hk2 hk3
  simp (disch:=omega) only [↓pq,ps,pz,↓reduceIte,reduceLE,reduceLT,reduceEq,reduceGT,reduceGE,reduceAdd,reduceSub,reduceMul,reduceNeg,zQ_,zK_,zO_,zP_,zN_,hk1,hk2,hk3,zZ_ _ (show (c.take k).length≤1048576 by simp;omega)]
  rw [xz_ (by simp;omega),za_,xn_ (by simp;omega),za_,List.append_assoc]
 ·intro k w hk1 hk2
  simp (disch:=omega) only [↓pq,ps,pz,↓reduceIte,reduceLE,reduceLT,reduceEq,reduceGT,reduceGE,reduceAdd,reduceSub,reduceMul,reduceNeg,zQ_,zK_,zO_,zP_,zN_,hk1,zZ_ _ (show (c.take k).length≤1048576 by simp;omega)]
  rw [xz_ (by simp;omega),za_,xn_ (by simp;omega),za_,List.append_assoc]
theorem aBr_ {c:List Int} (h:c.Pairwise (· < ·)) (hl:c.length≤1000) (n:Int) (q:Sem1) :
  iter (z5_ zM_ (.l (c.map eInt)) (ii n) q) rounds [ii 0]=q [.l ((insI c n).map eInt)]:=by
 refine akj_ h hl n rfl ?_ ?_ ?_ ?_
 ·intro k w hk1 hk2
  simp (disch:=omega) only [↓pq,ps,pz,↓reduceIte,reduceLE,reduceLT,reduceEq,reduceGT,reduceGE,reduceAdd,reduceSub,reduceMul,reduceNeg,z5_,z7_,yl_,hk1,hk2]
 ·intro k w hk1 hk2
  have hk3:¬ n < n:=by omega
  simp (disch:=omega) only [↓pq,ps,pz,↓reduceIte,reduceLE,reduceLT,reduceEq,reduceGT,reduceGE,reduceAdd,reduceSub,reduceMul,reduceNeg,z5_,z7_,yl_,hk1,hk2,hk3]
 ·intro k w hk1 hk2 hk3
  simp (disch:=omega) only [↓pq,ps,pz,↓reduceIte,reduceLE,reduceLT,reduceEq,reduceGT,reduceGE,reduceAdd,reduceSub,reduceMul,reduceNeg,z5_,z7_,yl_,hk1,hk2,hk3,zZ_ _ (show (c.take k).length≤1048576 by simp;omega)]
  rw [xz_ (by simp;omega),za_,xn_ (by simp;omega),za_,List.append_assoc]
 ·intro k w hk1 hk2
  simp (disch:=omega) only [↓pq,ps,pz,↓reduceIte,reduceLE,reduceLT,reduceEq,reduceGT,reduceGE,reduceAdd,reduceSub,reduceMul,reduceNeg,z5_,z7_,yl_,hk1,zZ_ _ (show (c.take k).length≤1048576 by simp;omega)]
  rw [xz_ (by simp;omega),za_,xn_ (by simp;omega),za_,List.append_assoc]
theorem aA6_ {c:List Int} (h:c.Pairwise (· < ·)) (hl:c.length≤1000) (n:Int) (q:Sem1) :
  iter (z7_ zM_ (.l (c.map eInt)) (ii n) q) rounds [ii 0]=q [.l ((insI c n).map eInt)]:=by
 refine akj_ h hl n rfl ?_ ?_ ?_ ?_
 ·intro k w hk1 hk2
  simp (disch:=omega) only [↓pq,ps,pz,↓reduceIte,reduceLE,reduceLT,reduceEq,reduceGT,reduceGE,reduceAdd,reduceSub,reduceMul,reduceNeg,z5_,z7_,yl_,hk1,hk2]
 ·intro k w hk1 hk2
  have hk3:¬ n < n:=by omega
  simp (disch:=omega) only [↓pq,ps,pz,↓reduceIte,reduceLE,reduceLT,reduceEq,reduceGT,reduceGE,reduceAdd,reduceSub,reduceMul,reduceNeg,z5_,z7_,yl_,hk1,hk2,hk3]
 ·intro k w hk1 hk2 hk3
  simp (disch:=omega) only [↓pq,ps,pz,↓reduceIte,reduceLE,reduceLT,reduceEq,reduceGT,reduceGE,reduceAdd,reduceSub,reduceMul,reduceNeg,z5_,z7_,yl_,hk1,hk2,hk3,zZ_ _ (show (c.take k).length≤1048576 by simp;omega)]
  rw [xz_ (by simp;omega),za_,xn_ (by simp;omega),za_,List.append_assoc]
 ·intro k w hk1 hk2
  simp (disch:=omega) only [↓pq,ps,pz,↓reduceIte,reduceLE,reduceLT,reduceEq,reduceGT,reduceGE,reduceAdd,reduceSub,reduceMul,reduceNeg,z5_,z7_,yl_,hk1,zZ_ _ (show (c.take k).length≤1048576 by simp;omega)]
  rw [xz_ (by simp;omega),za_,xn_ (by simp;omega),za_,List.append_assoc]
theorem aJc_ {s:List Rcd} {ar fr:Int} {w:Way} (hw:w∈waysIn s ar fr):∃ v∈waysIn s ar fr,v.to=fr:=by
 unfold waysIn at hw ⊢
 by_cases hc:zk_ s=true∧inB fr 1 6=true∧0≤z9_ s ar fr
 ·rw [if_pos hc] at hw ⊢
  obtain ⟨D,hI⟩:=aq7_ hc.1 ar fr 6 (W0 fr) [] (DInv.start (inB_iff.1 hc.2.1))
  have hl:=hI.ok.len
  obtain ⟨h1,h2⟩:=List.mem_filter.1 hw
  have h2:w.to≠0:=by simpa using h2
  obtain ⟨i,hi,rfl⟩:=List.mem_iff_getElem.1 h1
  have hto:=hI.ok.to (i:Int) (by omega) (by omega)
  rw [zm_ hi] at hto
  have hto:=hto.resolve_left h2
  rcases hI.first with ⟨_,hf⟩ | hf
  ·have hge:=hI.fr6
   have:=hf (i:Int) (by omega) (by omega) (by rw [zm_ hi];exact h2)
   exact ⟨_,hw,by rw [hto,this]⟩
  ·have h3:=hI.mem fr hf
   have h4:=hI.fr6
   have h5:=(hI.ok.to fr (by omega) (by omega)).resolve_left h3.2
   refine ⟨_,List.mem_filter.2 ⟨zX_ (n:=fr) (by omega) (by omega),?_⟩,h5⟩
   simpa using h3.2
 ·rw [if_neg hc] at hw;cases hw
theorem aMw_ {l:List Way} {w:Way} (h:w∈l):¬ wayP l w.to < 0:=by
 intro hc
 have:=(w5_ _ _).1 hc w h
 simp at this
theorem aEa_ {s:List Rcd} {A:List Int} {fr:Int} {v:Way} (h:v∈cand s A fr):¬ wayP (within s A fr) v.to < 0:=by
 rcases uw_ (v:=v.to) _ ((cand s A fr).filter fun w=>w.to == v.to) rfl (fun y hy=>by have:=List.mem_filter.1 hy;exact ⟨by simpa using this.2,(abp_ y this.1).2.1⟩) with ⟨e,_⟩ | ⟨b,e,hb,_⟩
 ·have:v∈(cand s A fr).filter fun w=>w.to == v.to:=List.mem_filter.2 ⟨h,by simp⟩
  rw [e] at this;cases this
 ·have hm:b∈within s A fr:=(uH_ (fun x hx=>(abp_ x hx).2.1)).2 ⟨by rw [hb];exact (abp_ v h).1,by rw [hb];exact e⟩
  rw [← hb]
  exact aMw_ hm
theorem j5_ {s:List Rcd} {A:List Int} {z:Bool} {fr:Int} {w:Way} (h:w∈beyond s A z fr):(1≤w.to∧w.to≤6)∧zt_ w.hops∧(0≤w.cost∧w.cost < 60000)∧w.to≠fr∧wayP (within s A fr) w.to < 0:=by
 have h1:=ka_ (fun x hx=>(ao5_ x hx).2.1) h
 obtain ⟨hh,y,hy,e1,e2⟩:=h1
 have h2:=ao5_ y hy
 obtain ⟨x,hx,h3⟩:=List.mem_filterMap.1 hy
 obtain ⟨h4,y',h5,h6,h7⟩:=j7_ h3
 have hk:x.key=w.to:=by rw [← e1,h7]
 refine ⟨by rw [← e1];exact h2.1,hh,by rw [← e2];exact h2.2.2,?_,by rw [← hk];exact h4.2.2.2.2.2⟩
 intro e
 obtain ⟨v,hv,ev⟩:=aJc_ (xU_ h5).1
 have hc:v∈cand s A fr:=List.mem_flatMap.2 ⟨x.area,List.contains_iff_mem.1 h4.2.2.2.1,hv⟩
 have h8:=aEa_ hc
 have he:v.to=x.key:=by omega
 rw [he] at h8
 exact h8 h4.2.2.2.2.2
theorem aab_ {s:List Rcd} {A:List Int} {fr:Int} {w:Way} (h:w∈within s A fr):(1≤w.to∧w.to≤6)∧zt_ w.hops∧(0≤w.cost∧w.cost≤6000):=by
 obtain ⟨hh,y,hy,e1,e2⟩:=ka_ (fun x hx=>(abp_ x hx).2.1) h
 have:=abp_ y hy
 exact ⟨by rw [← e1];exact this.1,hh,by rw [← e2];exact this.2.2⟩
theorem afy_ {s:List Rcd} {A:List Int} {fr:Int}:WaysG (within s A fr):=⟨Nat.le_trans uK_ (by omega),fun w hw=>by
 have:=aab_ hw
 exact ⟨this.2.1,this.2.2.1,by omega⟩⟩
theorem kE_ {s:List Rcd} {A:List Int} {z:Bool} {fr:Int}:(beyond s A z fr).length≤6:=acf_ _
theorem afj_ {s:List Rcd} {A:List Int} {z:Bool} {fr:Int}:WaysG (beyond s A z fr):=⟨Nat.le_trans kE_ (by omega),fun w hw=>by
 have:=j5_ hw
 exact ⟨this.2.1,this.2.2.1.1,by omega⟩⟩
def ao7_ (w:Way):Route:=⟨false,w.to,1,w.cost,0,w.hops⟩
def rBey (w:Way):Route:=⟨false,w.to,2,w.cost,0,w.hops⟩
def anb_ (s:List Rcd) (A:List Int) (z:Bool) (fr:Int):List Route :=
 ((within s A fr).filter fun w=>!(w.to == fr)).map ao7_++(beyond s A z fr).map rBey++(upto 9).filterMap fun k=>wR_ s (within s A fr++beyond s A z fr) k fr
theorem aDn_ {s:List Rcd} (hs:zk_ s=true) {x:Rcd} (hx:x∈s) (h:x.kind=3):1≤x.key∧x.key≤9:=by
 have:=wv_ hs hx
 unfold zR_ at this
 rw [if_neg (by omega),if_neg (by omega),if_pos h] at this
 simp only [Bool.and_eq_true,inB_iff] at this
 exact this.2.1.1.2
theorem aA2_ {s:List Rcd} {W:List Way} {key fr:Int} (h:∀ x∈s,¬ (x.kind=3∧x.key=key∧x.cost < 60000)):wR_ s W key fr=none:=by
 have h1:∀ l:List Rcd,(∀ x∈l,x∈s)→l.foldl (x1_ W key fr) none=none∧l.foldl (x2_ W key fr) none=none:=by
  intro l hl
  induction l with
  | nil=>exact ⟨rfl,rfl⟩
  | cons x l ih =>
   have hx:thC W key fr x=none:=by unfold thC;rw [if_neg (h x (hl x (.head _)))]
   have e1:x1_ W key fr none x=none:=by unfold x1_;rw [hx];simp
   have e2:x2_ W key fr none x=none:=by unfold x2_;rw [hx];simp
   rw [List.foldl_cons,List.foldl_cons,e1,e2]
   exact ih fun y hy=>hl y (.tail _ hy)
 unfold wR_ ahm_ farB
 rw [(h1 s fun _ h=>h).1,(h1 s fun _ h=>h).2]
def ap4_ (s:List Rcd):List Int:=s.foldl (fun c x=>if x.kind=3∧x.cost < 60000 then insI c x.key else c) []
theorem aGi_ (s:List Rcd) (c:List Int) (hc:c.Pairwise (· < ·)):let K:=s.foldl (fun c x=>if x.kind=3∧x.cost < 60000 then insI c x.key else c) c;K.Pairwise (· < ·)∧∀ k,k∈K↔k∈c∨∃ x∈s,(x.kind=3∧x.cost < 60000)∧x.key=k:=by
 induction s generalizing c with
 | nil=>exact ⟨hc,by simp⟩
 | cons x s ih =>
  rw [List.foldl_cons]
  by_cases h:x.kind=3∧x.cost < 60000
  ·rw [if_pos h]
   obtain ⟨h1,h2⟩:=ih _ (jH_ hc x.key)
   refine ⟨h1,fun k=>?_⟩
   rw [h2,mem_insI]
   simp only [List.mem_cons]
   constructor
   ·rintro ((e | e) | ⟨y,hy,e⟩)
    ·exact .inr ⟨x,.inl rfl,h,e.symm⟩
    ·exact .inl e
    ·exact .inr ⟨y,.inr hy,e⟩
   ·rintro (e | ⟨y,rfl | hy,e⟩)
    ·exact .inl (.inr e)
    ·exact .inl (.inl e.2.symm)
    ·exact .inr ⟨y,hy,e⟩
  ·rw [if_neg h]
   obtain ⟨h1,h2⟩:=ih _ hc
   refine ⟨h1,fun k=>?_⟩
   rw [h2]
   simp only [List.mem_cons]
   constructor
   ·rintro (e | ⟨y,hy,e⟩)
    ·exact .inl e
    ·exact .inr ⟨y,.inr hy,e⟩
   ·rintro (e | ⟨y,rfl | hy,e⟩)
    ·exact .inl e
    ·exact absurd e.1 h
    ·exact .inr ⟨y,hy,e⟩
theorem aIt_ {s:List Rcd} (hs:zk_ s=true):(ap4_ s).Pairwise (· < ·)∧(∀ k∈ap4_ s,1≤k∧k≤9)∧∀ k,k ∉ ap4_ s→∀ W fr,wR_ s W k fr=none:=by
 obtain ⟨h1,h2⟩:=aGi_ s [] .nil
 refine ⟨h1,fun k hk=>?_,fun k hk W fr=>aA2_ fun x hx hc=>hk ?_⟩
 ·rcases (h2 k).1 hk with h | ⟨x,hx,h,rfl⟩
  ·cases h
  ·exact aDn_ hs hx h.1
 ·exact (h2 k).2 (.inr ⟨x,hx,⟨hc.1,hc.2.2⟩,hc.2.1⟩)
theorem awm_ (s:List Rcd) (A:List Int) (z:Bool) (fr:Int) (h:s.length≤1048576) (hn:NearL s) (hs:zk_ s=true) (ha:A.length≤1048576):qo_ [.l (s.map eRcd),.l (A.map eInt),bb z,ii fr]=some [.l ((anb_ s A z fr).map zJ_)]:=by
 have hwl:=uK_ (s:=s) (A:=A) (fr:=fr)
 have hbl:=kE_ (s:=s) (A:=A) (z:=z) (fr:=fr)
 rw [aui_];simp (disch:=omega) only [↓pq,ps,pz,↓reduceIte,reduceLE,reduceLT,reduceEq,reduceGT,reduceGE,reduceAdd,reduceSub,reduceMul,reduceNeg,zQ_,zK_,zO_,zP_,zN_,ab6_,jB_ _ _ _ h hn ha,ab7_ _ _ _ _ h hn ha]
 refine (zg_ (within s A fr) (fun j C=>[.l (C.map zJ_),ii j,.l ((within s A fr).map eWay)]) (fun C w=>if (!(w.to == fr))=true then C++[ao7_ w] else C) (fun C=>some [T.l ((C++(beyond s A z fr).map rBey++(upto 9).filterMap fun k=>wR_ s (within s A fr++beyond s A z fr) k fr).map zJ_)]) [] (fun j C=>C.length≤j) rfl (zb_ (by omega)) (by simp) ?_ ?_).trans (by rw [w7_,List.nil_append];rfl)
 ·intro j C hj hC
  have hm:=aab_ (zX_ (l:=within s A fr) (n:=(j:Int)) (by omega) hj)
  have hcp:=zZ_ (gt (within s A fr) (j:Int)).hops (by have:=zG_ hm.2.1;omega)
  refine ⟨by split;(· simp;omega);(· omega),fun q=>?_⟩
  by_cases k:(gt (within s A fr) (j:Int)).to=fr
  ·have:(!((gt (within s A fr) (j:Int)).to == fr))=false:=by simpa using k
   rw [this]
   simp (disch:=omega) only [↓pq,ps,pz,↓reduceIte,reduceLE,reduceLT,reduceEq,reduceGT,reduceGE,reduceAdd,reduceSub,reduceMul,reduceNeg,zQ_,zK_,zO_,zP_,zN_,hj,k,Bool.false_eq_true]
  ·have:(!((gt (within s A fr) (j:Int)).to == fr))=true:=by simpa using k
   rw [this]
   simp (disch:=omega) only [↓pq,ps,pz,↓reduceIte,reduceLE,reduceLT,reduceEq,reduceGT,reduceGE,reduceAdd,reduceSub,reduceMul,reduceNeg,zQ_,zK_,zO_,zP_,zN_,hj,k,hcp,ao7_]
 ·intro C q hC
  have hC6:C.length≤6:=by omega
  simp (disch:=omega) only [↓pq,ps,pz,↓reduceIte,reduceLE,reduceLT,reduceEq,reduceGT,reduceGE,reduceAdd,reduceSub,reduceMul,reduceNeg,zQ_,zK_,zO_,zP_,zN_,]
  refine (zg_ (beyond s A z fr) (fun j C=>[.l (C.map zJ_),ii j,.l ((beyond s A z fr).map eWay)]) (fun C w=>C++[rBey w]) (fun C=>some [T.l ((C++(upto 9).filterMap fun k=>wR_ s (within s A fr++beyond s A z fr) k fr).map zJ_)]) C (fun j C=>C.length≤6+j) rfl (zb_ (by omega)) (by omega) ?_ ?_).trans (by rw [foldl_map])
  ·intro j C hj hC
   have hm:=j5_ (zX_ (l:=beyond s A z fr) (n:=(j:Int)) (by omega) hj)
   have hcp:=zZ_ (gt (beyond s A z fr) (j:Int)).hops (by have:=zG_ hm.2.1;omega)
   refine ⟨by simp;omega,fun q=>?_⟩
   simp (disch:=omega) only [↓pq,ps,pz,↓reduceIte,reduceLE,reduceLT,reduceEq,reduceGT,reduceGE,reduceAdd,reduceSub,reduceMul,reduceNeg,zQ_,zK_,zO_,zP_,zN_,hj,hcp,rBey]
  ·intro C q hC
   have hC12:C.length≤12:=by omega
   obtain ⟨t1,t2,t3⟩:=aIt_ hs
   have ht9:(ap4_ s).length≤9:=abq_ t1 t2
   simp (disch:=omega) only [↓pq,ps,pz,↓reduceIte,reduceLE,reduceLT,reduceEq,reduceGT,reduceGE,reduceAdd,reduceSub,reduceMul,reduceNeg,zQ_,zK_,zO_,zP_,zN_,]
   refine (zg_ s (fun j c=>[.l (c.map eInt),ii j]) (fun c x=>if x.kind=3∧x.cost < 60000 then insI c x.key else c) (fun K=>some [T.l ((C++K.filterMap fun k=>wR_ s (within s A fr++beyond s A z fr) k fr).map zJ_)]) [] (fun j c=>c.Pairwise (· < ·)∧∀ x∈c,1≤x∧x≤((9:Nat):Int)) rfl (zb_ h) ⟨.nil,by simp⟩ ?_ ?_).trans (by rw [← aRa_ t1 t2 _ (fun k hk=>t3 k hk _ _)];rfl)
   ·rintro j c hj ⟨c1,c2⟩
    have c9:=abq_ c1 c2
    have hm:=zX_ (l:=s) (n:=(j:Int)) (by omega) hj
    by_cases k1:(gt s j).kind=3
    ·have k3:=aDn_ hs hm k1
     by_cases k2:(gt s j).cost < 60000
     ·rw [if_pos ⟨k1,k2⟩]
      refine ⟨⟨jH_ c1 _,fun x hx=>by rcases mem_insI.1 hx with rfl | hx;exact k3;exact c2 x hx⟩,fun q=>?_⟩
      simp (disch:=omega) only [↓pq,ps,pz,↓reduceIte,reduceLE,reduceLT,reduceEq,reduceGT,reduceGE,reduceAdd,reduceSub,reduceMul,reduceNeg,zQ_,zK_,zO_,zP_,zN_,hj,k1,k2]
      refine (aI1_ c1 (by omega) _ _).trans ?_
      simp (disch:=omega) only [↓pq,ps,pz,↓reduceIte,reduceLE,reduceLT,reduceEq,reduceGT,reduceGE,reduceAdd,reduceSub,reduceMul,reduceNeg,zQ_,zK_,zO_,zP_,zN_,]
     ·rw [if_neg (fun h=>k2 h.2)]
      refine ⟨⟨c1,c2⟩,fun q=>?_⟩
      simp (disch:=omega) only [↓pq,ps,pz,↓reduceIte,reduceLE,reduceLT,reduceEq,reduceGT,reduceGE,reduceAdd,reduceSub,reduceMul,reduceNeg,zQ_,zK_,zO_,zP_,zN_,hj,k1,k2]
    ·rw [if_neg (fun h=>k1 h.1)]
     refine ⟨⟨c1,c2⟩,fun q=>?_⟩
     simp (disch:=omega) only [↓pq,ps,pz,↓reduceIte,reduceLE,reduceLT,reduceEq,reduceGT,reduceGE,reduceAdd,reduceSub,reduceMul,reduceNeg,zQ_,zK_,zO_,zP_,zN_,hj,k1]
   ·rintro K q ⟨c1,c2⟩
    have c9:=abq_ c1 c2
    simp (disch:=omega) only [↓pq,ps,pz,↓reduceIte,reduceLE,reduceLT,reduceEq,reduceGT,reduceGE,reduceAdd,reduceSub,reduceMul,reduceNeg,zQ_,zK_,zO_,zP_,zN_,]
    refine (zg_ K (fun j D=>[.l (D.map zJ_),ii j]) (fun D k=>D++(wR_ s (within s A fr++beyond s A z fr) k fr).toList) (fun D=>some [T.l (D.map zJ_)]) C (fun j D=>D.length≤12+j) rfl (zb_ (by omega)) (by omega) ?_ ?_).trans (by rw [uI_,abo_])
    ·intro j D hj hD
     have hT:=aKf_ s (within s A fr++beyond s A z fr) (gt K j) fr h hs (WaysG.app (by omega) (by omega) afy_ afj_)
     cases hr:wR_ s (within s A fr++beyond s A z fr) (gt K j) fr with
     | none =>
      rw [hr] at hT
      simp only [] at hT
      refine ⟨by simp;omega,fun q=>?_⟩
      simp (disch:=omega) only [↓pq,ps,pz,↓reduceIte,reduceLE,reduceLT,reduceEq,reduceGT,reduceGE,reduceAdd,reduceSub,reduceMul,reduceNeg,zQ_,zK_,zO_,zP_,zN_,hj,hT,Bool.false_eq_true,Option.toList_none,List.append_nil]
     | some r =>
      rw [hr] at hT
      simp only [zJ_,List.cons_append,List.nil_append] at hT
      refine ⟨by simp;omega,fun q=>?_⟩
      simp (disch:=omega) only [↓pq,ps,pz,↓reduceIte,reduceLE,reduceLT,reduceEq,reduceGT,reduceGE,reduceAdd,reduceSub,reduceMul,reduceNeg,zQ_,zK_,zO_,zP_,zN_,hj,hT,Option.toList_some]
    ·intro D q hD
     simp (disch:=omega) only [↓pq,ps,pz,↓reduceIte,reduceLE,reduceLT,reduceEq,reduceGT,reduceGE,reduceAdd,reduceSub,reduceMul,reduceNeg,zQ_,zK_,zO_,zP_,zN_,]
theorem aLt_ {W:List Way} (hW:WaysG W) {key fr:Int} (l:List Rcd) (o:Option Way) (ho:OkO o):OkO (l.foldl (x1_ W key fr) o):=by
 induction l generalizing o with
 | nil=>exact ho
 | cons x l ih=>exact ih _ (anx_ hW ho x)
theorem aKj_ {W:List Way} (hW:WaysG W) {key fr:Int} (l:List Rcd) (o:Option (Int × Way)) (ho:OkF o):OkF (l.foldl (x2_ W key fr) o):=by
 induction l generalizing o with
 | nil=>exact ho
 | cons x l ih=>exact ih _ (an2_ hW ho x)
theorem ao2_ (v0:Bool) (v1:Int) (v2:Int) (v3:Int) (v4:Int) (v5:List Int):Prim.ev (.lit 6 []) [bb v0,ii v1,ii v2,ii v3,ii v4,.l (v5.map eInt)]=some (.l ([(⟨v0,v1,v2,v3,v4,v5⟩:Route)].map zJ_)):=y3_ (by decide) rfl rfl
theorem aw1_ (s:List Rcd) (A:List Int) (z:Bool) (fr:Int) (h:s.length≤1048576) (hn:NearL s) (hs:zk_ s=true) (ha:A.length≤1048576):ql_ [.l (s.map eRcd),.l (A.map eInt),bb z,ii fr]=some [.l ((anb_ s A z fr).map zJ_)]:=by
 have hwl:=uK_ (s:=s) (A:=A) (fr:=fr)
 have hbl:=kE_ (s:=s) (A:=A) (z:=z) (fr:=fr)
 rw [ax0_];simp (disch:=omega) only [↓pq,ps,pz,↓reduceIte,reduceLE,reduceLT,reduceEq,reduceGT,reduceGE,reduceAdd,reduceSub,reduceMul,reduceNeg,y5_,y8_,y6_,acm_,jG_ _ _ _ h hn ha,acp_ _ _ _ _ h hn ha,jl_ _ h hn,hs]
 refine (zg_ (within s A fr) (fun j C=>[.l (C.map zJ_),ii j]) (fun C w=>if (!(w.to == fr))=true then C++[ao7_ w] else C) (fun C=>some [T.l ((C++(beyond s A z fr).map rBey++(upto 9).filterMap fun k=>wR_ s (within s A fr++beyond s A z fr) k fr).map zJ_)]) [] (fun j C=>C.length≤j) rfl (zb_ (by omega)) (by simp) ?_ ?_).trans (by rw [w7_,List.nil_append];rfl)
 ·intro j C hj hC
  have hm:=aab_ (zX_ (l:=within s A fr) (n:=(j:Int)) (by omega) hj)
  have hl:=zG_ hm.2.1
  refine ⟨by split;(· simp;omega);(· omega),fun q=>?_⟩
  by_cases k:(gt (within s A fr) (j:Int)).to=fr
  ·have:(!((gt (within s A fr) (j:Int)).to == fr))=false:=by simpa using k
   rw [this]
   simp (disch:=omega) only [↓pq,ps,pz,↓reduceIte,reduceLE,reduceLT,reduceEq,reduceGT,reduceGE,reduceAdd,reduceSub,reduceMul,reduceNeg,y5_,y8_,y6_,hj,k,Bool.false_eq_true]
  ·have:(!((gt (within s A fr) (j:Int)).to == fr))=true:=by simpa using k
   rw [this]
   simp (disch:=omega) only [↓pq,ps,pz,↓reduceIte,reduceLE,reduceLT,reduceEq,reduceGT,reduceGE,reduceAdd,reduceSub,reduceMul,reduceNeg,y5_,y8_,y6_,hj,k,ao2_,ao7_]
 ·intro C q hC
  have hC6:C.length≤6:=by omega
  simp (disch:=omega) only [↓pq,ps,pz,↓reduceIte,reduceLE,reduceLT,reduceEq,reduceGT,reduceGE,reduceAdd,reduceSub,reduceMul,reduceNeg,y5_,y8_,y6_,]
  refine (zg_ (beyond s A z fr) (fun j C=>[.l (C.map zJ_),ii j]) (fun C w=>C++[rBey w]) (fun C=>some [T.l ((C++(upto 9).filterMap fun k=>wR_ s (within s A fr++beyond s A z fr) k fr).map zJ_)]) C (fun j C=>C.length≤6+j) rfl (zb_ (by omega)) (by omega) ?_ ?_).trans (by rw [foldl_map])
  ·intro j C hj hC
   have hm:=j5_ (zX_ (l:=beyond s A z fr) (n:=(j:Int)) (by omega) hj)
   have hl:=zG_ hm.2.1
   have k:¬ (gt (beyond s A z fr) (j:Int)).to=fr:=hm.2.2.2.1
   refine ⟨by simp;omega,fun q=>?_⟩
   simp (disch:=omega) only [↓pq,ps,pz,↓reduceIte,reduceLE,reduceLT,reduceEq,reduceGT,reduceGE,reduceAdd,reduceSub,reduceMul,reduceNeg,y5_,y8_,y6_,hj,k,ao2_,rBey]
  ·intro C q hC
   have hC12:C.length≤12:=by omega
   simp (disch:=omega) only [↓pq,ps,pz,↓reduceIte,reduceLE,reduceLT,reduceEq,reduceGT,reduceGE,reduceAdd,reduceSub,reduceMul,reduceNeg,y5_,y8_,y6_,]
   refine (yy_ 9 (fun i D=>[.l (D.map zJ_),ii (i+1)]) (fun D i=>D++(wR_ s (within s A fr++beyond s A z fr) ((i:Int)+1) fr).toList) (fun D=>some [T.l (D.map zJ_)]) C (fun j D=>D.length≤12+j) rfl (zb_ (by omega)) (by omega) ?_ ?_).trans (by rw [uI_ (fun i:Nat=>(wR_ s (within s A fr++beyond s A z fr) ((i:Int)+1) fr).toList),abo_])
   ·intro j D hj hD
    have hj':(j:Int)+1≤9:=by omega
    have hT1:=ath_ s (within s A fr) (beyond s A z fr) ((j:Int)+1) fr h hs (by omega) (by omega) afy_ afj_
    have hT2:=ax3_ s (within s A fr) (beyond s A z fr) ((j:Int)+1) fr h hs (by omega) (by omega) afy_ afj_
    refine ⟨by cases wR_ s (within s A fr++beyond s A z fr) ((j:Int)+1) fr <;> simp <;> omega,fun q=>?_⟩
    unfold wR_
    cases hb:ahm_ s (within s A fr++beyond s A z fr) ((j:Int)+1) fr with
    | some b =>
     have hlb:b.hops.length≤6:=zG_ ((aLt_ (WaysG.app (by omega) (by omega) afy_ afj_) s none (by intro b hb;(cases hb))) b hb)
     rw [hb] at hT1
     simp only [] at hT1
     simp (disch:=omega) only [↓pq,ps,pz,↓reduceIte,reduceLE,reduceLT,reduceEq,reduceGT,reduceGE,reduceAdd,reduceSub,reduceMul,reduceNeg,y5_,y8_,y6_,hj',hT1,Option.isSome_some,vB_,Bool.false_eq_true,Option.toList_some]
    | none =>
     rw [hb] at hT1
     simp only [] at hT1
     cases hf:farB s (within s A fr++beyond s A z fr) ((j:Int)+1) fr with
     | none =>
      rw [hf] at hT2
      simp only [] at hT2
      simp (disch:=omega) only [↓pq,ps,pz,↓reduceIte,reduceLE,reduceLT,reduceEq,reduceGT,reduceGE,reduceAdd,reduceSub,reduceMul,reduceNeg,y5_,y8_,y6_,hj',hT1,hT2,Option.isSome_none,Bool.false_eq_true,Option.toList_none,List.append_nil]
     | some lb =>
      obtain ⟨l,b⟩:=lb
      have hlb:b.hops.length≤6:=zG_ ((aKj_ (WaysG.app (by omega) (by omega) afy_ afj_) s none (by intro c b hb;(cases hb))) l b hf)
      rw [hf] at hT2
      simp only [] at hT2
      simp (disch:=omega) only [↓pq,ps,pz,↓reduceIte,reduceLE,reduceLT,reduceEq,reduceGT,reduceGE,reduceAdd,reduceSub,reduceMul,reduceNeg,y5_,y8_,y6_,hj',hT1,hT2,Option.isSome_none,Option.isSome_some,ws_,wr_,Bool.false_eq_true,Option.toList_some]
   ·intro D q hD
    simp (disch:=omega) only [↓pq,ps,pz,↓reduceIte,reduceLE,reduceLT,reduceEq,reduceGT,reduceGE,reduceAdd,reduceSub,reduceMul,reduceNeg,y5_,y8_,y6_,]
end Go.Proofs.YtiebbbmibbkpcaaGreatC

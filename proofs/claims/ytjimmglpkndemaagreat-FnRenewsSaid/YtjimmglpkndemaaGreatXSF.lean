/- What is told between nodes, and how hops are put together. Conditions: none. -/
import Derived.Test.YtjimmglpkndemaaGreatXSE
namespace Go.Proofs.YtjimmglpkndemaaGreatC
open Int renaming reduceLE → Q0_, reduceLT → Q1_, reduceEq → Q2_, reduceGT → Q3_, reduceGE → Q4_, reduceAdd → Q5_, reduceSub → Q6_, reduceMul → Q7_, reduceNeg → Q8_
set_option linter.unusedVariables false
set_option linter.unusedSimpArgs false
def six:List Int:=[1,2,3,4,5,6]
def zs_ (l:List Int):Prop:=l.Pairwise (· < ·)∧∀ x∈l,1≤x∧x≤6
theorem qD_:∀ {a b:List Int},a.Pairwise (· < ·)→b.Pairwise (· < ·)→(∀ x,x∈a↔x∈b)→a=b
 | [],[],_,_,_=>rfl
 | [],y :: b,_,_,h=>absurd ((h y).2 (.head _)) (by simp)
 | x :: a,[],_,_,h=>absurd ((h x).1 (.head _)) (by simp)
 | x :: a,y :: b,ha,hb,h=>by
  have ha':=List.pairwise_cons.1 ha
  have hb':=List.pairwise_cons.1 hb
  have hxy:x=y:=by
   rcases List.mem_cons.1 ((h x).1 (.head _)) with e | e
   ·exact e
   ·rcases List.mem_cons.1 ((h y).2 (.head _)) with e' | e'
    ·exact e'.symm
    ·have:=hb'.1 x e;have:=ha'.1 y e';omega
  subst hxy
  have:a=b:=qD_ ha'.2 hb'.2 fun z=>by
   constructor
   ·intro hz
    rcases List.mem_cons.1 ((h z).1 (.tail _ hz)) with e | e
    ·subst e;have:=ha'.1 z hz;omega
    ·exact e
   ·intro hz
    rcases List.mem_cons.1 ((h z).2 (.tail _ hz)) with e | e
    ·subst e;have:=hb'.1 z hz;omega
    ·exact e
  rw [this]
def uni (a b:List Int):List Int:=six.filter fun x=>a.contains x || b.contains x
theorem six_asc:six.Pairwise (· < ·):=by unfold six;simp
theorem am6_ (a b:List Int):zs_ (uni a b):=by
 refine ⟨six_asc.filter _,fun x hx=>?_⟩
 have:=(List.mem_filter.1 hx).1
 simp [six] at this
 omega
theorem mem_six {x:Int}:x∈six↔1≤x∧x≤6:=by simp [six];omega
theorem akn_ {a b:List Int} {x:Int}:x∈uni a b↔(1≤x∧x≤6)∧(x∈a∨x∈b):=by
 unfold uni
 rw [List.mem_filter,mem_six]
 simp
theorem aBe_ {a:List Int} (h:zs_ a):uni [] a=a :=
 qD_ (am6_ _ _).1 h.1 fun x=>by
  rw [akn_]
  exact ⟨fun h'=>h'.2.resolve_left (by simp),fun h'=>⟨h.2 x h',.inr h'⟩⟩
theorem xC_ {a:List Int} (h:zs_ a):a.length≤6:=by
 have e:uni [] a=a:=aBe_ h
 rw [← e]
 exact List.length_filter_le _ _
theorem ave_:zs_ []:=⟨.nil,by simp⟩
theorem qw_ {n:Int} (h:1≤n) (h':n≤6):zs_ [n]:=⟨by simp,by simp;omega⟩
theorem xM_ (l:List Int) (n:Int) (h:l.length≤1048576):wh_ [.l (l.map eInt),ii n]=some [bb (l.contains n)]:=by
 rw [aDa_];simp (disch:=omega) only [↓pq,↓pj,ps,pz,↓reduceIte,Q0_,Q1_,Q2_,Q3_,Q4_,Q5_,Q6_,Q7_,Q8_,jm_,ahf_]
 refine (vx_ l (fun i=>[bb false,ii i]) (fun x=>x == n) (fun _=>some [bb true]) (outN:=some [bb false]) rfl (za_ h) ?_ ?_).trans ?_
 ·intro i hi q
  simp (disch:=omega) only [↓pq,↓pj,ps,pz,↓reduceIte,Q0_,Q1_,Q2_,Q3_,Q4_,Q5_,Q6_,Q7_,Q8_,jm_,hi]
 ·intro q
  simp (disch:=omega) only [↓pq,↓pj,ps,pz,↓reduceIte,Q0_,Q1_,Q2_,Q3_,Q4_,Q5_,Q6_,Q7_,Q8_,jm_,]
 ·rw [yx_]
  congr 3
  by_cases hf:zn_ (fun x=>x == n) l < 0
  ·rw [if_pos hf]
   have:=(wX_ _ _).1 hf
   cases hc:l.contains n with
   | false=>rfl
   | true =>
    have hm:=List.contains_iff_mem.1 hc
    have:=this n hm
    simp at this
  ·rw [if_neg hf]
   have:=yE_ _ _ (by omega:0≤zn_ (fun x=>x == n) l)
   have hm:=zS_ (l:=l) (n:=zn_ (fun x=>x == n) l) (by omega) (y9_ _ _)
   rw [beq_iff_eq] at this
   rw [this] at hm
   exact (List.contains_iff_mem.2 hm).symm
theorem aqr_ (l:List Int) (n:Int) (h:l.length≤1048576):jB_ [.l (l.map eInt),ii n]=some [bb (l.contains n)]:=by
 rw [aF2_];simp (disch:=omega) only [↓pq,↓pj,ps,pz,↓reduceIte,Q0_,Q1_,Q2_,Q3_,Q4_,Q5_,Q6_,Q7_,Q8_,km_,ajz_]
 refine (vx_ l (fun i=>[bb false,ii i]) (fun x=>x == n) (fun _=>some [bb true]) (outN:=some [bb false]) rfl (za_ h) ?_ ?_).trans ?_
 ·intro i hi q
  simp (disch:=omega) only [↓pq,↓pj,ps,pz,↓reduceIte,Q0_,Q1_,Q2_,Q3_,Q4_,Q5_,Q6_,Q7_,Q8_,km_,hi]
 ·intro q
  simp (disch:=omega) only [↓pq,↓pj,ps,pz,↓reduceIte,Q0_,Q1_,Q2_,Q3_,Q4_,Q5_,Q6_,Q7_,Q8_,km_,]
 ·rw [yx_]
  congr 3
  by_cases hf:zn_ (fun x=>x == n) l < 0
  ·rw [if_pos hf]
   have:=(wX_ _ _).1 hf
   cases hc:l.contains n with
   | false=>rfl
   | true =>
    have hm:=List.contains_iff_mem.1 hc
    have:=this n hm
    simp at this
  ·rw [if_neg hf]
   have:=yE_ _ _ (by omega:0≤zn_ (fun x=>x == n) l)
   have hm:=zS_ (l:=l) (n:=zn_ (fun x=>x == n) l) (by omega) (y9_ _ _)
   rw [beq_iff_eq] at this
   rw [this] at hm
   exact (List.contains_iff_mem.2 hm).symm
theorem yq_ (l:List Int) (h:l.length≤1048576):ya_ [.l (l.map eInt)]=some [.l (l.map eInt)]:=by
 rw [av7_];simp (disch:=omega) only [↓pq,↓pj,ps,pz,↓reduceIte,Q0_,Q1_,Q2_,Q3_,Q4_,Q5_,Q6_,Q7_,Q8_,acv_]
theorem u6_ (a b:Int) (l:List Int) (h:l.length≤1048576):yF_ [ii a,ii b,.l (l.map eInt)]=some [ii a,ii b,.l (l.map eInt)]:=by
 rw [aAe_];simp (disch:=omega) only [↓pq,↓pj,ps,pz,↓reduceIte,Q0_,Q1_,Q2_,Q3_,Q4_,Q5_,Q6_,Q7_,Q8_,adv_,yq_]
theorem ael_ (a b:Int) (l:List Int) (h:l.length≤1048576):wW_ [ii a,ii b,.l (l.map eInt)]=some [ii a,ii b,.l (l.map eInt)]:=by
 rw [ax3_];simp (disch:=omega) only [↓pq,↓pj,ps,pz,↓reduceIte,Q0_,Q1_,Q2_,Q3_,Q4_,Q5_,Q6_,Q7_,Q8_,ad0_]
def wayP (l:List Way) (to:Int):Int:=zn_ (fun w=>w.to == to) l
theorem ajy_ (l:List Way) (to:Int) (h:l.length≤1048576) (hl:∀ w∈l,w.hops.length≤1048576):vT_ [.l (l.map eWay),ii to]=if wayP l to < 0 then some [ii 0,ii 0,.l [],bb false] else some (eWay (gt l (wayP l to))++[bb true]):=by
 rw [aHf_];simp (disch:=omega) only [↓pq,↓pj,ps,pz,↓reduceIte,Q0_,Q1_,Q2_,Q3_,Q4_,Q5_,Q6_,Q7_,Q8_,kf_,ai2_]
 refine vx_ l (fun i=>[bb false,ii i]) (fun w=>w.to == to) (fun i=>some (eWay (gt l i)++[bb true])) (outN:=some [ii 0,ii 0,.l [],bb false]) rfl (za_ h) ?_ ?_
 ·intro i hi q
  have:=hl _ (zS_ (n:=i) (by omega) hi)
  simp (disch:=omega) only [↓pq,↓pj,ps,pz,↓reduceIte,Q0_,Q1_,Q2_,Q3_,Q4_,Q5_,Q6_,Q7_,Q8_,kf_,hi,u6_]
  rfl
 ·intro q
  simp (disch:=omega) only [↓pq,↓pj,ps,pz,↓reduceIte,Q0_,Q1_,Q2_,Q3_,Q4_,Q5_,Q6_,Q7_,Q8_,kf_,]
theorem adq_ (l:List Way) (to:Int) (h:l.length≤1048576) (hl:∀ w∈l,w.hops.length≤1048576):xJ_ [.l (l.map eWay),ii to]=if wayP l to < 0 then some [ii 0,ii 0,.l [],bb false] else some (eWay (gt l (wayP l to))++[bb true]):=by
 rw [aFs_];simp (disch:=omega) only [↓pq,↓pj,ps,pz,↓reduceIte,Q0_,Q1_,Q2_,Q3_,Q4_,Q5_,Q6_,Q7_,Q8_,ka_,ai3_]
 refine vx_ l (fun i=>[bb false,ii i]) (fun w=>w.to == to) (fun i=>some (eWay (gt l i)++[bb true])) (outN:=some [ii 0,ii 0,.l [],bb false]) rfl (za_ h) ?_ ?_
 ·intro i hi q
  have:=hl _ (zS_ (n:=i) (by omega) hi)
  simp (disch:=omega) only [↓pq,↓pj,ps,pz,↓reduceIte,Q0_,Q1_,Q2_,Q3_,Q4_,Q5_,Q6_,Q7_,Q8_,ka_,hi,ael_]
  rfl
 ·intro q
  simp (disch:=omega) only [↓pq,↓pj,ps,pz,↓reduceIte,Q0_,Q1_,Q2_,Q3_,Q4_,Q5_,Q6_,Q7_,Q8_,ka_,]
def insI (c:List Int) (n:Int):List Int:=c.filter (fun x=>decide (x < n))++([n]++c.filter (fun x=>decide (n < x)))
def cntI (c:List Int) (n:Int):Nat:=(c.filter (fun x=>decide (x < n))).length
theorem akv_ (c:List Int) (n:Int):cntI c n≤c.length:=List.length_filter_le _ _
theorem qZ_ {c:List Int} (h:c.Pairwise (· < ·)) (n:Int):c.take (cntI c n)=c.filter (fun x=>decide (x < n))∧c.drop (cntI c n)=c.filter (fun x=>decide (n≤x))∧∀ i,(hi:i < c.length)→(c[i] < n↔i < cntI c n):=by
 induction c with
 | nil=>simp [cntI]
 | cons x c ih =>
  have hs:=List.pairwise_cons.1 h
  obtain ⟨i1,i2,i3⟩:=ih hs.2
  by_cases hx:x < n
  ·have e:cntI (x :: c) n=cntI c n+1:=by simp [cntI,List.filter_cons,hx]
   have hx':¬ n≤x:=by omega
   rw [e]
   refine ⟨by rw [List.take_succ_cons,i1];simp [List.filter_cons,hx],by rw [List.drop_succ_cons,i2];simp [List.filter_cons,hx'],fun i hi=>?_⟩
   cases i with
   | zero=>simp [hx]
   | succ i =>
    rw [List.getElem_cons_succ,i3 i (by simpa using hi)];omega
  ·have e1:(x :: c).filter (fun x=>decide (x < n))=[]:=by
    rw [List.filter_eq_nil_iff]
    intro y hy
    rcases List.mem_cons.1 hy with rfl | hy
    ·simp;omega
    ·have:=hs.1 y hy;simp;omega
   have e2:(x :: c).filter (fun x=>decide (n≤x))=x :: c:=by
    rw [List.filter_eq_self]
    intro y hy
    rcases List.mem_cons.1 hy with rfl | hy
    ·simp;omega
    ·have:=hs.1 y hy;simp;omega
   have e:cntI (x :: c) n=0:=by unfold cntI;rw [e1];rfl
   rw [e,e1,e2]
   refine ⟨rfl,rfl,fun i hi=>⟨fun h3=>?_,fun h3=>absurd h3 (by omega)⟩⟩
   cases i with
   | zero=>rw [List.getElem_cons_zero] at h3;omega
   | succ i =>
    rw [List.getElem_cons_succ] at h3
    have:=hs.1 _ (List.getElem_mem (by simpa using hi:i < c.length));omega
theorem mem_insI {c:List Int} {n x:Int}:x∈insI c n↔x=n∨x∈c:=by
 unfold insI
 simp only [List.mem_append,List.mem_filter,List.mem_singleton,decide_eq_true_eq]
 constructor
 ·rintro (h | h | h)
  ·exact .inr h.1
  ·exact .inl h
  ·exact .inr h.1
 ·rintro (h | h)
  ·exact .inr (.inl h)
  ·rcases Int.lt_trichotomy x n with h' | h' | h'
   ·exact .inl ⟨h,h'⟩
   ·exact .inr (.inl h')
   ·exact .inr (.inr ⟨h,h'⟩)
theorem ju_ {c:List Int} (h:c.Pairwise (· < ·)) (n:Int):(insI c n).Pairwise (· < ·):=by
 unfold insI
 rw [List.pairwise_append,List.pairwise_append]
 refine ⟨h.filter _,⟨by simp,h.filter _,?_⟩,?_⟩
 ·intro a ha b hb
  rw [List.mem_singleton] at ha
  have:=(List.mem_filter.1 hb).2
  simp at this;omega
 ·intro a ha b hb
  have ha:=(List.mem_filter.1 ha).2
  simp only [decide_eq_true_eq] at ha
  rcases List.mem_append.1 hb with hb | hb
  ·rw [List.mem_singleton] at hb;omega
  ·have hb:=(List.mem_filter.1 hb).2
   simp only [decide_eq_true_eq] at hb;omega
theorem aMt_ {c:List Int} (h:zs_ c) {n:Int} (h1:1≤n) (h2:n≤6):zs_ (insI c n) :=
 ⟨ju_ h.1 n,fun x hx=>by rcases mem_insI.1 hx with rfl | hx;exact ⟨h1,h2⟩;exact h.2 x hx⟩
theorem aqa_ {c:List Int} (h:c.Pairwise (· < ·)) {n:Int} (hn:n∈c):insI c n=c :=
 qD_ (ju_ h n) h fun x=>by rw [mem_insI];exact ⟨fun h=>h.elim (fun e=>e ▸ hn) id,.inr⟩
theorem kz_ {c:List Int} (h:c.Pairwise (· < ·)) {n:Int} (hn:n ∉ c):insI c n=c.take (cntI c n)++([n]++c.drop (cntI c n)):=by
 obtain ⟨h1,h2,_⟩:=qZ_ h n
 rw [h1,h2]
 unfold insI
 congr 2
 refine List.filter_congr fun x hx=>?_
 have:x≠n:=fun e=>hn (e ▸ hx)
 have:(n < x)=(n≤x):=by simp only [eq_iff_iff];omega
 simp [this]
theorem apm_ {c:List Int} (h:c.Pairwise (· < ·)) {n:Int} (hl:cntI c n < c.length):(gt c (cntI c n:Nat)=n↔n∈c):=by
 obtain ⟨_,h2,h3⟩:=qZ_ h n
 rw [zm_ hl]
 constructor
 ·intro e;exact e ▸ List.getElem_mem hl
 ·intro hm
  obtain ⟨j,hj,e⟩:=List.mem_iff_getElem.1 hm
  have h4:¬ (j < cntI c n):=fun hc=>by have:=(h3 j hj).2 hc;omega
  have h5:¬ (c[cntI c n] < n):=fun hc=>by have:=(h3 _ hl).1 hc;omega
  rcases Nat.lt_or_ge (cntI c n) j with h6 | h6
  ·have:=List.pairwise_iff_getElem.1 h _ _ hl hj h6
   omega
  ·have:j=cntI c n:=by omega
   subst this;exact e
theorem ag1_ {c:List Int} (h:c.Pairwise (· < ·)) {n:Int} (hl:¬ cntI c n < c.length):n ∉ c:=by
 obtain ⟨_,_,h3⟩:=qZ_ h n
 intro hm
 obtain ⟨j,hj,e⟩:=List.mem_iff_getElem.1 hm
 have h4:¬ (j < cntI c n):=fun hc=>by have:=(h3 j hj).2 hc;omega
 omega
def tog (a b:Way):Way:=if b.cost > a.cost then a else if a.cost > b.cost then b else ⟨a.to,a.cost,uni a.hops b.hops⟩
theorem amu_ {l c:List Int} (hl:∀ x∈l,1≤x∧x≤6) (hc:zs_ c):zs_ (l.foldl insI c)∧∀ x,x∈l.foldl insI c↔x∈c∨x∈l:=by
 induction l generalizing c with
 | nil=>exact ⟨hc,by simp⟩
 | cons n l ih =>
  have hn:=hl n (.head _)
  obtain ⟨h1,h2⟩:=ih (fun x hx=>hl x (.tail _ hx)) (aMt_ hc hn.1 hn.2)
  refine ⟨h1,fun x=>?_⟩
  rw [List.foldl_cons,h2,mem_insI,List.mem_cons]
  constructor
  ·rintro ((h | h) | h)
   ·exact .inr (.inl h)
   ·exact .inl h
   ·exact .inr (.inr h)
  ·rintro (h | h | h)
   ·exact .inl (.inr h)
   ·exact .inl (.inl h)
   ·exact .inr h
def togG (a b:Way):Way:=if b.cost > a.cost then a else if a.cost > b.cost then b else ⟨a.to,a.cost,b.hops.foldl insI (a.hops.foldl insI [])⟩
theorem auq_ (c:List Int) (n:Int):(insI c n).length≤c.length+1:=by
 have:∀ c:List Int,(c.filter (fun x=>decide (x < n))).length+(c.filter (fun x=>decide (n < x))).length≤c.length:=by
  intro c
  induction c with
  | nil=>simp
  | cons x c ih=>by_cases h1:x < n <;> by_cases h2:n < x <;> simp [h1,h2] <;> omega
 have:=this c
 unfold insI
 simp only [List.length_append,List.length_singleton];omega
theorem afo_ (a b:Int) (l:List Int) (a' b':Int) (l':List Int) (hl:l.length≤50) (hl':l'.length≤50):yN_ [ii a,ii b,.l (l.map eInt),ii a',ii b',.l (l'.map eInt)]=some (eWay (togG ⟨a,b,l⟩ ⟨a',b',l'⟩)):=by
 rw [awx_];simp (disch:=omega) only [↓pq,↓pj,ps,pz,↓reduceIte,Q0_,Q1_,Q2_,Q3_,Q4_,Q5_,Q6_,Q7_,Q8_,ys_,yv_,yw_,yu_,ab7_,u6_ _ _ _ (show l.length≤1048576 by omega),u6_ _ _ _ (show l'.length≤1048576 by omega)]
 unfold togG
 by_cases h1:b' > b
 ·simp only [h1,if_true];rfl
 by_cases h2:b > b'
 ·simp only [h1,h2,if_true,if_false];rfl
 simp only [h1,h2,if_false]
 have one:∀ (c:List Int) (n:Int) (j:Nat) (s:List T→Option (List T)),c.length≤200→(j:Int) < 100→∀ {F:Sem1→Sem1},(∀ k:Nat,∀ w,(k:Int) < cntI c n→F w [ii k]=w [ii (k+1)])→(∀ w,F w [ii (cntI c n)]=s [ii (j+1),.l ((insI c n).map eInt)])→iter F rounds [ii 0]=s [ii (j+1),.l ((insI c n).map eInt)]:=by
  intro c n j s hc hj F h1 h2
  have:=akv_ c n
  exact wi_ (fun k=>[ii k]) (cntI c n) rfl (za_ (by omega)) (fun i hi w=>h1 i w hi) h2
 refine (zj_ l (fun i c=>[ii i,.l (c.map eInt)]) insI (fun c=>some (eWay ⟨a,b,l'.foldl insI c⟩)) [] (fun i c=>c.Pairwise (· < ·)∧c.length≤i) rfl (za_ (by omega)) ⟨.nil,by simp⟩ ?_ ?_).trans ?_
 ·intro i c hi hc
  have hcl:=hc.2
  refine ⟨⟨ju_ hc.1 _,by have:=auq_ c (gt l i);omega⟩,fun s=>?_⟩
  have hle:=akv_ c (gt l i)
  obtain ⟨c1,c2,c3⟩:=qZ_ hc.1 (gt l i)
  simp (disch:=omega) only [↓pq,↓pj,ps,pz,↓reduceIte,Q0_,Q1_,Q2_,Q3_,Q4_,Q5_,Q6_,Q7_,Q8_,ys_,yv_,yw_,yu_,hi]
  refine one c (gt l i) i s (by omega) (by omega) ?_ ?_
  ·intro k w hk
   have hk1:(k:Int) < c.length:=by omega
   have hk2:gt c (k:Int) < gt l i:=by rw [zm_ (by omega)];exact (c3 k (by omega)).2 (by omega)
   simp (disch:=omega) only [↓pq,↓pj,ps,pz,↓reduceIte,Q0_,Q1_,Q2_,Q3_,Q4_,Q5_,Q6_,Q7_,Q8_,ys_,yv_,yw_,yu_,hk1,hk2]
  ·intro w
   by_cases hlt:cntI c (gt l i) < c.length
   ·have hk1:((cntI c (gt l i):Nat):Int) < c.length:=by omega
    have hk2:¬ (gt c ((cntI c (gt l i):Nat):Int) < gt l i):=by rw [zm_ hlt];intro hc';have:=(c3 _ hlt).1 hc';omega
    have hk3:=apm_ hc.1 hlt
    by_cases hin:gt l i∈c
    ·rw [aqa_ hc.1 hin]
     have hk4:=hk3.2 hin
     simp (disch:=omega) only [↓pq,↓pj,ps,pz,↓reduceIte,Q0_,Q1_,Q2_,Q3_,Q4_,Q5_,Q6_,Q7_,Q8_,ys_,yv_,yw_,yu_,hk1,hk2,hk4]
    ·rw [kz_ hc.1 hin]
     have hk4:¬ (gt c ((cntI c (gt l i):Nat):Int)=gt l i):=fun e=>hin (hk3.1 e)
     simp (disch:=omega) only [↓pq,↓pj,ps,pz,↓reduceIte,Q0_,Q1_,Q2_,Q3_,Q4_,Q5_,Q6_,Q7_,Q8_,ys_,yv_,yw_,yu_,hk1,hk2,hk4,yq_ _ (show (c.take (cntI c (gt l i))).length≤1048576 by simp;omega)]
     rw [wf_ (by simp;omega),zd_,xR_ (by simp;omega),zd_,List.append_assoc]
   ·have hk1:¬ (((cntI c (gt l i):Nat):Int) < c.length):=by omega
    rw [kz_ hc.1 (ag1_ hc.1 hlt)]
    simp (disch:=omega) only [↓pq,↓pj,ps,pz,↓reduceIte,Q0_,Q1_,Q2_,Q3_,Q4_,Q5_,Q6_,Q7_,Q8_,ys_,yv_,yw_,yu_,hk1,yq_ _ (show (c.take (cntI c (gt l i))).length≤1048576 by simp;omega)]
    rw [wf_ (by simp;omega),zd_,xR_ (by simp;omega),zd_,List.append_assoc]
 ·intro c w hc
  simp (disch:=omega) only [↓pq,↓pj,ps,pz,↓reduceIte,Q0_,Q1_,Q2_,Q3_,Q4_,Q5_,Q6_,Q7_,Q8_,ys_,yv_,yw_,yu_,]
  refine zj_ l' (fun i c=>[ii i,.l (c.map eInt)]) insI (fun c=>some (eWay ⟨a,b,c⟩)) c (fun i c=>c.Pairwise (· < ·)∧c.length≤l.length+i) rfl (za_ (by omega)) hc ?_ ?_
  ·intro i c hi hc
   have hcl:=hc.2
   refine ⟨⟨ju_ hc.1 _,by have:=auq_ c (gt l' i);omega⟩,fun s=>?_⟩
   have hle:=akv_ c (gt l' i)
   obtain ⟨c1,c2,c3⟩:=qZ_ hc.1 (gt l' i)
   simp (disch:=omega) only [↓pq,↓pj,ps,pz,↓reduceIte,Q0_,Q1_,Q2_,Q3_,Q4_,Q5_,Q6_,Q7_,Q8_,ys_,yv_,yw_,yu_,hi]
   refine one c (gt l' i) i s (by omega) (by omega) ?_ ?_
   ·intro k w hk
    have hk1:(k:Int) < c.length:=by omega
    have hk2:gt c (k:Int) < gt l' i:=by rw [zm_ (by omega)];exact (c3 k (by omega)).2 (by omega)
    simp (disch:=omega) only [↓pq,↓pj,ps,pz,↓reduceIte,Q0_,Q1_,Q2_,Q3_,Q4_,Q5_,Q6_,Q7_,Q8_,ys_,yv_,yw_,yu_,hk1,hk2]
   ·intro w
    by_cases hlt:cntI c (gt l' i) < c.length
    ·have hk1:((cntI c (gt l' i):Nat):Int) < c.length:=by omega
     have hk2:¬ (gt c ((cntI c (gt l' i):Nat):Int) < gt l' i):=by rw [zm_ hlt];intro hc';have:=(c3 _ hlt).1 hc';omega
     have hk3:=apm_ hc.1 hlt
     by_cases hin:gt l' i∈c
     ·rw [aqa_ hc.1 hin]
      have hk4:=hk3.2 hin
      simp (disch:=omega) only [↓pq,↓pj,ps,pz,↓reduceIte,Q0_,Q1_,Q2_,Q3_,Q4_,Q5_,Q6_,Q7_,Q8_,ys_,yv_,yw_,yu_,hk1,hk2,hk4]
     ·rw [kz_ hc.1 hin]
      have hk4:¬ (gt c ((cntI c (gt l' i):Nat):Int)=gt l' i):=fun e=>hin (hk3.1 e)
      simp (disch:=omega) only [↓pq,↓pj,ps,pz,↓reduceIte,Q0_,Q1_,Q2_,Q3_,Q4_,Q5_,Q6_,Q7_,Q8_,ys_,yv_,yw_,yu_,hk1,hk2,hk4,yq_ _ (show (c.take (cntI c (gt l' i))).length≤1048576 by simp;omega)]
      rw [wf_ (by simp;omega),zd_,xR_ (by simp;omega),zd_,List.append_assoc]
    ·have hk1:¬ (((cntI c (gt l' i):Nat):Int) < c.length):=by omega
     rw [kz_ hc.1 (ag1_ hc.1 hlt)]
     simp (disch:=omega) only [↓pq,↓pj,ps,pz,↓reduceIte,Q0_,Q1_,Q2_,Q3_,Q4_,Q5_,Q6_,Q7_,Q8_,ys_,yv_,yw_,yu_,hk1,yq_ _ (show (c.take (cntI c (gt l' i))).length≤1048576 by simp;omega)]
     rw [wf_ (by simp;omega),zd_,xR_ (by simp;omega),zd_,List.append_assoc]
  ·intro c w hc
   simp (disch:=omega) only [↓pq,↓pj,ps,pz,↓reduceIte,Q0_,Q1_,Q2_,Q3_,Q4_,Q5_,Q6_,Q7_,Q8_,ys_,yv_,yw_,yu_,]
   rfl
 ·rfl
theorem aMp_ {a b:Way} (h:zs_ a.hops) (h':zs_ b.hops):togG a b=tog a b:=by
 unfold togG tog
 obtain ⟨q1,q2⟩:=amu_ h.2 ave_
 obtain ⟨q3,q4⟩:=amu_ h'.2 q1
 congr 3
 refine qD_ q3.1 (am6_ _ _).1 fun x=>?_
 rw [q4,q2,akn_]
 constructor
 ·rintro ((hx | hx) | hx)
  ·cases hx
  ·exact ⟨h.2 x hx,.inl hx⟩
  ·exact ⟨h'.2 x hx,.inr hx⟩
 ·rintro ⟨_,hx | hx⟩
  ·exact .inl (.inr hx)
  ·exact .inr hx
theorem qv_ (a b:Int) (l:List Int) (a' b':Int) (l':List Int) (h:zs_ l) (h':zs_ l'):yN_ [ii a,ii b,.l (l.map eInt),ii a',ii b',.l (l'.map eInt)]=some (eWay (tog ⟨a,b,l⟩ ⟨a',b',l'⟩)):=by
 rw [← aMp_ h h']
 exact afo_ a b l a' b' l' (by have:=xC_ h;omega) (by have:=xC_ h';omega)
end Go.Proofs.YtjimmglpkndemaaGreatC

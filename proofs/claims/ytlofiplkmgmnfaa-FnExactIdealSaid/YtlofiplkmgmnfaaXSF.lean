/- What is told between nodes, and how hops are put together. Conditions: none. -/
import Derived.Test.YtlofiplkmgmnfaaXSE
namespace Go.Proofs.YtlofiplkmgmnfaaC
open Int (reduceLE reduceLT reduceEq reduceGT reduceGE reduceAdd reduceSub reduceMul reduceNeg)
set_option linter.unusedVariables false
set_option linter.unusedSimpArgs false
def six:List Int:=[1,2,3,4,5,6]
def HopsOk (l:List Int):Prop:=l.Pairwise (· < ·)∧∀ x∈l,1≤x∧x≤6
theorem asc_ext:∀ {a b:List Int},a.Pairwise (· < ·)→b.Pairwise (· < ·)→(∀ x,x∈a↔x∈b)→a=b
 | [],[],_,_,_=>rfl
 | [],y :: b,_,_,h=>absurd ((h y).2 (.head _)) (by simp)
 | x :: a,[],_,_,h=>absurd ((h x).1 (.head _)) (by simp)
 | x :: a,y :: b,ha,hb,h=>by
  have ha':=List.pairwise_cons.1 ha
  have hb':=List.pairwise_cons.1 hb
  have hxy:x=y:=by
   rcases List.mem_cons.1 ((h x).1 (.head _)) with e | e
   ·exact e
   ·rcases List.mem_cons.1 ((h y).2 (.head _)) with e' | e'
    ·exact e'.symm
    ·have:=hb'.1 x e;have:=ha'.1 y e';omega
  subst hxy
  have:a=b:=asc_ext ha'.2 hb'.2 fun z=>by
   constructor
   ·intro hz
    rcases List.mem_cons.1 ((h z).1 (.tail _ hz)) with e | e
    ·subst e;have:=ha'.1 z hz;omega
    ·exact e
   ·intro hz
    rcases List.mem_cons.1 ((h z).2 (.tail _ hz)) with e | e
    ·subst e;have:=hb'.1 z hz;omega
    ·exact e
  rw [this]
def uni (a b:List Int):List Int:=six.filter fun x=>a.contains x || b.contains x
theorem six_asc:six.Pairwise (· < ·):=by unfold six;simp
theorem uni_ok (a b:List Int):HopsOk (uni a b):=by
 refine ⟨six_asc.filter _,fun x hx=>?_⟩
 have:=(List.mem_filter.1 hx).1
 simp [six] at this
 omega
theorem mem_six {x:Int}:x∈six↔1≤x∧x≤6:=by simp [six];omega
theorem mem_uni {a b:List Int} {x:Int}:x∈uni a b↔(1≤x∧x≤6)∧(x∈a∨x∈b):=by
 unfold uni
 rw [List.mem_filter,mem_six]
 simp
theorem uni_nil {a:List Int} (h:HopsOk a):uni [] a=a :=
 asc_ext (uni_ok _ _).1 h.1 fun x=>by
  rw [mem_uni]
  exact ⟨fun h'=>h'.2.resolve_left (by simp),fun h'=>⟨h.2 x h',.inr h'⟩⟩
theorem hops_len {a:List Int} (h:HopsOk a):a.length≤6:=by
 have e:uni [] a=a:=uni_nil h
 rw [← e]
 exact List.length_filter_le _ _
theorem hops_nil:HopsOk []:=⟨.nil,by simp⟩
theorem hops_one {n:Int} (h:1≤n) (h':n≤6):HopsOk [n]:=⟨by simp,by simp;omega⟩
theorem e_i_hasInt (l:List Int) (n:Int) (h:l.length≤1048576):F_i_hasInt [.l (l.map eInt),ii n]=some [bb (l.contains n)]:=by
 rw [g_i_hasInt];simp (disch:=omega) only [↓pq,↓pj,ps,pz,↓reduceIte,reduceLE,reduceLT,reduceEq,reduceGT,reduceGE,reduceAdd,reduceSub,reduceMul,reduceNeg,G_i_hasInt_l0,G_i_hasInt]
 refine (iter_findPx l (fun i=>[bb false,ii i]) (fun x=>x == n) (fun _=>some [bb true]) (outN:=some [bb false]) rfl (rounds_lt h) ?_ ?_).trans ?_
 ·intro i hi q
  simp (disch:=omega) only [↓pq,↓pj,ps,pz,↓reduceIte,reduceLE,reduceLT,reduceEq,reduceGT,reduceGE,reduceAdd,reduceSub,reduceMul,reduceNeg,G_i_hasInt_l0,hi]
 ·intro q
  simp (disch:=omega) only [↓pq,↓pj,ps,pz,↓reduceIte,reduceLE,reduceLT,reduceEq,reduceGT,reduceGE,reduceAdd,reduceSub,reduceMul,reduceNeg,G_i_hasInt_l0,]
 ·rw [ite_bb]
  congr 3
  by_cases hf:findP (fun x=>x == n) l < 0
  ·rw [if_pos hf]
   have:=(findP_none _ _).1 hf
   cases hc:l.contains n with
   | false=>rfl
   | true =>
    have hm:=List.contains_iff_mem.1 hc
    have:=this n hm
    simp at this
  ·rw [if_neg hf]
   have:=findP_spec _ _ (by omega:0≤findP (fun x=>x == n) l)
   have hm:=gt_mem (l:=l) (n:=findP (fun x=>x == n) l) (by omega) (findP_lt _ _)
   rw [beq_iff_eq] at this
   rw [this] at hm
   exact (List.contains_iff_mem.2 hm).symm
theorem e_s_l03In (l:List Int) (n:Int) (h:l.length≤1048576):F_s_l03In [.l (l.map eInt),ii n]=some [bb (l.contains n)]:=by
 rw [g_s_l03In];simp (disch:=omega) only [↓pq,↓pj,ps,pz,↓reduceIte,reduceLE,reduceLT,reduceEq,reduceGT,reduceGE,reduceAdd,reduceSub,reduceMul,reduceNeg,G_s_l03In_l0,G_s_l03In]
 refine (iter_findPx l (fun i=>[bb false,ii i]) (fun x=>x == n) (fun _=>some [bb true]) (outN:=some [bb false]) rfl (rounds_lt h) ?_ ?_).trans ?_
 ·intro i hi q
  simp (disch:=omega) only [↓pq,↓pj,ps,pz,↓reduceIte,reduceLE,reduceLT,reduceEq,reduceGT,reduceGE,reduceAdd,reduceSub,reduceMul,reduceNeg,G_s_l03In_l0,hi]
 ·intro q
  simp (disch:=omega) only [↓pq,↓pj,ps,pz,↓reduceIte,reduceLE,reduceLT,reduceEq,reduceGT,reduceGE,reduceAdd,reduceSub,reduceMul,reduceNeg,G_s_l03In_l0,]
 ·rw [ite_bb]
  congr 3
  by_cases hf:findP (fun x=>x == n) l < 0
  ·rw [if_pos hf]
   have:=(findP_none _ _).1 hf
   cases hc:l.contains n with
   | false=>rfl
   | true =>
    have hm:=List.contains_iff_mem.1 hc
    have:=this n hm
    simp at this
  ·rw [if_neg hf]
   have:=findP_spec _ _ (by omega:0≤findP (fun x=>x == n) l)
   have hm:=gt_mem (l:=l) (n:=findP (fun x=>x == n) l) (by omega) (findP_lt _ _)
   rw [beq_iff_eq] at this
   rw [this] at hm
   exact (List.contains_iff_mem.2 hm).symm
theorem e_i_copyInts (l:List Int) (h:l.length≤1048576):F_i_copyInts [.l (l.map eInt)]=some [.l (l.map eInt)]:=by
 rw [g_i_copyInts];simp (disch:=omega) only [↓pq,↓pj,ps,pz,↓reduceIte,reduceLE,reduceLT,reduceEq,reduceGT,reduceGE,reduceAdd,reduceSub,reduceMul,reduceNeg,G_i_copyInts]
theorem e_i_copyWay (a b:Int) (l:List Int) (h:l.length≤1048576):F_i_copyWay [ii a,ii b,.l (l.map eInt)]=some [ii a,ii b,.l (l.map eInt)]:=by
 rw [g_i_copyWay];simp (disch:=omega) only [↓pq,↓pj,ps,pz,↓reduceIte,reduceLE,reduceLT,reduceEq,reduceGT,reduceGE,reduceAdd,reduceSub,reduceMul,reduceNeg,G_i_copyWay,e_i_copyInts]
theorem e_s_l06Copy (a b:Int) (l:List Int) (h:l.length≤1048576):F_s_l06Copy [ii a,ii b,.l (l.map eInt)]=some [ii a,ii b,.l (l.map eInt)]:=by
 rw [g_s_l06Copy];simp (disch:=omega) only [↓pq,↓pj,ps,pz,↓reduceIte,reduceLE,reduceLT,reduceEq,reduceGT,reduceGE,reduceAdd,reduceSub,reduceMul,reduceNeg,G_s_l06Copy]
def wayP (l:List Way) (to:Int):Int:=findP (fun w=>w.to == to) l
theorem e_i_WayTo (l:List Way) (to:Int) (h:l.length≤1048576) (hl:∀ w∈l,w.hops.length≤1048576):F_i_WayTo [.l (l.map eWay),ii to]=if wayP l to < 0 then some [ii 0,ii 0,.l [],bb false] else some (eWay (gt l (wayP l to))++[bb true]):=by
 rw [g_i_WayTo];simp (disch:=omega) only [↓pq,↓pj,ps,pz,↓reduceIte,reduceLE,reduceLT,reduceEq,reduceGT,reduceGE,reduceAdd,reduceSub,reduceMul,reduceNeg,G_i_WayTo_l0,G_i_WayTo]
 refine iter_findPx l (fun i=>[bb false,ii i]) (fun w=>w.to == to) (fun i=>some (eWay (gt l i)++[bb true])) (outN:=some [ii 0,ii 0,.l [],bb false]) rfl (rounds_lt h) ?_ ?_
 ·intro i hi q
  have:=hl _ (gt_mem (n:=i) (by omega) hi)
  simp (disch:=omega) only [↓pq,↓pj,ps,pz,↓reduceIte,reduceLE,reduceLT,reduceEq,reduceGT,reduceGE,reduceAdd,reduceSub,reduceMul,reduceNeg,G_i_WayTo_l0,hi,e_i_copyWay]
  rfl
 ·intro q
  simp (disch:=omega) only [↓pq,↓pj,ps,pz,↓reduceIte,reduceLE,reduceLT,reduceEq,reduceGT,reduceGE,reduceAdd,reduceSub,reduceMul,reduceNeg,G_i_WayTo_l0,]
theorem e_s_WayTo (l:List Way) (to:Int) (h:l.length≤1048576) (hl:∀ w∈l,w.hops.length≤1048576):F_s_WayTo [.l (l.map eWay),ii to]=if wayP l to < 0 then some [ii 0,ii 0,.l [],bb false] else some (eWay (gt l (wayP l to))++[bb true]):=by
 rw [g_s_WayTo];simp (disch:=omega) only [↓pq,↓pj,ps,pz,↓reduceIte,reduceLE,reduceLT,reduceEq,reduceGT,reduceGE,reduceAdd,reduceSub,reduceMul,reduceNeg,G_s_WayTo_l0,G_s_WayTo]
 refine iter_findPx l (fun i=>[bb false,ii i]) (fun w=>w.to == to) (fun i=>some (eWay (gt l i)++[bb true])) (outN:=some [ii 0,ii 0,.l [],bb false]) rfl (rounds_lt h) ?_ ?_
 ·intro i hi q
  have:=hl _ (gt_mem (n:=i) (by omega) hi)
  simp (disch:=omega) only [↓pq,↓pj,ps,pz,↓reduceIte,reduceLE,reduceLT,reduceEq,reduceGT,reduceGE,reduceAdd,reduceSub,reduceMul,reduceNeg,G_s_WayTo_l0,hi,e_s_l06Copy]
  rfl
 ·intro q
  simp (disch:=omega) only [↓pq,↓pj,ps,pz,↓reduceIte,reduceLE,reduceLT,reduceEq,reduceGT,reduceGE,reduceAdd,reduceSub,reduceMul,reduceNeg,G_s_WayTo_l0,]
def insI (c:List Int) (n:Int):List Int:=c.filter (fun x=>decide (x < n))++([n]++c.filter (fun x=>decide (n < x)))
def cntI (c:List Int) (n:Int):Nat:=(c.filter (fun x=>decide (x < n))).length
theorem cntI_le (c:List Int) (n:Int):cntI c n≤c.length:=List.length_filter_le _ _
theorem cntI_split {c:List Int} (h:c.Pairwise (· < ·)) (n:Int):c.take (cntI c n)=c.filter (fun x=>decide (x < n))∧c.drop (cntI c n)=c.filter (fun x=>decide (n≤x))∧∀ i,(hi:i < c.length)→(c[i] < n↔i < cntI c n):=by
 induction c with
 | nil=>simp [cntI]
 | cons x c ih =>
  have hs:=List.pairwise_cons.1 h
  obtain ⟨i1,i2,i3⟩:=ih hs.2
  by_cases hx:x < n
  ·have e:cntI (x :: c) n=cntI c n+1:=by simp [cntI,List.filter_cons,hx]
   have hx':¬ n≤x:=by omega
   rw [e]
   refine ⟨by rw [List.take_succ_cons,i1];simp [List.filter_cons,hx],by rw [List.drop_succ_cons,i2];simp [List.filter_cons,hx'],fun i hi=>?_⟩
   cases i with
   | zero=>simp [hx]
   | succ i =>
    rw [List.getElem_cons_succ,i3 i (by simpa using hi)];omega
  ·have e1:(x :: c).filter (fun x=>decide (x < n))=[]:=by
    rw [List.filter_eq_nil_iff]
    intro y hy
    rcases List.mem_cons.1 hy with rfl | hy
    ·simp;omega
    ·have:=hs.1 y hy;simp;omega
   have e2:(x :: c).filter (fun x=>decide (n≤x))=x :: c:=by
    rw [List.filter_eq_self]
    intro y hy
    rcases List.mem_cons.1 hy with rfl | hy
    ·simp;omega
    ·have:=hs.1 y hy;simp;omega
   have e:cntI (x :: c) n=0:=by unfold cntI;rw [e1];rfl
   rw [e,e1,e2]
   refine ⟨rfl,rfl,fun i hi=>⟨fun h3=>?_,fun h3=>absurd h3 (by omega)⟩⟩
   cases i with
   | zero=>rw [List.getElem_cons_zero] at h3;omega
   | succ i =>
    rw [List.getElem_cons_succ] at h3
    have:=hs.1 _ (List.getElem_mem (by simpa using hi:i < c.length));omega
theorem mem_insI {c:List Int} {n x:Int}:x∈insI c n↔x=n∨x∈c:=by
 unfold insI
 simp only [List.mem_append,List.mem_filter,List.mem_singleton,decide_eq_true_eq]
 constructor
 ·rintro (h | h | h)
  ·exact .inr h.1
  ·exact .inl h
  ·exact .inr h.1
 ·rintro (h | h)
  ·exact .inr (.inl h)
  ·rcases Int.lt_trichotomy x n with h' | h' | h'
   ·exact .inl ⟨h,h'⟩
   ·exact .inr (.inl h')
   ·exact .inr (.inr ⟨h,h'⟩)
theorem insI_asc {c:List Int} (h:c.Pairwise (· < ·)) (n:Int):(insI c n).Pairwise (· < ·):=by
 unfold insI
 rw [List.pairwise_append,List.pairwise_append]
 refine ⟨h.filter _,⟨by simp,h.filter _,?_⟩,?_⟩
 ·intro a ha b hb
  rw [List.mem_singleton] at ha
  have:=(List.mem_filter.1 hb).2
  simp at this;omega
 ·intro a ha b hb
  have ha:=(List.mem_filter.1 ha).2
  simp only [decide_eq_true_eq] at ha
  rcases List.mem_append.1 hb with hb | hb
  ·rw [List.mem_singleton] at hb;omega
  ·have hb:=(List.mem_filter.1 hb).2
   simp only [decide_eq_true_eq] at hb;omega
theorem insI_ok {c:List Int} (h:HopsOk c) {n:Int} (h1:1≤n) (h2:n≤6):HopsOk (insI c n) :=
 ⟨insI_asc h.1 n,fun x hx=>by rcases mem_insI.1 hx with rfl | hx;exact ⟨h1,h2⟩;exact h.2 x hx⟩
theorem insI_in {c:List Int} (h:c.Pairwise (· < ·)) {n:Int} (hn:n∈c):insI c n=c :=
 asc_ext (insI_asc h n) h fun x=>by rw [mem_insI];exact ⟨fun h=>h.elim (fun e=>e ▸ hn) id,.inr⟩
theorem insI_cut {c:List Int} (h:c.Pairwise (· < ·)) {n:Int} (hn:n ∉ c):insI c n=c.take (cntI c n)++([n]++c.drop (cntI c n)):=by
 obtain ⟨h1,h2,_⟩:=cntI_split h n
 rw [h1,h2]
 unfold insI
 congr 2
 refine List.filter_congr fun x hx=>?_
 have:x≠n:=fun e=>hn (e ▸ hx)
 have:(n < x)=(n≤x):=by simp only [eq_iff_iff];omega
 simp [this]
theorem cntI_at {c:List Int} (h:c.Pairwise (· < ·)) {n:Int} (hl:cntI c n < c.length):(gt c (cntI c n:Nat)=n↔n∈c):=by
 obtain ⟨_,h2,h3⟩:=cntI_split h n
 rw [gt_elem hl]
 constructor
 ·intro e;exact e ▸ List.getElem_mem hl
 ·intro hm
  obtain ⟨j,hj,e⟩:=List.mem_iff_getElem.1 hm
  have h4:¬ (j < cntI c n):=fun hc=>by have:=(h3 j hj).2 hc;omega
  have h5:¬ (c[cntI c n] < n):=fun hc=>by have:=(h3 _ hl).1 hc;omega
  rcases Nat.lt_or_ge (cntI c n) j with h6 | h6
  ·have:=List.pairwise_iff_getElem.1 h _ _ hl hj h6
   omega
  ·have:j=cntI c n:=by omega
   subst this;exact e
theorem cntI_notin {c:List Int} (h:c.Pairwise (· < ·)) {n:Int} (hl:¬ cntI c n < c.length):n ∉ c:=by
 obtain ⟨_,_,h3⟩:=cntI_split h n
 intro hm
 obtain ⟨j,hj,e⟩:=List.mem_iff_getElem.1 hm
 have h4:¬ (j < cntI c n):=fun hc=>by have:=(h3 j hj).2 hc;omega
 omega
def tog (a b:Way):Way:=if b.cost > a.cost then a else if a.cost > b.cost then b else ⟨a.to,a.cost,uni a.hops b.hops⟩
theorem foldl_insI {l c:List Int} (hl:∀ x∈l,1≤x∧x≤6) (hc:HopsOk c):HopsOk (l.foldl insI c)∧∀ x,x∈l.foldl insI c↔x∈c∨x∈l:=by
 induction l generalizing c with
 | nil=>exact ⟨hc,by simp⟩
 | cons n l ih =>
  have hn:=hl n (.head _)
  obtain ⟨h1,h2⟩:=ih (fun x hx=>hl x (.tail _ hx)) (insI_ok hc hn.1 hn.2)
  refine ⟨h1,fun x=>?_⟩
  rw [List.foldl_cons,h2,mem_insI,List.mem_cons]
  constructor
  ·rintro ((h | h) | h)
   ·exact .inr (.inl h)
   ·exact .inl h
   ·exact .inr (.inr h)
  ·rintro (h | h | h)
   ·exact .inl (.inr h)
   ·exact .inl (.inl h)
   ·exact .inr h
def togG (a b:Way):Way:=if b.cost > a.cost then a else if a.cost > b.cost then b else ⟨a.to,a.cost,b.hops.foldl insI (a.hops.foldl insI [])⟩
theorem insI_len (c:List Int) (n:Int):(insI c n).length≤c.length+1:=by
 have:∀ c:List Int,(c.filter (fun x=>decide (x < n))).length+(c.filter (fun x=>decide (n < x))).length≤c.length:=by
  intro c
  induction c with
  | nil=>simp
  | cons x c ih=>by_cases h1:x < n <;> by_cases h2:n < x <;> simp [h1,h2] <;> omega
 have:=this c
 unfold insI
 simp only [List.length_append,List.length_singleton];omega
theorem together_F_i_Together (a b:Int) (l:List Int) (a' b':Int) (l':List Int) (hl:l.length≤50) (hl':l'.length≤50):F_i_Together [ii a,ii b,.l (l.map eInt),ii a',ii b',.l (l'.map eInt)]=some (eWay (togG ⟨a,b,l⟩ ⟨a',b',l'⟩)):=by
 rw [g_i_Together];simp (disch:=omega) only [↓pq,↓pj,ps,pz,↓reduceIte,reduceLE,reduceLT,reduceEq,reduceGT,reduceGE,reduceAdd,reduceSub,reduceMul,reduceNeg,G_i_Together_l0,G_i_Together_l1,G_i_Together_l2,G_i_Together_l3,G_i_Together,e_i_copyWay _ _ _ (show l.length≤1048576 by omega),e_i_copyWay _ _ _ (show l'.length≤1048576 by omega)]
 unfold togG
 by_cases h1:b' > b
 ·simp only [h1,if_true];rfl
 by_cases h2:b > b'
 ·simp only [h1,h2,if_true,if_false];rfl
 simp only [h1,h2,if_false]
 have one:∀ (c:List Int) (n:Int) (j:Nat) (s:List T→Option (List T)),c.length≤200→(j:Int) < 100→∀ {F:Sem1→Sem1},(∀ k:Nat,∀ w,(k:Int) < cntI c n→F w [ii k]=w [ii (k+1)])→(∀ w,F w [ii (cntI c n)]=s [ii (j+1),.l ((insI c n).map eInt)])→iter F rounds [ii 0]=s [ii (j+1),.l ((insI c n).map eInt)]:=by
  intro c n j s hc hj F h1 h2
  have:=cntI_le c n
  exact iter_while (fun k=>[ii k]) (cntI c n) rfl (rounds_lt (by omega)) (fun i hi w=>h1 i w hi) h2
 refine (iter_foldlx l (fun i c=>[ii i,.l (c.map eInt)]) insI (fun c=>some (eWay ⟨a,b,l'.foldl insI c⟩)) [] (fun i c=>c.Pairwise (· < ·)∧c.length≤i) rfl (rounds_lt (by omega)) ⟨.nil,by simp⟩ ?_ ?_).trans ?_
 ·intro i c hi hc
  have hcl:=hc.2
  refine ⟨⟨insI_asc hc.1 _,by have:=insI_len c (gt l i);omega⟩,fun s=>?_⟩
  have hle:=cntI_le c (gt l i)
  obtain ⟨c1,c2,c3⟩:=cntI_split hc.1 (gt l i)
  simp (disch:=omega) only [↓pq,↓pj,ps,pz,↓reduceIte,reduceLE,reduceLT,reduceEq,reduceGT,reduceGE,reduceAdd,reduceSub,reduceMul,reduceNeg,G_i_Together_l0,G_i_Together_l1,G_i_Together_l2,G_i_Together_l3,hi]
  refine one c (gt l i) i s (by omega) (by omega) ?_ ?_
  ·intro k w hk
   have hk1:(k:Int) < c.length:=by omega
   have hk2:gt c (k:Int) < gt l i:=by rw [gt_elem (by omega)];exact (c3 k (by omega)).2 (by omega)
   simp (disch:=omega) only [↓pq,↓pj,ps,pz,↓reduceIte,reduceLE,reduceLT,reduceEq,reduceGT,reduceGE,reduceAdd,reduceSub,reduceMul,reduceNeg,G_i_Together_l0,G_i_Together_l1,G_i_Together_l2,G_i_Together_l3,hk1,hk2]
  ·intro w
   by_cases hlt:cntI c (gt l i) < c.length
   ·have hk1:((cntI c (gt l i):Nat):Int) < c.length:=by omega
    have hk2:¬ (gt c ((cntI c (gt l i):Nat):Int) < gt l i):=by rw [gt_elem hlt];intro hc';have:=(c3 _ hlt).1 hc';omega
    have hk3:=cntI_at hc.1 hlt
    by_cases hin:gt l i∈c
    ·rw [insI_in hc.1 hin]
     have hk4:=hk3.2 hin
     simp (disch:=omega) only [↓pq,↓pj,ps,pz,↓reduceIte,reduceLE,reduceLT,reduceEq,reduceGT,reduceGE,reduceAdd,reduceSub,reduceMul,reduceNeg,G_i_Together_l0,G_i_Together_l1,G_i_Together_l2,G_i_Together_l3,hk1,hk2,hk4]
    ·rw [insI_cut hc.1 hin]
     have hk4:¬ (gt c ((cntI c (gt l i):Nat):Int)=gt l i):=fun e=>hin (hk3.1 e)
     simp (disch:=omega) only [↓pq,↓pj,ps,pz,↓reduceIte,reduceLE,reduceLT,reduceEq,reduceGT,reduceGE,reduceAdd,reduceSub,reduceMul,reduceNeg,G_i_Together_l0,G_i_Together_l1,G_i_Together_l2,G_i_Together_l3,hk1,hk2,hk4,e_i_copyInts _ (show (c.take (cntI c (gt l i))).length≤1048576 by simp;omega)]
     rw [app1_Int_true (by simp;omega),bind_some',app_Int_true (by simp;omega),bind_some',List.append_assoc]
   ·have hk1:¬ (((cntI c (gt l i):Nat):Int) < c.length):=by omega
    rw [insI_cut hc.1 (cntI_notin hc.1 hlt)]
    simp (disch:=omega) only [↓pq,↓pj,ps,pz,↓reduceIte,reduceLE,reduceLT,reduceEq,reduceGT,reduceGE,reduceAdd,reduceSub,reduceMul,reduceNeg,G_i_Together_l0,G_i_Together_l1,G_i_Together_l2,G_i_Together_l3,hk1,e_i_copyInts _ (show (c.take (cntI c (gt l i))).length≤1048576 by simp;omega)]
    rw [app1_Int_true (by simp;omega),bind_some',app_Int_true (by simp;omega),bind_some',List.append_assoc]
 ·intro c w hc
  simp (disch:=omega) only [↓pq,↓pj,ps,pz,↓reduceIte,reduceLE,reduceLT,reduceEq,reduceGT,reduceGE,reduceAdd,reduceSub,reduceMul,reduceNeg,G_i_Together_l0,G_i_Together_l1,G_i_Together_l2,G_i_Together_l3,]
  refine iter_foldlx l' (fun i c=>[ii i,.l (c.map eInt)]) insI (fun c=>some (eWay ⟨a,b,c⟩)) c (fun i c=>c.Pairwise (· < ·)∧c.length≤l.length+i) rfl (rounds_lt (by omega)) hc ?_ ?_
  ·intro i c hi hc
   have hcl:=hc.2
   refine ⟨⟨insI_asc hc.1 _,by have:=insI_len c (gt l' i);omega⟩,fun s=>?_⟩
   have hle:=cntI_le c (gt l' i)
   obtain ⟨c1,c2,c3⟩:=cntI_split hc.1 (gt l' i)
   simp (disch:=omega) only [↓pq,↓pj,ps,pz,↓reduceIte,reduceLE,reduceLT,reduceEq,reduceGT,reduceGE,reduceAdd,reduceSub,reduceMul,reduceNeg,G_i_Together_l0,G_i_Together_l1,G_i_Together_l2,G_i_Together_l3,hi]
   refine one c (gt l' i) i s (by omega) (by omega) ?_ ?_
   ·intro k w hk
    have hk1:(k:Int) < c.length:=by omega
    have hk2:gt c (k:Int) < gt l' i:=by rw [gt_elem (by omega)];exact (c3 k (by omega)).2 (by omega)
    simp (disch:=omega) only [↓pq,↓pj,ps,pz,↓reduceIte,reduceLE,reduceLT,reduceEq,reduceGT,reduceGE,reduceAdd,reduceSub,reduceMul,reduceNeg,G_i_Together_l0,G_i_Together_l1,G_i_Together_l2,G_i_Together_l3,hk1,hk2]
   ·intro w
    by_cases hlt:cntI c (gt l' i) < c.length
    ·have hk1:((cntI c (gt l' i):Nat):Int) < c.length:=by omega
     have hk2:¬ (gt c ((cntI c (gt l' i):Nat):Int) < gt l' i):=by rw [gt_elem hlt];intro hc';have:=(c3 _ hlt).1 hc';omega
     have hk3:=cntI_at hc.1 hlt
     by_cases hin:gt l' i∈c
     ·rw [insI_in hc.1 hin]
      have hk4:=hk3.2 hin
      simp (disch:=omega) only [↓pq,↓pj,ps,pz,↓reduceIte,reduceLE,reduceLT,reduceEq,reduceGT,reduceGE,reduceAdd,reduceSub,reduceMul,reduceNeg,G_i_Together_l0,G_i_Together_l1,G_i_Together_l2,G_i_Together_l3,hk1,hk2,hk4]
     ·rw [insI_cut hc.1 hin]
      have hk4:¬ (gt c ((cntI c (gt l' i):Nat):Int)=gt l' i):=fun e=>hin (hk3.1 e)
      simp (disch:=omega) only [↓pq,↓pj,ps,pz,↓reduceIte,reduceLE,reduceLT,reduceEq,reduceGT,reduceGE,reduceAdd,reduceSub,reduceMul,reduceNeg,G_i_Together_l0,G_i_Together_l1,G_i_Together_l2,G_i_Together_l3,hk1,hk2,hk4,e_i_copyInts _ (show (c.take (cntI c (gt l' i))).length≤1048576 by simp;omega)]
      rw [app1_Int_true (by simp;omega),bind_some',app_Int_true (by simp;omega),bind_some',List.append_assoc]
    ·have hk1:¬ (((cntI c (gt l' i):Nat):Int) < c.length):=by omega
     rw [insI_cut hc.1 (cntI_notin hc.1 hlt)]
     simp (disch:=omega) only [↓pq,↓pj,ps,pz,↓reduceIte,reduceLE,reduceLT,reduceEq,reduceGT,reduceGE,reduceAdd,reduceSub,reduceMul,reduceNeg,G_i_Together_l0,G_i_Together_l1,G_i_Together_l2,G_i_Together_l3,hk1,e_i_copyInts _ (show (c.take (cntI c (gt l' i))).length≤1048576 by simp;omega)]
     rw [app1_Int_true (by simp;omega),bind_some',app_Int_true (by simp;omega),bind_some',List.append_assoc]
  ·intro c w hc
   simp (disch:=omega) only [↓pq,↓pj,ps,pz,↓reduceIte,reduceLE,reduceLT,reduceEq,reduceGT,reduceGE,reduceAdd,reduceSub,reduceMul,reduceNeg,G_i_Together_l0,G_i_Together_l1,G_i_Together_l2,G_i_Together_l3,]
   rfl
 ·rfl
theorem togG_eq {a b:Way} (h:HopsOk a.hops) (h':HopsOk b.hops):togG a b=tog a b:=by
 unfold togG tog
 obtain ⟨q1,q2⟩:=foldl_insI h.2 hops_nil
 obtain ⟨q3,q4⟩:=foldl_insI h'.2 q1
 congr 3
 refine asc_ext q3.1 (uni_ok _ _).1 fun x=>?_
 rw [q4,q2,mem_uni]
 constructor
 ·rintro ((hx | hx) | hx)
  ·cases hx
  ·exact ⟨h.2 x hx,.inl hx⟩
  ·exact ⟨h'.2 x hx,.inr hx⟩
 ·rintro ⟨_,hx | hx⟩
  ·exact .inl (.inr hx)
  ·exact .inr hx
theorem e_i_Together (a b:Int) (l:List Int) (a' b':Int) (l':List Int) (h:HopsOk l) (h':HopsOk l'):F_i_Together [ii a,ii b,.l (l.map eInt),ii a',ii b',.l (l'.map eInt)]=some (eWay (tog ⟨a,b,l⟩ ⟨a',b',l'⟩)):=by
 rw [← togG_eq h h']
 exact together_F_i_Together a b l a' b' l' (by have:=hops_len h;omega) (by have:=hops_len h';omega)
end Go.Proofs.YtlofiplkmgmnfaaC

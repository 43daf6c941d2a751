/- The records that there would be: what they are. Conditions: none. -/
import Derived.Test.YtbhplkilhknciaaDoorXSR
namespace Go.Proofs.YtbhplkilhknciaaDoorC
set_option linter.unusedVariables false
set_option linter.unusedSimpArgs false
theorem asc_pairs {α:Type} [Inhabited α] {ok:α→Bool} {lt:α→α→Bool} (tr:∀ a b c,lt a b=true→lt b c=true→lt a c=true) {l:List α} (h:ascB ok lt l=true):l.Pairwise fun a b=>lt a b=true:=by
 have h:=allB_iff.1 h
 rw [List.pairwise_iff_getElem]
 have step:∀ i,(hi:i+1 < l.length)→lt l[i] l[i+1]=true:=by
  intro i hi
  have:=h (i+1) hi
  simp only [Bool.and_eq_true,Bool.or_eq_true,Bool.not_eq_true',decide_eq_false_iff_not] at this
  have h2:=this.2.resolve_left (by omega)
  rwa [show (((i+1:Nat):Int) - 1)=(i:Int) by omega,gt_elem (by omega),gt_elem hi] at h2
 intro i j hi hj hij
 obtain ⟨d,rfl⟩:∃ d,j=i+1+d:=⟨j - i - 1,by omega⟩
 clear hij
 induction d with
 | zero=>exact step i (by omega)
 | succ d ih=>exact tr _ _ _ (ih (by omega)) (step (i+1+d) (by omega))
theorem asc_of {α:Type} [Inhabited α] {ok:α→Bool} {lt:α→α→Bool} {l:List α} (h1:∀ x∈l,ok x=true) (h2:l.Pairwise fun a b=>lt a b=true):ascB ok lt l=true:=by
 unfold ascB
 rw [allB_iff]
 intro i hi
 rw [gt_elem hi]
 simp only [Bool.and_eq_true,Bool.or_eq_true,Bool.not_eq_true',decide_eq_false_iff_not]
 refine ⟨h1 _ (List.getElem_mem hi),?_⟩
 rcases Nat.eq_zero_or_pos i with h0 | h0
 ·exact .inl (by omega)
 ·right
  rw [show ((i:Int) - 1)=((i - 1:Nat):Int) by omega,gt_elem (by omega)]
  exact List.pairwise_iff_getElem.1 h2 (i - 1) i (by omega) hi (by omega)
theorem link_pairs {n:Int} {ls:List Link} (h:ascB (linkOk n) linkLt ls=true):ls.Pairwise fun a b=>linkLt a b=true :=
 asc_pairs (fun a b c h1 h2=>by simp only [linkLt,decide_eq_true_eq] at *;omega) h
theorem joins_iff {a b ar:Int} {l:Link}:joins a b ar l=true↔l.area=ar∧(l.a=a∧l.b=b∨l.a=b∧l.b=a):=by
 unfold joins
 simp only [Bool.and_eq_true,Bool.or_eq_true,beq_iff_eq]
theorem joins_one {n:Int} {ls:List Link} (h:ascB (linkOk n) linkLt ls=true) {a b ar:Int} {i j:Nat} (hi:i < ls.length) (hj:j < ls.length) (h1:joins a b ar ls[i]=true) (h2:joins a b ar ls[j]=true):i=j:=by
 have hp:=List.pairwise_iff_getElem.1 (link_pairs h)
 have q1:=link_of h (List.getElem_mem hi)
 have q2:=link_of h (List.getElem_mem hj)
 rw [joins_iff] at h1 h2
 rcases Nat.lt_trichotomy i j with hij | hij | hij
 ·have:=hp i j hi hj hij
  simp only [linkLt,decide_eq_true_eq] at this
  omega
 ·exact hij
 ·have:=hp j i hj hi hij
  simp only [linkLt,decide_eq_true_eq] at this
  omega
theorem findP_has {α:Type} [Inhabited α] {p:α→Bool} {l:List α} {x:α} (hx:x∈l) (h:p x=true):0≤findP p l:=by
 rcases Int.lt_or_le (findP p l) 0 with h1 | h1
 ·have:=(findP_none _ _).1 h1 x hx
  rw [h] at this;cases this
 ·exact h1
theorem costTo_pos {n:Int} {ls:List Link} (h:ascB (linkOk n) linkLt ls=true) (node v a:Int):costTo ls node v a > 0↔∃ x∈ls,joins node v a x=true:=by
 have hz:=costTo_zero h node v a
 constructor
 ·intro hc
  have h0:0≤findP (joins node v a) ls:=by
   rcases Int.lt_or_le (findP (joins node v a) ls) 0 with h1 | h1
   ·have:=hz.2 h1;omega
   ·exact h1
  exact ⟨_,gt_mem h0 (findP_lt _ _),findP_spec _ _ h0⟩
 ·rintro ⟨x,hx,e⟩
  have h0:=findP_has hx e
  have h1:=link_of h (gt_mem (l:=ls) (n:=findP (joins node v a) ls) (by omega) (findP_lt _ _))
  unfold costTo
  rw [if_neg (by omega)]
  omega
def openC (ls:List Link) (L:List Bool) (a b ar:Int):Int :=
 if findP (joins a b ar) ls < 0 then 0 else if gt L (findP (joins a b ar) ls)=true then (gt ls (findP (joins a b ar) ls)).cost else 0
theorem openC_bnd {n:Int} {ls:List Link} (h:ascB (linkOk n) linkLt ls=true) {L:List Bool} {a b ar:Int} (h0:openC ls L a b ar > 0):costTo ls a b ar > 0∧openC ls L a b ar=costTo ls a b ar∧costTo ls a b ar≤1000∧gt L (findP (joins a b ar) ls)=true∧0≤findP (joins a b ar) ls:=by
 unfold openC at h0 ⊢
 unfold costTo
 by_cases h1:findP (joins a b ar) ls < 0
 ·rw [if_pos h1] at h0;omega
 ·rw [if_neg h1] at h0 ⊢
  rw [if_neg h1]
  by_cases h2:gt L (findP (joins a b ar) ls)=true
  ·rw [if_pos h2] at h0 ⊢
   have:=link_of h (gt_mem (l:=ls) (n:=findP (joins a b ar) ls) (by omega) (findP_lt _ _))
   exact ⟨by omega,rfl,by omega,h2,by omega⟩
  ·rw [if_neg h2] at h0;omega
def nearU (ls:List Link) (L U:List Bool) (node a:Int):List Near:=(six.filter fun v=>decide (openC ls L node v a > 0) && gt U (v - 1)).map fun v=>⟨v,openC ls L node v a⟩
theorem nearOk_of {o:Int} {l:List Near} (h1:∀ x∈l,(1≤x.to∧x.to≤6)∧x.to≠o∧1≤x.cost∧x.cost≤1000) (h2:l.Pairwise fun a b=>a.to < b.to):nearOk o l=true:=by
 unfold nearOk
 rw [allB_iff]
 intro i hi
 have h3:=h1 _ (List.getElem_mem hi)
 rw [gt_elem hi]
 simp only [Bool.and_eq_true,Bool.or_eq_true,Bool.not_eq_true',decide_eq_false_iff_not,inB_iff,decide_eq_true_eq]
 refine ⟨⟨⟨h3.1,h3.2.1⟩,h3.2.2⟩,?_⟩
 rcases Nat.eq_zero_or_pos i with h0 | h0
 ·exact .inl (by omega)
 ·right
  rw [show ((i:Int) - 1)=((i - 1:Nat):Int) by omega,gt_elem (by omega)]
  exact List.pairwise_iff_getElem.1 h2 (i - 1) i (by omega) hi (by omega)
theorem nearU_ok {n:Int} {ls:List Link} (h:ascB (linkOk n) linkLt ls=true) (L U:List Bool) (node a:Int):nearOk node (nearU ls L U node a)=true:=by
 unfold nearU
 refine nearOk_of ?_ ?_
 ·intro x hx
  obtain ⟨v,hv,rfl⟩:=List.mem_map.1 hx
  obtain ⟨h1,h2⟩:=List.mem_filter.1 hv
  rw [mem_six] at h1
  simp only [Bool.and_eq_true,decide_eq_true_eq] at h2
  have h3:=openC_bnd h h2.1
  obtain ⟨y,hy,e⟩:=(costTo_pos h node v a).1 h3.1
  have h4:=link_of h hy
  rw [joins_iff] at e
  refine ⟨h1,?_,?_,?_⟩
  ·show v≠node
   omega
  ·show 1≤openC ls L node v a
   omega
  ·show openC ls L node v a≤1000
   omega
 ·rw [List.pairwise_map]
  exact six_asc.filter _
def kind3 (r:Rcd):Bool:=r.kind == 3
def Sto (k:Nat) (s:List Rcd):Prop:=Sorted s∧(∀ r∈s,recOk r=true)∧(s.filter kind3).length≤k
theorem near_len {o:Int} {l:List Near} (h:nearOk o l=true):l.length≤6:=by
 rw [← List.length_map (f:=Near.to)]
 refine asc_len (n:=6) ?_ ?_
 ·rw [List.pairwise_map]
  exact nearOk_asc h
 ·intro x hx
  obtain ⟨y,hy,rfl⟩:=List.mem_map.1 hx
  exact (nearOk_all h hy).1
theorem rec_near {r:Rcd} (h:recOk r=true):r.near.length≤6:=by
 unfold recOk at h
 simp only [Bool.and_eq_true] at h
 have h:=h.2
 split at h
 ·simp only [Bool.and_eq_true] at h
  exact near_len h.1.1.2
 ·split at h
  ·simp only [Bool.and_eq_true,decide_eq_true_eq] at h
   omega
  ·split at h
   ·simp only [Bool.and_eq_true,decide_eq_true_eq] at h
    omega
   ·cases h
theorem rec_kind {r:Rcd} (h:recOk r=true):(1≤r.owner∧r.owner≤6)∧(r.kind=1∧r.key=0∧0≤r.area∧r.area≤2∨r.kind=2∧(1≤r.key∧r.key≤6)∧0≤r.area∧r.area≤2∨r.kind=3):=by
 unfold recOk at h
 simp only [Bool.and_eq_true,inB_iff] at h
 refine ⟨h.1.1,?_⟩
 have h:=h.2
 split at h
 ·simp only [Bool.and_eq_true,inB_iff,decide_eq_true_eq] at h
  omega
 ·split at h
  ·simp only [Bool.and_eq_true,inB_iff,decide_eq_true_eq] at h
   omega
  ·split at h
   ·omega
   ·cases h
theorem Sto.near {k:Nat} {s:List Rcd} (h:Sto k s):NearL s:=fun r hr=>by
 have:=rec_near (h.2.1 r hr);omega
theorem filter3 (s:List Rcd) (h:∀ r∈s,r.kind=1∨r.kind=2∨r.kind=3):s.length=(s.filter fun r=>r.kind == 1).length+(s.filter fun r=>r.kind == 2).length+(s.filter kind3).length:=by
 induction s with
 | nil=>rfl
 | cons x s ih =>
  have ih:=ih fun r hr=>h r (.tail _ hr)
  have hx:=h x (.head _)
  simp only [List.filter_cons,List.length_cons,kind3]
  rw [ih]
  rcases hx with hx | hx | hx <;> simp [hx,kind3] <;> omega
theorem Sto.len {k:Nat} {s:List Rcd} (h:Sto k s):s.length≤126+k:=by
 obtain ⟨h1,h2,h3⟩:=h
 have hk:=fun r hr=>rec_kind (h2 r hr)
 rw [filter3 s fun r hr=>by have:=hk r hr;omega]
 have a1:(s.filter fun r=>r.kind == 1).length≤18:=by
  rw [← List.length_map (f:=fun r:Rcd=>r.area * 6+r.owner)]
  refine asc_len (n:=18) ?_ ?_
  ·rw [List.pairwise_map]
   refine (h1.filter _).imp_of_mem fun {a b} ha hb hab=>?_
   obtain ⟨ha1,ha2⟩:=List.mem_filter.1 ha
   obtain ⟨hb1,hb2⟩:=List.mem_filter.1 hb
   simp only [beq_iff_eq] at ha2 hb2
   have:=hk a ha1
   have:=hk b hb1
   rw [recLt_iff] at hab
   omega
  ·intro x hx
   obtain ⟨r,hr,rfl⟩:=List.mem_map.1 hx
   obtain ⟨hr1,hr2⟩:=List.mem_filter.1 hr
   simp only [beq_iff_eq] at hr2
   have:=hk r hr1
   omega
 have a2:(s.filter fun r=>r.kind == 2).length≤108:=by
  rw [← List.length_map (f:=fun r:Rcd=>(r.area * 6+r.owner - 1) * 6+r.key)]
  refine asc_len (n:=108) ?_ ?_
  ·rw [List.pairwise_map]
   refine (h1.filter _).imp_of_mem fun {a b} ha hb hab=>?_
   obtain ⟨ha1,ha2⟩:=List.mem_filter.1 ha
   obtain ⟨hb1,hb2⟩:=List.mem_filter.1 hb
   simp only [beq_iff_eq] at ha2 hb2
   have:=hk a ha1
   have:=hk b hb1
   rw [recLt_iff] at hab
   omega
  ·intro x hx
   obtain ⟨r,hr,rfl⟩:=List.mem_map.1 hx
   obtain ⟨hr1,hr2⟩:=List.mem_filter.1 hr
   simp only [beq_iff_eq] at hr2
   have:=hk r hr1
   omega
 omega
theorem Sto.ok {k:Nat} {s:List Rcd} (h:Sto k s) (hk:k≤24):storeOk s=true:=by
 have:=h.len
 unfold storeOk
 rw [Bool.and_eq_true,decide_eq_true_eq]
 exact ⟨by omega,asc_of h.2.1 h.1⟩
theorem putR_filter_len (s:List Rcd) (r:Rcd) (p:Rcd→Bool):((putR s r).filter p).length≤(s.filter p).length+(if p r=true then 1 else 0):=by
 have h1:((s.filter fun x=>recLt x r).filter p).length+((s.filter fun x=>recLt r x).filter p).length≤(s.filter p).length:=by
  induction s with
  | nil=>simp
  | cons x s ih =>
   simp only [List.filter_cons]
   cases h:recLt x r with
   | true =>
    rw [recLt_not h]
    cases hp:p x <;> simp [hp] <;> simp at ih <;> omega
   | false=>cases h':recLt r x <;> cases hp:p x <;> simp [hp] <;> simp at ih <;> omega
 have h2:([r].filter p).length=if p r=true then 1 else 0:=by
  rw [List.filter_cons]
  split <;> rfl
 unfold putR
 rw [List.filter_append,List.filter_append,List.length_append,List.length_append,h2]
 omega
theorem Sto.put {k:Nat} {s:List Rcd} (h:Sto k s) {r:Rcd} (hr:recOk r=true):Sto (k+if r.kind=3 then 1 else 0) (putR s r):=by
 refine ⟨putR_sorted h.1 r,fun x hx=>?_,?_⟩
 ·rcases mem_putR hx with rfl | hx
  ·exact hr
  ·exact h.2.1 x hx
 ·have h1:=putR_filter_len s r kind3
  have h2:=h.2.2
  have h3:(kind3 r=true)=(r.kind=3):=by unfold kind3;simp
  simp only [h3] at h1
  omega
theorem Sto.put' {k:Nat} {s:List Rcd} (h:Sto k s) {r:Rcd} (hr:recOk r=true) (h3:r.kind≠3):Sto k (putR s r):=by
 have:=h.put hr
 rwa [if_neg h3] at this
theorem Sto.filter {k:Nat} {s:List Rcd} (h:Sto k s) (p:Rcd→Bool):Sto k (s.filter p):=by
 refine ⟨h.1.filter _,fun x hx=>h.2.1 x (List.mem_filter.1 hx).1,?_⟩
 rw [List.filter_filter]
 refine Nat.le_trans ?_ h.2.2
 rw [← List.countP_eq_length_filter,← List.countP_eq_length_filter]
 exact List.countP_mono_left fun x _ hx=>(Bool.and_eq_true _ _ ▸ hx).1
theorem Sto.nil:Sto 0 []:=⟨.nil,by simp,by simp⟩
theorem Sto.mono {k k':Nat} {s:List Rcd} (h:Sto k s) (hk:k≤k'):Sto k' s:=⟨h.1,h.2.1,Nat.le_trans h.2.2 hk⟩
end Go.Proofs.YtbhplkilhknciaaDoorC

/- The records that there would be: what they are. Conditions: none. -/
import Derived.Test.YtjimmglpkndemaaGreatXSR
namespace Go.Proofs.YtjimmglpkndemaaGreatC
set_option linter.unusedVariables false
set_option linter.unusedSimpArgs false
theorem aq6_ {α:Type} [Inhabited α] {ok:α→Bool} {lt:α→α→Bool} (tr:∀ a b c,lt a b=true→lt b c=true→lt a c=true) {l:List α} (h:ascB ok lt l=true):l.Pairwise fun a b=>lt a b=true:=by
 have h:=allB_iff.1 h
 rw [List.pairwise_iff_getElem]
 have step:∀ i,(hi:i+1 < l.length)→lt l[i] l[i+1]=true:=by
  intro i hi
  have:=h (i+1) hi
  simp only [bA_,Bool.or_eq_true,Bool.not_eq_true',decide_eq_false_iff_not] at this
  have h2:=this.2.resolve_left (by omega)
  rwa [show (((i+1:Nat):Int) - 1)=(i:Int) by omega,zm_ (by omega),zm_ hi] at h2
 intro i j hi hj hij
 obtain ⟨d,rfl⟩:∃ d,j=i+1+d:=⟨j - i - 1,by omega⟩
 clear hij
 induction d with
 | zero=>exact step i (by omega)
 | succ d ih=>exact tr _ _ _ (ih (by omega)) (step (i+1+d) (by omega))
theorem ajb_ {α:Type} [Inhabited α] {ok:α→Bool} {lt:α→α→Bool} {l:List α} (h1:∀ x∈l,ok x=true) (h2:l.Pairwise fun a b=>lt a b=true):ascB ok lt l=true:=by
 unfold ascB
 rw [allB_iff]
 intro i hi
 rw [zm_ hi]
 simp only [bA_,Bool.or_eq_true,Bool.not_eq_true',decide_eq_false_iff_not]
 refine ⟨h1 _ (List.getElem_mem hi),?_⟩
 rcases Nat.eq_zero_or_pos i with h0 | h0
 ·exact .inl (by omega)
 ·right
  rw [show ((i:Int) - 1)=((i - 1:Nat):Int) by omega,zm_ (by omega)]
  exact List.pairwise_iff_getElem.1 h2 (i - 1) i (by omega) hi (by omega)
theorem aFh_ {n:Int} {ls:List Link} (h:ascB (yo_ n) zI_ ls=true):ls.Pairwise fun a b=>zI_ a b=true :=
 aq6_ (fun a b c h1 h2=>by simp only [zI_,decide_eq_true_eq] at *;omega) h
theorem joins_iff {a b ar:Int} {l:Link}:zt_ a b ar l=true↔l.area=ar∧(l.a=a∧l.b=b∨l.a=b∧l.b=a):=by
 unfold zt_
 simp only [bA_,Bool.or_eq_true,beq_iff_eq]
theorem aHp_ {n:Int} {ls:List Link} (h:ascB (yo_ n) zI_ ls=true) {a b ar:Int} {i j:Nat} (hi:i < ls.length) (hj:j < ls.length) (h1:zt_ a b ar ls[i]=true) (h2:zt_ a b ar ls[j]=true):i=j:=by
 have hp:=List.pairwise_iff_getElem.1 (aFh_ h)
 have q1:=vy_ h (List.getElem_mem hi)
 have q2:=vy_ h (List.getElem_mem hj)
 rw [joins_iff] at h1 h2
 rcases Nat.lt_trichotomy i j with hij | hij | hij
 ·have:=hp i j hi hj hij
  simp only [zI_,decide_eq_true_eq] at this
  omega
 ·exact hij
 ·have:=hp j i hj hi hij
  simp only [zI_,decide_eq_true_eq] at this
  omega
theorem jP_ {α:Type} [Inhabited α] {p:α→Bool} {l:List α} {x:α} (hx:x∈l) (h:p x=true):0≤zn_ p l:=by
 rcases Int.lt_or_le (zn_ p l) 0 with h1 | h1
 ·have:=(wX_ _ _).1 h1 x hx
  rw [h] at this;cases this
 ·exact h1
theorem an5_ {n:Int} {ls:List Link} (h:ascB (yo_ n) zI_ ls=true) (node v a:Int):yM_ ls node v a > 0↔∃ x∈ls,zt_ node v a x=true:=by
 have hz:=kM_ h node v a
 constructor
 ·intro hc
  have h0:0≤zn_ (zt_ node v a) ls:=by
   rcases Int.lt_or_le (zn_ (zt_ node v a) ls) 0 with h1 | h1
   ·have:=hz.2 h1;omega
   ·exact h1
  exact ⟨_,zS_ h0 (y9_ _ _),yE_ _ _ h0⟩
 ·rintro ⟨x,hx,e⟩
  have h0:=jP_ hx e
  have h1:=vy_ h (zS_ (l:=ls) (n:=zn_ (zt_ node v a) ls) (by omega) (y9_ _ _))
  unfold yM_
  rw [if_neg (by omega)]
  omega
def w9_ (ls:List Link) (L:List Bool) (a b ar:Int):Int :=
 if zn_ (zt_ a b ar) ls < 0 then 0 else if gt L (zn_ (zt_ a b ar) ls)=true then (gt ls (zn_ (zt_ a b ar) ls)).cost else 0
theorem art_ {n:Int} {ls:List Link} (h:ascB (yo_ n) zI_ ls=true) {L:List Bool} {a b ar:Int} (h0:w9_ ls L a b ar > 0):yM_ ls a b ar > 0∧w9_ ls L a b ar=yM_ ls a b ar∧yM_ ls a b ar≤1000∧gt L (zn_ (zt_ a b ar) ls)=true∧0≤zn_ (zt_ a b ar) ls:=by
 unfold w9_ at h0 ⊢
 unfold yM_
 by_cases h1:zn_ (zt_ a b ar) ls < 0
 ·rw [if_pos h1] at h0;omega
 ·rw [if_neg h1] at h0 ⊢
  rw [if_neg h1]
  by_cases h2:gt L (zn_ (zt_ a b ar) ls)=true
  ·rw [if_pos h2] at h0 ⊢
   have:=vy_ h (zS_ (l:=ls) (n:=zn_ (zt_ a b ar) ls) (by omega) (y9_ _ _))
   exact ⟨by omega,rfl,by omega,h2,by omega⟩
  ·rw [if_neg h2] at h0;omega
def akz_ (ls:List Link) (L U:List Bool) (node a:Int):List Near:=(six.filter fun v=>decide (w9_ ls L node v a > 0) && gt U (v - 1)).map fun v=>⟨v,w9_ ls L node v a⟩
theorem aj6_ {o:Int} {l:List Near} (h1:∀ x∈l,(1≤x.to∧x.to≤6)∧x.to≠o∧1≤x.cost∧x.cost≤1000) (h2:l.Pairwise fun a b=>a.to < b.to):w5_ o l=true:=by
 unfold w5_
 rw [allB_iff]
 intro i hi
 have h3:=h1 _ (List.getElem_mem hi)
 rw [zm_ hi]
 simp only [bA_,Bool.or_eq_true,Bool.not_eq_true',decide_eq_false_iff_not,inB_iff,decide_eq_true_eq]
 refine ⟨⟨⟨h3.1,h3.2.1⟩,h3.2.2⟩,?_⟩
 rcases Nat.eq_zero_or_pos i with h0 | h0
 ·exact .inl (by omega)
 ·right
  rw [show ((i:Int) - 1)=((i - 1:Nat):Int) by omega,zm_ (by omega)]
  exact List.pairwise_iff_getElem.1 h2 (i - 1) i (by omega) hi (by omega)
theorem aK5_ {n:Int} {ls:List Link} (h:ascB (yo_ n) zI_ ls=true) (L U:List Bool) (node a:Int):w5_ node (akz_ ls L U node a)=true:=by
 unfold akz_
 refine aj6_ ?_ ?_
 ·intro x hx
  obtain ⟨v,hv,rfl⟩:=List.mem_map.1 hx
  obtain ⟨h1,h2⟩:=List.mem_filter.1 hv
  rw [mem_six] at h1
  simp only [bA_,decide_eq_true_eq] at h2
  have h3:=art_ h h2.1
  obtain ⟨y,hy,e⟩:=(an5_ h node v a).1 h3.1
  have h4:=vy_ h hy
  rw [joins_iff] at e
  refine ⟨h1,?_,?_,?_⟩
  ·show v≠node
   omega
  ·show 1≤w9_ ls L node v a
   omega
  ·show w9_ ls L node v a≤1000
   omega
 ·rw [List.pairwise_map]
  exact six_asc.filter _
def wz_ (r:Rcd):Bool:=r.kind == 3
def Sto (k:Nat) (s:List Rcd):Prop:=zG_ s∧(∀ r∈s,zE_ r=true)∧(s.filter wz_).length≤k
theorem aKc_ {o:Int} {l:List Near} (h:w5_ o l=true):l.length≤6:=by
 rw [← List.length_map (f:=Near.to)]
 refine apy_ (n:=6) ?_ ?_
 ·rw [List.pairwise_map]
  exact apf_ h
 ·intro x hx
  obtain ⟨y,hy,rfl⟩:=List.mem_map.1 hx
  exact (j0_ h hy).1
theorem ahk_ {r:Rcd} (h:zE_ r=true):r.near.length≤6:=by
 unfold zE_ at h
 simp only [bA_] at h
 have h:=h.2
 split at h
 ·simp only [bA_] at h
  exact aKc_ h.1.1.2
 ·split at h
  ·simp only [bA_,decide_eq_true_eq] at h
   omega
  ·split at h
   ·simp only [bA_,decide_eq_true_eq] at h
    omega
   ·cases h
theorem alt_ {r:Rcd} (h:zE_ r=true):(1≤r.owner∧r.owner≤6)∧(r.kind=1∧r.key=0∧0≤r.area∧r.area≤2∨r.kind=2∧(1≤r.key∧r.key≤6)∧0≤r.area∧r.area≤2∨r.kind=3):=by
 unfold zE_ at h
 simp only [bA_,inB_iff] at h
 refine ⟨h.1.1,?_⟩
 have h:=h.2
 split at h
 ·simp only [bA_,inB_iff,decide_eq_true_eq] at h
  omega
 ·split at h
  ·simp only [bA_,inB_iff,decide_eq_true_eq] at h
   omega
  ·split at h
   ·omega
   ·cases h
theorem Sto.near {k:Nat} {s:List Rcd} (h:Sto k s):NearL s:=fun r hr=>by
 have:=ahk_ (h.2.1 r hr);omega
theorem aMo_ (s:List Rcd) (h:∀ r∈s,r.kind=1∨r.kind=2∨r.kind=3):s.length=(s.filter fun r=>r.kind == 1).length+(s.filter fun r=>r.kind == 2).length+(s.filter wz_).length:=by
 induction s with
 | nil=>rfl
 | cons x s ih =>
  have ih:=ih fun r hr=>h r (.tail _ hr)
  have hx:=h x (.head _)
  simp only [List.filter_cons,List.length_cons,wz_]
  rw [ih]
  rcases hx with hx | hx | hx <;> simp [hx,wz_] <;> omega
theorem Sto.len {k:Nat} {s:List Rcd} (h:Sto k s):s.length≤126+k:=by
 obtain ⟨h1,h2,h3⟩:=h
 have hk:=fun r hr=>alt_ (h2 r hr)
 rw [aMo_ s fun r hr=>by have:=hk r hr;omega]
 have a1:(s.filter fun r=>r.kind == 1).length≤18:=by
  rw [← List.length_map (f:=fun r:Rcd=>r.area * 6+r.owner)]
  refine apy_ (n:=18) ?_ ?_
  ·rw [List.pairwise_map]
   refine (h1.filter _).imp_of_mem fun {a b} ha hb hab=>?_
   obtain ⟨ha1,ha2⟩:=List.mem_filter.1 ha
   obtain ⟨hb1,hb2⟩:=List.mem_filter.1 hb
   simp only [beq_iff_eq] at ha2 hb2
   have:=hk a ha1
   have:=hk b hb1
   rw [yp_] at hab
   omega
  ·intro x hx
   obtain ⟨r,hr,rfl⟩:=List.mem_map.1 hx
   obtain ⟨hr1,hr2⟩:=List.mem_filter.1 hr
   simp only [beq_iff_eq] at hr2
   have:=hk r hr1
   omega
 have a2:(s.filter fun r=>r.kind == 2).length≤108:=by
  rw [← List.length_map (f:=fun r:Rcd=>(r.area * 6+r.owner - 1) * 6+r.key)]
  refine apy_ (n:=108) ?_ ?_
  ·rw [List.pairwise_map]
   refine (h1.filter _).imp_of_mem fun {a b} ha hb hab=>?_
   obtain ⟨ha1,ha2⟩:=List.mem_filter.1 ha
   obtain ⟨hb1,hb2⟩:=List.mem_filter.1 hb
   simp only [beq_iff_eq] at ha2 hb2
   have:=hk a ha1
   have:=hk b hb1
   rw [yp_] at hab
   omega
  ·intro x hx
   obtain ⟨r,hr,rfl⟩:=List.mem_map.1 hx
   obtain ⟨hr1,hr2⟩:=List.mem_filter.1 hr
   simp only [beq_iff_eq] at hr2
   have:=hk r hr1
   omega
 omega
theorem Sto.ok {k:Nat} {s:List Rcd} (h:Sto k s) (hk:k≤24):ze_ s=true:=by
 have:=h.len
 unfold ze_
 rw [bA_,decide_eq_true_eq]
 exact ⟨by omega,ajb_ h.2.1 h.1⟩
theorem ac0_ (s:List Rcd) (r:Rcd) (p:Rcd→Bool):((putR s r).filter p).length≤(s.filter p).length+(if p r=true then 1 else 0):=by
 have h1:((s.filter fun x=>zx_ x r).filter p).length+((s.filter fun x=>zx_ r x).filter p).length≤(s.filter p).length:=by
  induction s with
  | nil=>simp
  | cons x s ih =>
   simp only [List.filter_cons]
   cases h:zx_ x r with
   | true =>
    rw [k1_ h]
    cases hp:p x <;> simp [hp] <;> simp at ih <;> omega
   | false=>cases h':zx_ r x <;> cases hp:p x <;> simp [hp] <;> simp at ih <;> omega
 have h2:([r].filter p).length=if p r=true then 1 else 0:=by
  rw [List.filter_cons]
  split <;> rfl
 unfold putR
 rw [List.filter_append,List.filter_append,List.length_append,List.length_append,h2]
 omega
theorem Sto.put {k:Nat} {s:List Rcd} (h:Sto k s) {r:Rcd} (hr:zE_ r=true):Sto (k+if r.kind=3 then 1 else 0) (putR s r):=by
 refine ⟨vt_ h.1 r,fun x hx=>?_,?_⟩
 ·rcases wA_ hx with rfl | hx
  ·exact hr
  ·exact h.2.1 x hx
 ·have h1:=ac0_ s r wz_
  have h2:=h.2.2
  have h3:(wz_ r=true)=(r.kind=3):=by unfold wz_;simp
  simp only [h3] at h1
  omega
theorem Sto.put' {k:Nat} {s:List Rcd} (h:Sto k s) {r:Rcd} (hr:zE_ r=true) (h3:r.kind≠3):Sto k (putR s r):=by
 have:=h.put hr
 rwa [if_neg h3] at this
theorem Sto.filter {k:Nat} {s:List Rcd} (h:Sto k s) (p:Rcd→Bool):Sto k (s.filter p):=by
 refine ⟨h.1.filter _,fun x hx=>h.2.1 x (List.mem_filter.1 hx).1,?_⟩
 rw [List.filter_filter]
 refine Nat.le_trans ?_ h.2.2
 rw [← List.countP_eq_length_filter,← List.countP_eq_length_filter]
 exact List.countP_mono_left fun x _ hx=>(bA_ _ _ ▸ hx).1
theorem Sto.nil:Sto 0 []:=⟨.nil,by simp,by simp⟩
theorem Sto.mono {k k':Nat} {s:List Rcd} (h:Sto k s) (hk:k≤k'):Sto k' s:=⟨h.1,h.2.1,Nat.le_trans h.2.2 hk⟩
end Go.Proofs.YtjimmglpkndemaaGreatC

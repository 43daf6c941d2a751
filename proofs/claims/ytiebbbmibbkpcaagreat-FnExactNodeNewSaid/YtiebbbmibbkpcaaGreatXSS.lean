/- The records that there would be: what they are. Conditions: none. -/
import Derived.Test.YtiebbbmibbkpcaaGreatXSR
namespace Go.Proofs.YtiebbbmibbkpcaaGreatC
set_option linter.unusedVariables false
set_option linter.unusedSimpArgs false
theorem awe_ {α:Type} [Inhabited α] {ok:α→Bool} {lt:α→α→Bool} {l:List α} (h1:∀ x∈l,ok x=true) (h2:l.Pairwise fun a b=>lt a b=true):ascB ok lt l=true:=by
 unfold ascB
 rw [allB_iff]
 intro i hi
 rw [zm_ hi]
 simp only [Bool.and_eq_true,Bool.or_eq_true,Bool.not_eq_true',decide_eq_false_iff_not]
 refine ⟨h1 _ (List.getElem_mem hi),?_⟩
 rcases Nat.eq_zero_or_pos i with h0 | h0
 ·exact .inl (by omega)
 ·right
  rw [show ((i:Int) - 1)=((i - 1:Nat):Int) by omega,zm_ (by omega)]
  exact List.pairwise_iff_getElem.1 h2 (i - 1) i (by omega) hi (by omega)
theorem joins_iff {a b ar:Int} {l:Link}:yk_ a b ar l=true↔l.area=ar∧(l.a=a∧l.b=b∨l.a=b∧l.b=a):=by
 unfold yk_
 simp only [Bool.and_eq_true,Bool.or_eq_true,beq_iff_eq]
theorem ajx_ {α:Type} [Inhabited α] {p:α→Bool} {l:List α} {x:α} (hx:x∈l) (h:p x=true):0≤zu_ p l:=by
 rcases Int.lt_or_le (zu_ p l) 0 with h1 | h1
 ·have:=(w5_ _ _).1 h1 x hx
  rw [h] at this;cases this
 ·exact h1
def aO6_ (ls:List Link) (L:List Bool) (a b ar:Int):Int :=
 if zu_ (yk_ a b ar) ls < 0 then 0 else if gt L (zu_ (yk_ a b ar) ls)=true then (gt ls (zu_ (yk_ a b ar) ls)).cost else 0
def aS1_ (ls:List Link) (L U:List Bool) (node a:Int):List Near:=(six.filter fun v=>decide (aO6_ ls L node v a > 0) && gt U (v - 1)).map fun v=>⟨v,aO6_ ls L node v a⟩
theorem aKc_ {o:Int} {l:List Near} (h1:∀ x∈l,(1≤x.to∧x.to≤6)∧x.to≠o∧1≤x.cost∧x.cost≤1000) (h2:l.Pairwise fun a b=>a.to < b.to):vt_ o l=true:=by
 unfold vt_
 rw [allB_iff]
 intro i hi
 have h3:=h1 _ (List.getElem_mem hi)
 rw [zm_ hi]
 simp only [Bool.and_eq_true,Bool.or_eq_true,Bool.not_eq_true',decide_eq_false_iff_not,inB_iff,decide_eq_true_eq]
 refine ⟨⟨⟨h3.1,h3.2.1⟩,h3.2.2⟩,?_⟩
 rcases Nat.eq_zero_or_pos i with h0 | h0
 ·exact .inl (by omega)
 ·right
  rw [show ((i:Int) - 1)=((i - 1:Nat):Int) by omega,zm_ (by omega)]
  exact List.pairwise_iff_getElem.1 h2 (i - 1) i (by omega) hi (by omega)
def agz_ (r:Rcd):Bool:=r.kind == 3
def Sto (k:Nat) (s:List Rcd):Prop:=yR_ s∧(∀ r∈s,zR_ r=true)∧(s.filter agz_).length≤k
theorem aNd_ {o:Int} {l:List Near} (h:vt_ o l=true):l.length≤6:=by
 rw [← List.length_map (f:=Near.to)]
 refine abq_ (n:=6) ?_ ?_
 ·rw [List.pairwise_map]
  exact aqi_ h
 ·intro x hx
  obtain ⟨y,hy,rfl⟩:=List.mem_map.1 hx
  exact (qY_ h hy).1
theorem auk_ {r:Rcd} (h:zR_ r=true):r.near.length≤6:=by
 unfold zR_ at h
 simp only [Bool.and_eq_true] at h
 have h:=h.2
 split at h
 ·simp only [Bool.and_eq_true] at h
  exact aNd_ h.1.1.2
 ·split at h
  ·simp only [Bool.and_eq_true,decide_eq_true_eq] at h
   omega
  ·split at h
   ·simp only [Bool.and_eq_true,decide_eq_true_eq] at h
    omega
   ·cases h
theorem ag5_ {r:Rcd} (h:zR_ r=true):(1≤r.owner∧r.owner≤6)∧(r.kind=1∧r.key=0∧0≤r.area∧r.area≤2∨r.kind=2∧(1≤r.key∧r.key≤6)∧0≤r.area∧r.area≤2∨r.kind=3):=by
 unfold zR_ at h
 simp only [Bool.and_eq_true,inB_iff] at h
 refine ⟨h.1.1,?_⟩
 have h:=h.2
 split at h
 ·simp only [Bool.and_eq_true,inB_iff,decide_eq_true_eq] at h
  omega
 ·split at h
  ·simp only [Bool.and_eq_true,inB_iff,decide_eq_true_eq] at h
   omega
  ·split at h
   ·omega
   ·cases h
theorem Sto.near {k:Nat} {s:List Rcd} (h:Sto k s):NearL s:=fun r hr=>by
 have:=auk_ (h.2.1 r hr);omega
theorem aP6_ (s:List Rcd) (h:∀ r∈s,r.kind=1∨r.kind=2∨r.kind=3):s.length=(s.filter fun r=>r.kind == 1).length+(s.filter fun r=>r.kind == 2).length+(s.filter agz_).length:=by
 induction s with
 | nil=>rfl
 | cons x s ih =>
  have ih:=ih fun r hr=>h r (.tail _ hr)
  have hx:=h x (.head _)
  simp only [List.filter_cons,List.length_cons,agz_]
  rw [ih]
  rcases hx with hx | hx | hx <;> simp [hx,agz_] <;> omega
theorem Sto.len {k:Nat} {s:List Rcd} (h:Sto k s):s.length≤126+k:=by
 obtain ⟨h1,h2,h3⟩:=h
 have hk:=fun r hr=>ag5_ (h2 r hr)
 rw [aP6_ s fun r hr=>by have:=hk r hr;omega]
 have a1:(s.filter fun r=>r.kind == 1).length≤18:=by
  rw [← List.length_map (f:=fun r:Rcd=>r.area * 6+r.owner)]
  refine abq_ (n:=18) ?_ ?_
  ·rw [List.pairwise_map]
   refine (h1.filter _).imp_of_mem fun {a b} ha hb hab=>?_
   obtain ⟨ha1,ha2⟩:=List.mem_filter.1 ha
   obtain ⟨hb1,hb2⟩:=List.mem_filter.1 hb
   simp only [beq_iff_eq] at ha2 hb2
   have:=hk a ha1
   have:=hk b hb1
   rw [y0_] at hab
   omega
  ·intro x hx
   obtain ⟨r,hr,rfl⟩:=List.mem_map.1 hx
   obtain ⟨hr1,hr2⟩:=List.mem_filter.1 hr
   simp only [beq_iff_eq] at hr2
   have:=hk r hr1
   omega
 have a2:(s.filter fun r=>r.kind == 2).length≤108:=by
  rw [← List.length_map (f:=fun r:Rcd=>(r.area * 6+r.owner - 1) * 6+r.key)]
  refine abq_ (n:=108) ?_ ?_
  ·rw [List.pairwise_map]
   refine (h1.filter _).imp_of_mem fun {a b} ha hb hab=>?_
   obtain ⟨ha1,ha2⟩:=List.mem_filter.1 ha
   obtain ⟨hb1,hb2⟩:=List.mem_filter.1 hb
   simp only [beq_iff_eq] at ha2 hb2
   have:=hk a ha1
   have:=hk b hb1
   rw [y0_] at hab
   omega
  ·intro x hx
   obtain ⟨r,hr,rfl⟩:=List.mem_map.1 hx
   obtain ⟨hr1,hr2⟩:=List.mem_filter.1 hr
   simp only [beq_iff_eq] at hr2
   have:=hk r hr1
   omega
 omega
theorem Sto.ok {k:Nat} {s:List Rcd} (h:Sto k s) (hk:k≤24):zk_ s=true:=by
 have:=h.len
 unfold zk_
 rw [Bool.and_eq_true,decide_eq_true_eq]
 exact ⟨by omega,awe_ h.2.1 h.1⟩
theorem aou_ (s:List Rcd) (r:Rcd) (p:Rcd→Bool):((putR s r).filter p).length≤(s.filter p).length+(if p r=true then 1 else 0):=by
 have h1:((s.filter fun x=>zC_ x r).filter p).length+((s.filter fun x=>zC_ r x).filter p).length≤(s.filter p).length:=by
  induction s with
  | nil=>simp
  | cons x s ih =>
   simp only [List.filter_cons]
   cases h:zC_ x r with
   | true =>
    rw [aad_ h]
    cases hp:p x <;> simp [hp] <;> simp at ih <;> omega
   | false=>cases h':zC_ r x <;> cases hp:p x <;> simp [hp] <;> simp at ih <;> omega
 have h2:([r].filter p).length=if p r=true then 1 else 0:=by
  rw [List.filter_cons]
  split <;> rfl
 unfold putR
 rw [List.filter_append,List.filter_append,List.length_append,List.length_append,h2]
 omega
theorem Sto.put {k:Nat} {s:List Rcd} (h:Sto k s) {r:Rcd} (hr:zR_ r=true):Sto (k+if r.kind=3 then 1 else 0) (putR s r):=by
 refine ⟨uY_ h.1 r,fun x hx=>?_,?_⟩
 ·rcases v1_ hx with rfl | hx
  ·exact hr
  ·exact h.2.1 x hx
 ·have h1:=aou_ s r agz_
  have h2:=h.2.2
  have h3:(agz_ r=true)=(r.kind=3):=by unfold agz_;simp
  simp only [h3] at h1
  omega
theorem Sto.put' {k:Nat} {s:List Rcd} (h:Sto k s) {r:Rcd} (hr:zR_ r=true) (h3:r.kind≠3):Sto k (putR s r):=by
 have:=h.put hr
 rwa [if_neg h3] at this
theorem Sto.filter {k:Nat} {s:List Rcd} (h:Sto k s) (p:Rcd→Bool):Sto k (s.filter p):=by
 refine ⟨h.1.filter _,fun x hx=>h.2.1 x (List.mem_filter.1 hx).1,?_⟩
 rw [List.filter_filter]
 refine Nat.le_trans ?_ h.2.2
 rw [← List.countP_eq_length_filter,← List.countP_eq_length_filter]
 exact List.countP_mono_left fun x _ hx=>(Bool.and_eq_true _ _ ▸ hx).1
theorem Sto.nil:Sto 0 []:=⟨.nil,by simp,by simp⟩
theorem Sto.mono {k k':Nat} {s:List Rcd} (h:Sto k s) (hk:k≤k'):Sto k' s:=⟨h.1,h.2.1,Nat.le_trans h.2.2 hk⟩
end Go.Proofs.YtiebbbmibbkpcaaGreatC

/- The records that there would be: what they are. Conditions: none. -/
import Derived.Test.YtiebbbmibbkpcaaXSR
namespace Go.Proofs.YtiebbbmibbkpcaaC
set_option linter.unusedVariables false
set_option linter.unusedSimpArgs false
theorem asc_of {α:Type} [Inhabited α] {ok:α→Bool} {lt:α→α→Bool} {l:List α} (h1:∀ x∈l,ok x=true) (h2:l.Pairwise fun a b=>lt a b=true):ascB ok lt l=true:=by
 unfold ascB
 rw [allB_iff]
 intro i hi
 rw [gt_elem hi]
 simp only [Bool.and_eq_true,Bool.or_eq_true,Bool.not_eq_true',decide_eq_false_iff_not]
 refine ⟨h1 _ (List.getElem_mem hi),?_⟩
 rcases Nat.eq_zero_or_pos i with h0 | h0
 ·exact .inl (by omega)
 ·right
  rw [show ((i:Int) - 1)=((i - 1:Nat):Int) by omega,gt_elem (by omega)]
  exact List.pairwise_iff_getElem.1 h2 (i - 1) i (by omega) hi (by omega)
def kind3 (r:Rcd):Bool:=r.kind == 3
def Sto (k:Nat) (s:List Rcd):Prop:=Sorted s∧(∀ r∈s,recOk r=true)∧(s.filter kind3).length≤k
theorem near_len {o:Int} {l:List Near} (h:nearOk o l=true):l.length≤6:=by
 rw [← List.length_map (f:=Near.to)]
 refine asc_len (n:=6) ?_ ?_
 ·rw [List.pairwise_map]
  exact nearOk_asc h
 ·intro x hx
  obtain ⟨y,hy,rfl⟩:=List.mem_map.1 hx
  exact (nearOk_all h hy).1
theorem rec_near {r:Rcd} (h:recOk r=true):r.near.length≤6:=by
 unfold recOk at h
 simp only [Bool.and_eq_true] at h
 have h:=h.2
 split at h
 ·simp only [Bool.and_eq_true] at h
  exact near_len h.1.1.2
 ·split at h
  ·simp only [Bool.and_eq_true,decide_eq_true_eq] at h
   omega
  ·split at h
   ·simp only [Bool.and_eq_true,decide_eq_true_eq] at h
    omega
   ·cases h
theorem rec_kind {r:Rcd} (h:recOk r=true):(1≤r.owner∧r.owner≤6)∧(r.kind=1∧r.key=0∧0≤r.area∧r.area≤2∨r.kind=2∧(1≤r.key∧r.key≤6)∧0≤r.area∧r.area≤2∨r.kind=3):=by
 unfold recOk at h
 simp only [Bool.and_eq_true,inB_iff] at h
 refine ⟨h.1.1,?_⟩
 have h:=h.2
 split at h
 ·simp only [Bool.and_eq_true,inB_iff,decide_eq_true_eq] at h
  omega
 ·split at h
  ·simp only [Bool.and_eq_true,inB_iff,decide_eq_true_eq] at h
   omega
  ·split at h
   ·omega
   ·cases h
theorem Sto.near {k:Nat} {s:List Rcd} (h:Sto k s):NearL s:=fun r hr=>by
 have:=rec_near (h.2.1 r hr);omega
theorem filter3 (s:List Rcd) (h:∀ r∈s,r.kind=1∨r.kind=2∨r.kind=3):s.length=(s.filter fun r=>r.kind == 1).length+(s.filter fun r=>r.kind == 2).length+(s.filter kind3).length:=by
 induction s with
 | nil=>rfl
 | cons x s ih =>
  have ih:=ih fun r hr=>h r (.tail _ hr)
  have hx:=h x (.head _)
  simp only [List.filter_cons,List.length_cons,kind3]
  rw [ih]
  rcases hx with hx | hx | hx <;> simp [hx,kind3] <;> omega
theorem Sto.len {k:Nat} {s:List Rcd} (h:Sto k s):s.length≤126+k:=by
 obtain ⟨h1,h2,h3⟩:=h
 have hk:=fun r hr=>rec_kind (h2 r hr)
 rw [filter3 s fun r hr=>by have:=hk r hr;omega]
 have a1:(s.filter fun r=>r.kind == 1).length≤18:=by
  rw [← List.length_map (f:=fun r:Rcd=>r.area * 6+r.owner)]
  refine asc_len (n:=18) ?_ ?_
  ·rw [List.pairwise_map]
   refine (h1.filter _).imp_of_mem fun {a b} ha hb hab=>?_
   obtain ⟨ha1,ha2⟩:=List.mem_filter.1 ha
   obtain ⟨hb1,hb2⟩:=List.mem_filter.1 hb
   simp only [beq_iff_eq] at ha2 hb2
   have:=hk a ha1
   have:=hk b hb1
   rw [recLt_iff] at hab
   omega
  ·intro x hx
   obtain ⟨r,hr,rfl⟩:=List.mem_map.1 hx
   obtain ⟨hr1,hr2⟩:=List.mem_filter.1 hr
   simp only [beq_iff_eq] at hr2
   have:=hk r hr1
   omega
 have a2:(s.filter fun r=>r.kind == 2).length≤108:=by
  rw [← List.length_map (f:=fun r:Rcd=>(r.area * 6+r.owner - 1) * 6+r.key)]
  refine asc_len (n:=108) ?_ ?_
  ·rw [List.pairwise_map]
   refine (h1.filter _).imp_of_mem fun {a b} ha hb hab=>?_
   obtain ⟨ha1,ha2⟩:=List.mem_filter.1 ha
   obtain ⟨hb1,hb2⟩:=List.mem_filter.1 hb
   simp only [beq_iff_eq] at ha2 hb2
   have:=hk a ha1
   have:=hk b hb1
   rw [recLt_iff] at hab
   omega
  ·intro x hx
   obtain ⟨r,hr,rfl⟩:=List.mem_map.1 hx
   obtain ⟨hr1,hr2⟩:=List.mem_filter.1 hr
   simp only [beq_iff_eq] at hr2
   have:=hk r hr1
   omega
 omega
theorem Sto.ok {k:Nat} {s:List Rcd} (h:Sto k s) (hk:k≤24):storeOk s=true:=by
 have:=h.len
 unfold storeOk
 rw [Bool.and_eq_true,decide_eq_true_eq]
 exact ⟨by omega,asc_of h.2.1 h.1⟩
theorem putR_filter_len (s:List Rcd) (r:Rcd) (p:Rcd→Bool):((putR s r).filter p).length≤(s.filter p).length+(if p r=true then 1 else 0):=by
 have h1:((s.filter fun x=>recLt x r).filter p).length+((s.filter fun x=>recLt r x).filter p).length≤(s.filter p).length:=by
  induction s with
  | nil=>simp
  | cons x s ih =>
   simp only [List.filter_cons]
   cases h:recLt x r with
   | true =>
    rw [recLt_not h]
    cases hp:p x <;> simp [hp] <;> simp at ih <;> omega
   | false=>cases h':recLt r x <;> cases hp:p x <;> simp [hp] <;> simp at ih <;> omega
 have h2:([r].filter p).length=if p r=true then 1 else 0:=by
  rw [List.filter_cons]
  split <;> rfl
 unfold putR
 rw [List.filter_append,List.filter_append,List.length_append,List.length_append,h2]
 omega
theorem Sto.put {k:Nat} {s:List Rcd} (h:Sto k s) {r:Rcd} (hr:recOk r=true):Sto (k+if r.kind=3 then 1 else 0) (putR s r):=by
 refine ⟨putR_sorted h.1 r,fun x hx=>?_,?_⟩
 ·rcases mem_putR hx with rfl | hx
  ·exact hr
  ·exact h.2.1 x hx
 ·have h1:=putR_filter_len s r kind3
  have h2:=h.2.2
  have h3:(kind3 r=true)=(r.kind=3):=by unfold kind3;simp
  simp only [h3] at h1
  omega
theorem Sto.filter {k:Nat} {s:List Rcd} (h:Sto k s) (p:Rcd→Bool):Sto k (s.filter p):=by
 refine ⟨h.1.filter _,fun x hx=>h.2.1 x (List.mem_filter.1 hx).1,?_⟩
 rw [List.filter_filter]
 refine Nat.le_trans ?_ h.2.2
 rw [← List.countP_eq_length_filter,← List.countP_eq_length_filter]
 exact List.countP_mono_left fun x _ hx=>(Bool.and_eq_true _ _ ▸ hx).1
theorem Sto.nil:Sto 0 []:=⟨.nil,by simp,by simp⟩
theorem Sto.mono {k k':Nat} {s:List Rcd} (h:Sto k s) (hk:k≤k'):Sto k' s:=⟨h.1,h.2.1,Nat.le_trans h.2.2 hk⟩
end Go.Proofs.YtiebbbmibbkpcaaC

/- What renewing hands back is right; new nodes, by both programs. Conditions: none. -/
import Derived.Test.YtjimmglpkndemaaGreatXSZd
namespace Go.Proofs.YtjimmglpkndemaaGreatC
set_option linter.unusedVariables false
set_option linter.unusedSimpArgs false
theorem aGm_ {r:Rcd} (h:zE_ (seq1 r)=true) {q:Int} (hq:1≤q∧q≤100000):zE_ { r with seq:=q }=true:=by
 unfold zE_ at h ⊢
 simp only [seq1,bA_,inB_iff] at h ⊢
 exact ⟨⟨h.1.1,hq⟩,h.2⟩
theorem aM0_ {r:Rcd} (h:zE_ r=true):zE_ (seq1 (zF_ r))=true:=by
 have hk:=alt_ h
 unfold zE_ at h ⊢
 unfold zF_
 simp only [bA_,inB_iff] at h
 by_cases h1:r.kind=1
 ·have h2:=h.2
  rw [if_pos h1] at h2
  simp only [bA_,inB_iff,decide_eq_true_eq,Bool.not_eq_true'] at h2
  rw [if_pos h1]
  simp only [seq1,h1,if_true,bA_,inB_iff,decide_eq_true_eq,Bool.not_eq_true']
  exact ⟨⟨h.1.1,by omega⟩,⟨⟨⟨h2.1.1.1.1,h2.1.1.1.2⟩,by simp [w5_,allB]⟩,h2.1.2⟩,h2.2⟩
 ·have h2:=h.2
  rw [if_neg h1] at h2
  rw [if_neg h1]
  simp only [seq1,h1,if_false,bA_,inB_iff]
  refine ⟨⟨h.1.1,by omega⟩,?_⟩
  by_cases h3:r.kind=2
  ·rw [if_pos h3] at h2 ⊢
   simp only [bA_,inB_iff,decide_eq_true_eq,Bool.not_eq_true'] at h2 ⊢
   exact ⟨⟨⟨⟨h2.1.1.1.1,h2.1.1.1.2⟩,rfl⟩,by omega⟩,h2.2⟩
  ·rw [if_neg h3] at h2 ⊢
   by_cases h4:r.kind=3
   ·rw [if_pos h4] at h2 ⊢
    simp only [bA_,Bool.or_eq_true,inB_iff,decide_eq_true_eq] at h2
    have q1:=h2.1.1.1
    have q2:=h2.1.1.2
    simp [q1,q2,inB_iff]
   ·rw [if_neg h4] at h2;cases h2
theorem aNp_ {x:Self} (h:xu_ x=true) (S:List Rcd):∀ w∈y8_ x S,zE_ (seq1 w)=true:=by
 obtain ⟨hN,hid,hbt,hev,hpr,hst⟩:=yU_ h
 obtain ⟨n1,hl,ht,hA,hT⟩:=w0_ hN
 have hmem:∀ (l s:List Rcd),(∀ r∈s,zE_ (seq1 r)=true)→(∀ r∈l,zE_ (seq1 r)=true)→∀ r∈zq_ same s l,zE_ (seq1 r)=true:=by
  intro l
  induction l with
  | nil=>intro s h1 _;exact h1
  | cons a l ih =>
   intro s h1 h2
   refine ih (putR s (same a)) (fun r hr=>?_) fun r hr=>h2 r (.tail _ hr)
   rcases wA_ hr with e | hr
   ·rw [e];exact h2 a (.head _)
   ·exact h1 r hr
 refine hmem _ _ (by simp) fun r hr=>?_
 rcases List.mem_append.1 hr with hr | hr
 ·rcases List.mem_append.1 hr with hr | hr
  ·rw [← (jW_ hr).1];exact aig_ h hr
  ·unfold beyL at hr
   split at hr
   ·obtain ⟨a,ha,hr⟩:=List.mem_flatMap.1 hr
    exact (am4_ (by omega) (je_ ha) hr).1
   ·cases hr
 ·obtain ⟨t,ht',rfl⟩:=List.mem_map.1 hr
  have h3:=ag7_ hT (List.mem_filter.1 ht').1
  unfold zE_
  simp only [seq1,xt_,bA_,inB_iff]
  refine ⟨⟨by omega,by omega⟩,?_⟩
  simp [inB_iff,h3]
theorem aLi_ {x:Self} (h:xu_ x=true) (S:List Rcd) (hq:(y7_ x (y8_ x S)).all (fun r=>decide (r.seq≤100000))=true):∀ r∈y7_ x (y8_ x S),zE_ r=true:=by
 obtain ⟨hN,hid,hbt,hev,hpr,hst⟩:=yU_ h
 have hw:=aNp_ h S
 have key:∀ r∈y7_ x (y8_ x S),∃ b q,zE_ (seq1 b)=true∧r={ b with seq:=q }:=by
  have h1:∀ (l c:List Rcd),(∀ w∈l,zE_ (seq1 w)=true)→(∀ y∈c,∃ b q,zE_ (seq1 b)=true∧y={ b with seq:=q })→∀ y∈l.foldl (xQ_ x) c,∃ b q,zE_ (seq1 b)=true∧y={ b with seq:=q }:=by
   intro l
   induction l with
   | nil=>intro c _ h;exact h
   | cons a l ih =>
    intro c hl hc
    rw [List.foldl_cons]
    refine ih _ (fun w hw=>hl w (.tail _ hw)) fun y hy=>?_
    unfold xQ_ at hy
    split at hy
    ·rcases wA_ hy with rfl | hy
     ·exact ⟨a,_,hl a (.head _),rfl⟩
     ·exact hc y hy
    ·exact hc y hy
  have h2:∀ (l c:List Rcd),(∀ w∈l,zE_ w=true)→(∀ y∈c,∃ b q,zE_ (seq1 b)=true∧y={ b with seq:=q })→∀ y∈l.foldl (wy_ x (y8_ x S)) c,∃ b q,zE_ (seq1 b)=true∧y={ b with seq:=q }:=by
   intro l
   induction l with
   | nil=>intro c _ h;exact h
   | cons a l ih =>
    intro c hl hc
    rw [List.foldl_cons]
    refine ih _ (fun w hw=>hl w (.tail _ hw)) fun y hy=>?_
    unfold wy_ at hy
    split at hy
    ·rcases wA_ hy with rfl | hy
     ·exact ⟨zF_ a,_,aM0_ (hl a (.head _)),rfl⟩
     ·exact hc y hy
    ·exact hc y hy
  exact h2 _ _ (fun w hw=>xI_ hst hw) (h1 _ _ hw (by simp))
 intro r hr
 have hs:=aFc_ hst hbt (y8_ x S) r hr
 have hs2:=List.all_eq_true.1 hq r hr
 rw [decide_eq_true_eq] at hs2
 obtain ⟨b,q,hb,rfl⟩:=key r hr
 exact aGm_ hb ⟨hs,hs2⟩
end Go.Proofs.YtjimmglpkndemaaGreatC

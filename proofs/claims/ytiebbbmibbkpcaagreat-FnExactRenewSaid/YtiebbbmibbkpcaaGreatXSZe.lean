/- What renewing hands back is right; new nodes, by both programs. Conditions: none. -/
import Derived.Test.YtiebbbmibbkpcaaGreatXSZd
namespace Go.Proofs.YtiebbbmibbkpcaaGreatC
open Int (reduceLE reduceLT reduceEq reduceGT reduceGE reduceAdd reduceSub reduceMul reduceNeg)
set_option linter.unusedVariables false
set_option linter.unusedSimpArgs false
theorem ag1_ {r:Rcd} (h:zV_ r=true):aia_ r∧r.near.length≤6:=by
 have h1:=ags_ h
 have h2:=aCl_ h
 have h6:=ax7_ h
 have hn:∀ y∈r.near,aqh_ y:=by
  intro y hy
  unfold zV_ at h
  simp only [Bool.and_eq_true] at h
  have h:=h.2
  split at h
  ·simp only [Bool.and_eq_true] at h
   have:=qL_ h.1.1.2 hy
   exact ⟨I64.mk (by omega) (by omega),I64.mk (by omega) (by omega)⟩
  ·have:r.near.length=0:=by
    split at h
    ·simp only [Bool.and_eq_true,decide_eq_true_eq] at h;omega
    ·split at h
     ·simp only [Bool.and_eq_true,decide_eq_true_eq] at h;omega
     ·cases h
   rw [List.eq_nil_of_length_eq_zero this] at hy;cases hy
 have hb:(-10≤r.area∧r.area≤10)∧(-10≤r.key∧r.key≤10)∧(-10≤r.cost∧r.cost≤60000):=by
  unfold zV_ at h
  simp only [Bool.and_eq_true] at h
  have h:=h.2
  split at h
  ·simp only [Bool.and_eq_true,inB_iff,decide_eq_true_eq] at h;omega
  ·split at h
   ·simp only [Bool.and_eq_true,inB_iff,decide_eq_true_eq] at h;omega
   ·split at h
    ·simp only [Bool.and_eq_true,Bool.or_eq_true,inB_iff,decide_eq_true_eq] at h;omega
    ·cases h
 exact ⟨⟨I64.mk (by omega) (by omega),I64.mk (by omega) (by omega),I64.mk (by omega) (by omega),I64.mk (by omega) (by omega),I64.mk (by omega) (by omega),⟨by unfold maxLen;omega,hn⟩,I64.mk (by omega) (by omega)⟩,h6⟩
theorem av7_ {l:List Rcd} (h:∀ r∈l,r.near.length≤6):blks uc_ l≤7 * l.length:=by
 induction l with
 | nil=>simp [blks]
 | cons r l ih =>
  have h1:=h r (.head _)
  have h2:=ih fun y hy=>h y (.tail _ hy)
  have h3:∀ m:List Near,blks kx_ m=m.length:=by
   intro m;induction m with
   | nil=>rfl
   | cons a m ih=>simp only [blks,ih,kx_,List.length_cons];omega
  simp only [blks,uc_,h3,List.length_cons]
  omega
theorem aIy_ {r:Rcd} (h:zV_ (seq1 r)=true) {q:Int} (hq:1≤q∧q≤100000):zV_ { r with seq:=q }=true:=by
 unfold zV_ at h ⊢
 simp only [seq1,Bool.and_eq_true,inB_iff] at h ⊢
 exact ⟨⟨h.1.1,hq⟩,h.2⟩
theorem aPf_ {r:Rcd} (h:zV_ r=true):zV_ (seq1 (zG_ r))=true:=by
 have hk:=ags_ h
 unfold zV_ at h ⊢
 unfold zG_
 simp only [Bool.and_eq_true,inB_iff] at h
 by_cases h1:r.kind=1
 ·have h2:=h.2
  rw [if_pos h1] at h2
  simp only [Bool.and_eq_true,inB_iff,decide_eq_true_eq,Bool.not_eq_true'] at h2
  rw [if_pos h1]
  simp only [seq1,h1,if_true,Bool.and_eq_true,inB_iff,decide_eq_true_eq,Bool.not_eq_true']
  exact ⟨⟨h.1.1,by omega⟩,⟨⟨⟨h2.1.1.1.1,h2.1.1.1.2⟩,by simp [vd_,allB]⟩,h2.1.2⟩,h2.2⟩
 ·have h2:=h.2
  rw [if_neg h1] at h2
  rw [if_neg h1]
  simp only [seq1,h1,if_false,Bool.and_eq_true,inB_iff]
  refine ⟨⟨h.1.1,by omega⟩,?_⟩
  by_cases h3:r.kind=2
  ·rw [if_pos h3] at h2 ⊢
   simp only [Bool.and_eq_true,inB_iff,decide_eq_true_eq,Bool.not_eq_true'] at h2 ⊢
   exact ⟨⟨⟨⟨h2.1.1.1.1,h2.1.1.1.2⟩,rfl⟩,by omega⟩,h2.2⟩
  ·rw [if_neg h3] at h2 ⊢
   by_cases h4:r.kind=3
   ·rw [if_pos h4] at h2 ⊢
    simp only [Bool.and_eq_true,Bool.or_eq_true,inB_iff,decide_eq_true_eq] at h2
    have q1:=h2.1.1.1
    have q2:=h2.1.1.2
    simp [q1,q2,inB_iff]
   ·rw [if_neg h4] at h2;cases h2
theorem aP0_ {x:Self} (h:xv_ x=true) (S:List Rcd):∀ w∈xE_ x S,zV_ (seq1 w)=true:=by
 obtain ⟨hN,hid,hbt,hev,hpr,hst⟩:=wd_ h
 obtain ⟨n1,hl,ht,hA,hT⟩:=ur_ hN
 have hmem:∀ (l s:List Rcd),(∀ r∈s,zV_ (seq1 r)=true)→(∀ r∈l,zV_ (seq1 r)=true)→∀ r∈zB_ same s l,zV_ (seq1 r)=true:=by
  intro l
  induction l with
  | nil=>intro s h1 _;exact h1
  | cons a l ih =>
   intro s h1 h2
   refine ih (putR s (same a)) (fun r hr=>?_) fun r hr=>h2 r (.tail _ hr)
   rcases uD_ hr with e | hr
   ·rw [e];exact h2 a (.head _)
   ·exact h1 r hr
 refine hmem _ _ (by simp) fun r hr=>?_
 rcases List.mem_append.1 hr with hr | hr
 ·rcases List.mem_append.1 hr with hr | hr
  ·rw [← (afw_ hr).1];exact ar3_ h hr
  ·unfold beyL at hr
   split at hr
   ·obtain ⟨a,ha,hr⟩:=List.mem_flatMap.1 hr
    exact (aEr_ (by omega) (amw_ ha) hr).1
   ·cases hr
 ·obtain ⟨t,ht',rfl⟩:=List.mem_map.1 hr
  have h3:=aMl_ hT (List.mem_filter.1 ht').1
  unfold zV_
  simp only [seq1,xp_,Bool.and_eq_true,inB_iff]
  refine ⟨⟨by omega,by omega⟩,?_⟩
  simp [inB_iff,h3]
theorem aN0_ {x:Self} (h:xv_ x=true) (S:List Rcd) (hq:(wl_ x (xE_ x S)).all (fun r=>decide (r.seq≤100000))=true):∀ r∈wl_ x (xE_ x S),zV_ r=true:=by
 obtain ⟨hN,hid,hbt,hev,hpr,hst⟩:=wd_ h
 have hw:=aP0_ h S
 have key:∀ r∈wl_ x (xE_ x S),∃ b q,zV_ (seq1 b)=true∧r={ b with seq:=q }:=by
  have h1:∀ (l c:List Rcd),(∀ w∈l,zV_ (seq1 w)=true)→(∀ y∈c,∃ b q,zV_ (seq1 b)=true∧y={ b with seq:=q })→∀ y∈l.foldl (ww_ x) c,∃ b q,zV_ (seq1 b)=true∧y={ b with seq:=q }:=by
   intro l
   induction l with
   | nil=>intro c _ h;exact h
   | cons a l ih =>
    intro c hl hc
    rw [List.foldl_cons]
    refine ih _ (fun w hw=>hl w (.tail _ hw)) fun y hy=>?_
    unfold ww_ at hy
    split at hy
    ·rcases uD_ hy with rfl | hy
     ·exact ⟨a,_,hl a (.head _),rfl⟩
     ·exact hc y hy
    ·exact hc y hy
  have h2:∀ (l c:List Rcd),(∀ w∈l,zV_ w=true)→(∀ y∈c,∃ b q,zV_ (seq1 b)=true∧y={ b with seq:=q })→∀ y∈l.foldl (wx_ x (xE_ x S)) c,∃ b q,zV_ (seq1 b)=true∧y={ b with seq:=q }:=by
   intro l
   induction l with
   | nil=>intro c _ h;exact h
   | cons a l ih =>
    intro c hl hc
    rw [List.foldl_cons]
    refine ih _ (fun w hw=>hl w (.tail _ hw)) fun y hy=>?_
    unfold wx_ at hy
    split at hy
    ·rcases uD_ hy with rfl | hy
     ·exact ⟨zG_ a,_,aPf_ (hl a (.head _)),rfl⟩
     ·exact hc y hy
    ·exact hc y hy
  exact h2 _ _ (fun w hw=>wq_ hst hw) (h1 _ _ hw (by simp))
 intro r hr
 have hs:=aF8_ hst hbt (xE_ x S) r hr
 have hs2:=List.all_eq_true.1 hq r hr
 rw [decide_eq_true_eq] at hs2
 obtain ⟨b,q,hb,rfl⟩:=key r hr
 exact aIy_ hb ⟨hs,hs2⟩
structure Rok (x:Self):Prop where
 id:(y9_ x).1.id=x.id
 boot:(y9_ x).1.boot=x.boot
 net:(y9_ x).1.net=x.net
 heard:(y9_ x).1.heard=x.heard
 ok:∀ r∈(y9_ x).1.store,aia_ r
 len:(y9_ x).1.store.length≤1048576
 blk:q3_ (y9_ x).1≤1048576
 ok2:∀ r∈(y9_ x).2,aia_ r
 len2:(y9_ x).2.length≤175
 blk2:blks uc_ (y9_ x).2≤1225
theorem aH1_ {x:Self} (hb:q3_ x≤1048576) (ho:∀ r∈x.store,aia_ r):Rok x:=by
 have hl:x.store.length≤1048576:=by
  have h1:=kU_ (f:=uc_) x.store
  unfold q3_ at hb;omega
 have same':y9_ x=(x,[])→Rok x:=fun e=>by
  constructor
  all_goals rw [e]
  ·exact ho
  ·exact hl
  ·exact hb
  ·simp
  ·simp
  ·simp [blks]
 unfold y9_ at same'
 by_cases hk:xv_ x=true
 ·rw [if_pos hk] at same'
  unfold um_ at same'
  by_cases hc:(wl_ x (xE_ x (byR x.store x.id (ownL x)))).all (fun r=>decide (r.seq≤100000))=true∧(zB_ same x.store (wl_ x (xE_ x (byR x.store x.id (ownL x))))).length≤150
  ·obtain ⟨hN,hid,hbt,hev,hpr,hst⟩:=wd_ hk
   obtain ⟨n1,hl1,ht,hA,hT⟩:=ur_ hN
   have e:y9_ x=({ x with store:=zB_ same x.store (wl_ x (xE_ x (byR x.store x.id (ownL x)))) },wl_ x (xE_ x (byR x.store x.id (ownL x)))):=by
    unfold y9_ um_
    rw [if_pos hk,if_pos hc]
   have hf:=aN0_ hk _ hc.1
   have hpl:=asn_ hA hpr
   have hh:x.heard.length≤1048576:=by omega
   have hfl:=(apa_ (akv_ (x:=x) (byR x.store x.id (ownL x)) ht hh) (by unfold zk_ at hst;simp only [Bool.and_eq_true,decide_eq_true_eq] at hst;exact hst.1)).len
   generalize wl_ x (xE_ x (byR x.store x.id (ownL x)))=l at e hf hfl hc
   have hP:∀ r∈zB_ same x.store l,zV_ r=true:=by
    have:∀ (l s:List Rcd),(∀ r∈s,zV_ r=true)→(∀ r∈l,zV_ r=true)→∀ r∈zB_ same s l,zV_ r=true:=by
     intro l
     induction l with
     | nil=>intro s h1 _;exact h1
     | cons a l ih =>
      intro s h1 h2
      refine ih (putR s (same a)) (fun r hr=>?_) fun r hr=>h2 r (.tail _ hr)
      rcases uD_ hr with e | hr
      ·rw [e];exact h2 a (.head _)
      ·exact h1 r hr
    exact this _ _ (fun r hr=>wq_ hst hr) hf
   have hb1:=av7_ (l:=zB_ same x.store l) fun r hr=>(ag1_ (hP r hr)).2
   have hb2:=av7_ (l:=l) fun r hr=>(ag1_ (hf r hr)).2
   have s1:∀ m:List Link,blks kA_ m=m.length:=by
    intro m;induction m with
    | nil=>rfl
    | cons a m ih=>simp only [blks,ih,kA_,List.length_cons];omega
   have s2:∀ m:List Thing,blks ju_ m=m.length:=by
    intro m;induction m with
    | nil=>rfl
    | cons a m ih=>simp only [blks,ih,ju_,List.length_cons];omega
   have s3:∀ m:List Int,blks acp_ m=m.length:=by
    intro m;induction m with
    | nil=>rfl
    | cons a m ih=>simp only [blks,ih,acp_,List.length_cons];omega
   constructor
   all_goals rw [e]
   ·exact fun r hr=>(ag1_ (hP r hr)).1
   ·show (zB_ same x.store l).length≤_;omega
   ·unfold q3_
    show blks kA_ x.net.links+blks ju_ x.net.things+blks acp_ x.heard+blks uc_ (zB_ same x.store l)≤_
    rw [s1,s2,s3];omega
   ·exact fun r hr=>(ag1_ (hf r hr)).1
   ·exact hfl
   ·show blks uc_ l≤_;omega
  ·exact same' (by rw [if_neg hc])
 ·exact same' (by rw [if_neg hk])
end Go.Proofs.YtiebbbmibbkpcaaGreatC

/- What renewing hands back is right; new nodes, by both programs. Conditions: none. -/
import Derived.Test.YtiebbbmibbkpcaaGreatXSZd
namespace Go.Proofs.YtiebbbmibbkpcaaGreatC
open Int (reduceLE reduceLT reduceEq reduceGT reduceGE reduceAdd reduceSub reduceMul reduceNeg)
set_option linter.unusedVariables false
set_option linter.unusedSimpArgs false
theorem acu_ {r:Rcd} (h:zR_ r=true):alo_ r∧r.near.length≤6:=by
 have h1:=ag5_ h
 have h2:=aDt_ h
 have h6:=auk_ h
 have hn:∀ y∈r.near,axt_ y:=by
  intro y hy
  unfold zR_ at h
  simp only [Bool.and_eq_true] at h
  have h:=h.2
  split at h
  ·simp only [Bool.and_eq_true] at h
   have:=qY_ h.1.1.2 hy
   exact ⟨I64.mk (by omega) (by omega),I64.mk (by omega) (by omega)⟩
  ·have:r.near.length=0:=by
    split at h
    ·simp only [Bool.and_eq_true,decide_eq_true_eq] at h;omega
    ·split at h
     ·simp only [Bool.and_eq_true,decide_eq_true_eq] at h;omega
     ·cases h
   rw [List.eq_nil_of_length_eq_zero this] at hy;cases hy
 have hb:(-10≤r.area∧r.area≤10)∧(-10≤r.key∧r.key≤10)∧(-10≤r.cost∧r.cost≤60000):=by
  unfold zR_ at h
  simp only [Bool.and_eq_true] at h
  have h:=h.2
  split at h
  ·simp only [Bool.and_eq_true,inB_iff,decide_eq_true_eq] at h;omega
  ·split at h
   ·simp only [Bool.and_eq_true,inB_iff,decide_eq_true_eq] at h;omega
   ·split at h
    ·simp only [Bool.and_eq_true,Bool.or_eq_true,inB_iff,decide_eq_true_eq] at h;omega
    ·cases h
 exact ⟨⟨I64.mk (by omega) (by omega),I64.mk (by omega) (by omega),I64.mk (by omega) (by omega),I64.mk (by omega) (by omega),I64.mk (by omega) (by omega),⟨by unfold maxLen;omega,hn⟩,I64.mk (by omega) (by omega)⟩,h6⟩
theorem ang_ {l:List Rcd} (h:∀ r∈l,r.near.length≤6):blks w3_ l≤7 * l.length:=by
 induction l with
 | nil=>simp [blks]
 | cons r l ih =>
  have h1:=h r (.head _)
  have h2:=ih fun y hy=>h y (.tail _ hy)
  have h3:∀ m:List Near,blks afm_ m=m.length:=by
   intro m;induction m with
   | nil=>rfl
   | cons a m ih=>simp only [blks,ih,afm_,List.length_cons];omega
  simp only [blks,w3_,h3,List.length_cons]
  omega
theorem aJb_ {r:Rcd} (h:zR_ (seq1 r)=true) {q:Int} (hq:1≤q∧q≤100000):zR_ { r with seq:=q }=true:=by
 unfold zR_ at h ⊢
 simp only [seq1,Bool.and_eq_true,inB_iff] at h ⊢
 exact ⟨⟨h.1.1,hq⟩,h.2⟩
theorem aPe_ {r:Rcd} (h:zR_ r=true):zR_ (seq1 (zI_ r))=true:=by
 have hk:=ag5_ h
 unfold zR_ at h ⊢
 unfold zI_
 simp only [Bool.and_eq_true,inB_iff] at h
 by_cases h1:r.kind=1
 ·have h2:=h.2
  rw [if_pos h1] at h2
  simp only [Bool.and_eq_true,inB_iff,decide_eq_true_eq,Bool.not_eq_true'] at h2
  rw [if_pos h1]
  simp only [seq1,h1,if_true,Bool.and_eq_true,inB_iff,decide_eq_true_eq,Bool.not_eq_true']
  exact ⟨⟨h.1.1,by omega⟩,⟨⟨⟨h2.1.1.1.1,h2.1.1.1.2⟩,by simp [vt_,allB]⟩,h2.1.2⟩,h2.2⟩
 ·have h2:=h.2
  rw [if_neg h1] at h2
  rw [if_neg h1]
  simp only [seq1,h1,if_false,Bool.and_eq_true,inB_iff]
  refine ⟨⟨h.1.1,by omega⟩,?_⟩
  by_cases h3:r.kind=2
  ·rw [if_pos h3] at h2 ⊢
   simp only [Bool.and_eq_true,inB_iff,decide_eq_true_eq,Bool.not_eq_true'] at h2 ⊢
   exact ⟨⟨⟨⟨h2.1.1.1.1,h2.1.1.1.2⟩,rfl⟩,by omega⟩,h2.2⟩
  ·rw [if_neg h3] at h2 ⊢
   by_cases h4:r.kind=3
   ·rw [if_pos h4] at h2 ⊢
    simp only [Bool.and_eq_true,Bool.or_eq_true,inB_iff,decide_eq_true_eq] at h2
    have q1:=h2.1.1.1
    have q2:=h2.1.1.2
    simp [q1,q2,inB_iff]
   ·rw [if_neg h4] at h2;cases h2
theorem aQe_ {x:Self} (h:xd_ x=true) (S:List Rcd):∀ w∈xC_ x S,zR_ (seq1 w)=true:=by
 obtain ⟨hN,hid,hbt,hev,hpr,hst⟩:=xf_ h
 obtain ⟨n1,hl,ht,hA,hT⟩:=wS_ hN
 have hmem:∀ (l s:List Rcd),(∀ r∈s,zR_ (seq1 r)=true)→(∀ r∈l,zR_ (seq1 r)=true)→∀ r∈zv_ same s l,zR_ (seq1 r)=true:=by
  intro l
  induction l with
  | nil=>intro s h1 _;exact h1
  | cons a l ih =>
   intro s h1 h2
   refine ih (putR s (same a)) (fun r hr=>?_) fun r hr=>h2 r (.tail _ hr)
   rcases v1_ hr with e | hr
   ·rw [e];exact h2 a (.head _)
   ·exact h1 r hr
 refine hmem _ _ (by simp) fun r hr=>?_
 rcases List.mem_append.1 hr with hr | hr
 ·rcases List.mem_append.1 hr with hr | hr
  ·rw [← (af4_ hr).1];exact asy_ h hr
  ·unfold beyL at hr
   split at hr
   ·obtain ⟨a,ha,hr⟩:=List.mem_flatMap.1 hr
    exact (aGw_ (by omega) (amu_ ha) hr).1
   ·cases hr
 ·obtain ⟨t,ht',rfl⟩:=List.mem_map.1 hr
  have h3:=aNz_ hT (List.mem_filter.1 ht').1
  unfold zR_
  simp only [seq1,xs_,Bool.and_eq_true,inB_iff]
  refine ⟨⟨by omega,by omega⟩,?_⟩
  simp [inB_iff,h3]
theorem avo_ {x:Self} (h:xd_ x=true) (S:List Rcd) (hq:(wa_ x (xC_ x S)).all (fun r=>decide (r.seq≤100000))=true):∀ r∈wa_ x (xC_ x S),zR_ r=true:=by
 obtain ⟨hN,hid,hbt,hev,hpr,hst⟩:=xf_ h
 have hw:=aQe_ h S
 have key:∀ r∈wa_ x (xC_ x S),∃ b q,zR_ (seq1 b)=true∧r={ b with seq:=q }:=by
  have h1:∀ (l c:List Rcd),(∀ w∈l,zR_ (seq1 w)=true)→(∀ y∈c,∃ b q,zR_ (seq1 b)=true∧y={ b with seq:=q })→∀ y∈l.foldl (wz_ x) c,∃ b q,zR_ (seq1 b)=true∧y={ b with seq:=q }:=by
   intro l
   induction l with
   | nil=>intro c _ h;exact h
   | cons a l ih =>
    intro c hl hc
    rw [List.foldl_cons]
    refine ih _ (fun w hw=>hl w (.tail _ hw)) fun y hy=>?_
    unfold wz_ at hy
    split at hy
    ·rcases v1_ hy with rfl | hy
     ·exact ⟨a,_,hl a (.head _),rfl⟩
     ·exact hc y hy
    ·exact hc y hy
  have h2:∀ (l c:List Rcd),(∀ w∈l,zR_ w=true)→(∀ y∈c,∃ b q,zR_ (seq1 b)=true∧y={ b with seq:=q })→∀ y∈l.foldl (wy_ x (xC_ x S)) c,∃ b q,zR_ (seq1 b)=true∧y={ b with seq:=q }:=by
   intro l
   induction l with
   | nil=>intro c _ h;exact h
   | cons a l ih =>
    intro c hl hc
    rw [List.foldl_cons]
    refine ih _ (fun w hw=>hl w (.tail _ hw)) fun y hy=>?_
    unfold wy_ at hy
    split at hy
    ·rcases v1_ hy with rfl | hy
     ·exact ⟨zI_ a,_,aPe_ (hl a (.head _)),rfl⟩
     ·exact hc y hy
    ·exact hc y hy
  exact h2 _ _ (fun w hw=>wv_ hst hw) (h1 _ _ hw (by simp))
 intro r hr
 have hs:=aHf_ hst hbt (xC_ x S) r hr
 have hs2:=List.all_eq_true.1 hq r hr
 rw [decide_eq_true_eq] at hs2
 obtain ⟨b,q,hb,rfl⟩:=key r hr
 exact aJb_ hb ⟨hs,hs2⟩
structure Rok (x:Self):Prop where
 id:(yM_ x).1.id=x.id
 boot:(yM_ x).1.boot=x.boot
 net:(yM_ x).1.net=x.net
 heard:(yM_ x).1.heard=x.heard
 ok:∀ r∈(yM_ x).1.store,alo_ r
 len:(yM_ x).1.store.length≤1048576
 blk:af3_ (yM_ x).1≤1048576
 ok2:∀ r∈(yM_ x).2,alo_ r
 len2:(yM_ x).2.length≤175
 blk2:blks w3_ (yM_ x).2≤1225
theorem aKp_ {x:Self} (hb:af3_ x≤1048576) (ho:∀ r∈x.store,alo_ r):Rok x:=by
 have hl:x.store.length≤1048576:=by
  have h1:=anq_ (f:=w3_) x.store
  unfold af3_ at hb;omega
 have same':yM_ x=(x,[])→Rok x:=fun e=>by
  constructor
  all_goals rw [e]
  ·exact ho
  ·exact hl
  ·exact hb
  ·simp
  ·simp
  ·simp [blks]
 unfold yM_ at same'
 by_cases hk:xd_ x=true
 ·rw [if_pos hk] at same'
  unfold vL_ at same'
  by_cases hc:(wa_ x (xC_ x (byR x.store x.id (ownL x)))).all (fun r=>decide (r.seq≤100000))=true∧(zv_ same x.store (wa_ x (xC_ x (byR x.store x.id (ownL x))))).length≤150
  ·obtain ⟨hN,hid,hbt,hev,hpr,hst⟩:=xf_ hk
   obtain ⟨n1,hl1,ht,hA,hT⟩:=wS_ hN
   have e:yM_ x=({ x with store:=zv_ same x.store (wa_ x (xC_ x (byR x.store x.id (ownL x)))) },wa_ x (xC_ x (byR x.store x.id (ownL x)))):=by
    unfold yM_ vL_
    rw [if_pos hk,if_pos hc]
   have hf:=avo_ hk _ hc.1
   have hpl:=asd_ hA hpr
   have hh:x.heard.length≤1048576:=by omega
   have hfl:=(apu_ (ajt_ (x:=x) (byR x.store x.id (ownL x)) ht hh) (by unfold zk_ at hst;simp only [Bool.and_eq_true,decide_eq_true_eq] at hst;exact hst.1)).len
   generalize wa_ x (xC_ x (byR x.store x.id (ownL x)))=l at e hf hfl hc
   have hP:∀ r∈zv_ same x.store l,zR_ r=true:=by
    have:∀ (l s:List Rcd),(∀ r∈s,zR_ r=true)→(∀ r∈l,zR_ r=true)→∀ r∈zv_ same s l,zR_ r=true:=by
     intro l
     induction l with
     | nil=>intro s h1 _;exact h1
     | cons a l ih =>
      intro s h1 h2
      refine ih (putR s (same a)) (fun r hr=>?_) fun r hr=>h2 r (.tail _ hr)
      rcases v1_ hr with e | hr
      ·rw [e];exact h2 a (.head _)
      ·exact h1 r hr
    exact this _ _ (fun r hr=>wv_ hst hr) hf
   have hb1:=ang_ (l:=zv_ same x.store l) fun r hr=>(acu_ (hP r hr)).2
   have hb2:=ang_ (l:=l) fun r hr=>(acu_ (hf r hr)).2
   have s1:∀ m:List Link,blks vl_ m=m.length:=by
    intro m;induction m with
    | nil=>rfl
    | cons a m ih=>simp only [blks,ih,vl_,List.length_cons];omega
   have s2:∀ m:List Thing,blks wG_ m=m.length:=by
    intro m;induction m with
    | nil=>rfl
    | cons a m ih=>simp only [blks,ih,wG_,List.length_cons];omega
   have s3:∀ m:List Int,blks jn_ m=m.length:=by
    intro m;induction m with
    | nil=>rfl
    | cons a m ih=>simp only [blks,ih,jn_,List.length_cons];omega
   constructor
   all_goals rw [e]
   ·exact fun r hr=>(acu_ (hP r hr)).1
   ·show (zv_ same x.store l).length≤_;omega
   ·unfold af3_
    show blks vl_ x.net.links+blks wG_ x.net.things+blks jn_ x.heard+blks w3_ (zv_ same x.store l)≤_
    rw [s1,s2,s3];omega
   ·exact fun r hr=>(acu_ (hf r hr)).1
   ·exact hfl
   ·show blks w3_ l≤_;omega
  ·exact same' (by rw [if_neg hc])
 ·exact same' (by rw [if_neg hk])
def xO_ (x:Net) (id boot:Int):Self:=⟨id,boot,x,[],[]⟩
def ud_:Node:=⟨⟨0,0,⟨0,[],[]⟩,[],[]⟩,[]⟩
def wk_ (x:Net) (id boot:Int):Node × Bool:=if xd_ (xO_ x id boot)=true then (⟨(yM_ (xO_ x id boot)).1,x9_ x.links id x.n⟩,true) else (ud_,false)
theorem azh_ (x:Net) (id boot:Int) (h1:x.links.length≤1048576) (h2:x.things.length≤1048576) :
  jh_ [ii x.n,.l (x.links.map zn_),.l (x.things.map zl_),ii id,ii boot]=some (yz_ (wk_ x id boot).1++[bb (wk_ x id boot).2]):=by
 have hN:wu_ [ii x.n,.l (x.links.map zn_),.l (x.things.map zl_)]=some [ii x.n,.l (x.links.map zn_),.l (x.things.map zl_)]:=by
  rw [amn_];simp (disch:=omega) only [↓pq,ps,pz,↓reduceIte,reduceLE,reduceLT,reduceEq,reduceGT,reduceGE,reduceAdd,reduceSub,reduceMul,reduceNeg,k6_]
 have hS:=abj_ id boot x.n x.links x.things [] [] h1 h2 (by simp) (by simp) (by intro r hr;cases hr)
 rw [show (⟨id,boot,⟨x.n,x.links,x.things⟩,[],[]⟩:Self)=xO_ x id boot from rfl] at hS
 have hR:=aLw_ (xO_ x id boot) h1 h2 (by simp [xO_]) (by simp [xO_]) (by intro r hr;cases hr)
 simp only [xO_,List.map_nil] at hS hR
 rw [show (⟨id,boot,x,[],[]⟩:Self)=xO_ x id boot from rfl] at hS hR
 cases hk:xd_ (xO_ x id boot) with
 | false =>
  rw [hk] at hS
  rw [show wk_ x id boot=(ud_,false) from by unfold wk_;rw [if_neg (by rw [hk];decide)]]
  rw [amp_];simp (disch:=omega) only [↓pq,ps,pz,↓reduceIte,reduceLE,reduceLT,reduceEq,reduceGT,reduceGE,reduceAdd,reduceSub,reduceMul,reduceNeg,k1_,hN,hS,Bool.false_eq_true]
  rfl
 | true =>
  rw [hk] at hS
  have hn:x.n≤6:=(wS_ (xf_ hk).1).1.2
  rw [show wk_ x id boot=(⟨(yM_ (xO_ x id boot)).1,x9_ x.links id x.n⟩,true) from by unfold wk_;rw [if_pos hk]]
  simp only [z8_,List.cons_append,List.nil_append] at hR
  rw [amp_];simp (disch:=omega) only [↓pq,ps,pz,↓reduceIte,reduceLE,reduceLT,reduceEq,reduceGT,reduceGE,reduceAdd,reduceSub,reduceMul,reduceNeg,k1_,hN,hS,hR,aqj_ x.n x.links _ id hn h1]
  rfl
theorem aAr_ (x:Net) (id boot:Int) (h1:x.links.length≤1048576) (h2:x.things.length≤1048576) :
  jr_ [ii x.n,.l (x.links.map zn_),.l (x.things.map zl_),ii id,ii boot]=some (yz_ (wk_ x id boot).1++[bb (wk_ x id boot).2]):=by
 have hS:=aa8_ id boot x.n x.links x.things [] [] h1 h2 (by simp) (by simp) (by intro r hr;cases hr)
 rw [show (⟨id,boot,⟨x.n,x.links,x.things⟩,[],[]⟩:Self)=xO_ x id boot from rfl] at hS
 have hR:=aJv_ (xO_ x id boot) h1 h2 (by simp [xO_]) (by simp [xO_]) (by intro r hr;cases hr)
 simp only [xO_,List.map_nil] at hS hR
 rw [show (⟨id,boot,x,[],[]⟩:Self)=xO_ x id boot from rfl] at hS hR
 cases hk:xd_ (xO_ x id boot) with
 | false =>
  rw [hk] at hS
  rw [show wk_ x id boot=(ud_,false) from by unfold wk_;rw [if_neg (by rw [hk];decide)]]
  rw [amo_];simp (disch:=omega) only [↓pq,ps,pz,↓reduceIte,reduceLE,reduceLT,reduceEq,reduceGT,reduceGE,reduceAdd,reduceSub,reduceMul,reduceNeg,wm_,wj_,k8_,hS,Bool.false_eq_true]
  rfl
 | true =>
  rw [hk] at hS
  obtain ⟨hn,hl,ht,hA,hT⟩:=wS_ (show vV_ x=true from (xf_ hk).1)
  rw [show wk_ x id boot=(⟨(yM_ (xO_ x id boot)).1,x9_ x.links id x.n⟩,true) from by unfold wk_;rw [if_pos hk]]
  simp only [z8_,List.cons_append,List.nil_append] at hR
  rw [amo_];simp (disch:=omega) only [↓pq,ps,pz,↓reduceIte,reduceLE,reduceLT,reduceEq,reduceGT,reduceGE,reduceAdd,reduceSub,reduceMul,reduceNeg,wm_,wj_,k8_,hS]
  have hn':x.n≤6:=hn.2
  refine yy_ x.n.toNat (fun i c=>[ii (i+1),.l (c.map eEar)]) (uo_ x.links id) (fun c=>some (yz_ ⟨(yM_ (xO_ x id boot)).1,c⟩++[bb true])) [] (fun i c=>c.length≤3 * i) rfl (zb_ (by omega)) (by simp) ?_ ?_
  ·intro i c hi hc
   have hl2:=aa0_ x.links id c i
   refine ⟨by omega,fun s=>?_⟩
   have hi':(i:Int)+1≤x.n:=by omega
   simp (disch:=omega) only [↓pq,ps,pz,↓reduceIte,reduceLE,reduceLT,reduceEq,reduceGT,reduceGE,reduceAdd,reduceSub,reduceMul,reduceNeg,wm_,wj_,hi']
   refine yy_ 3 (fun a c=>[ii a,.l (c.map eEar)]) (xb_ x.links id i) (fun c=>s [ii ((i+1:Nat)+1),T.l (c.map eEar)]) c (fun a c=>c.length≤3 * i+a) rfl (by unfold rounds;omega) (by omega) ?_ ?_
   ·intro a c ha hc
    have hl3:=u2_ x.links id i c a
    refine ⟨by omega,fun s=>?_⟩
    have ha':(a:Int)≤2:=by omega
    have hz:=k4_ hA id ((i:Int)+1) (a:Int)
    have hp:yY_ x.links id ((i:Int)+1) (a:Int) > 0↔0≤zu_ (yk_ id ((i:Int)+1) (a:Int)) x.links:=by
     constructor
     ·intro hc'
      rcases Int.lt_or_le (zu_ (yk_ id ((i:Int)+1) (a:Int)) x.links) 0 with h | h
      ·have:=hz.2 h;omega
      ·exact h
     ·intro h0
      have h3:=j4_ hA (zX_ (l:=x.links) h0 (x7_ _ _))
      unfold yY_
      rw [if_neg (by omega)];omega
    unfold xb_
    by_cases h0:0≤zu_ (yk_ id ((i:Int)+1) (a:Int)) x.links
    ·rw [if_pos h0]
     have h4:=hp.2 h0
     simp (disch:=omega) only [↓pq,ps,pz,↓reduceIte,reduceLE,reduceLT,reduceEq,reduceGT,reduceGE,reduceAdd,reduceSub,reduceMul,reduceNeg,wm_,wj_,ha',uy_ _ _ _ _ _ _ h1,h4]
    ·rw [if_neg h0]
     have h4:¬ yY_ x.links id ((i:Int)+1) (a:Int) > 0:=fun hc'=>h0 (hp.1 hc')
     simp (disch:=omega) only [↓pq,ps,pz,↓reduceIte,reduceLE,reduceLT,reduceEq,reduceGT,reduceGE,reduceAdd,reduceSub,reduceMul,reduceNeg,wm_,wj_,ha',uy_ _ _ _ _ _ _ h1,h4]
   ·intro c s' hc
    simp (disch:=omega) only [↓pq,ps,pz,↓reduceIte,reduceLE,reduceLT,reduceEq,reduceGT,reduceGE,reduceAdd,reduceSub,reduceMul,reduceNeg,wm_,wj_,]
  ·intro c s hc
   have hi':¬ ((x.n.toNat:Int)+1≤x.n):=by omega
   simp (disch:=omega) only [↓pq,ps,pz,↓reduceIte,reduceLE,reduceLT,reduceEq,reduceGT,reduceGE,reduceAdd,reduceSub,reduceMul,reduceNeg,wm_,wj_,hi',hR]
   rfl
end Go.Proofs.YtiebbbmibbkpcaaGreatC

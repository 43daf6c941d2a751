/- What a node has to tell: what it is. Conditions: none. -/
import Derived.Test.YtjimmglpkndemaaGreatXSU
namespace Go.Proofs.YtjimmglpkndemaaGreatC
set_option linter.unusedVariables false
set_option linter.unusedSimpArgs false
theorem axc_ {s s':List Rcd} {ar:Int} (h:∀ u v,zk_ s ar u v=zk_ s' ar u v) (fr a:Int):y5_ s ar fr a=y5_ s' ar fr a:=by
 funext W i
 unfold y5_
 rw [h]
theorem aqo_ {s s':List Rcd} {ar:Int} (h:∀ u v,zk_ s ar u v=zk_ s' ar u v) (fr:Int):∀ k W D,dij s ar fr k W D=dij s' ar fr k W D
 | 0,_,_=>rfl
 | k+1,W,D=>by
  unfold dij
  have e:spr s ar fr (best W D) W=spr s' ar fr (best W D) W:=by unfold spr;rw [axc_ h]
  rw [e,aqo_ h fr k]
theorem aih_ {s s':List Rcd} {ar fr:Int} (h:∀ u v,zk_ s ar u v=zk_ s' ar u v) (hs:ze_ s=ze_ s') (hn:0≤zT_ s ar fr↔0≤zT_ s' ar fr):waysIn s ar fr=waysIn s' ar fr:=by
 unfold waysIn
 rw [hs,aqo_ h]
 by_cases h0:0≤zT_ s ar fr
 ·have:=hn.1 h0
  simp [h0,this]
 ·have:¬ 0≤zT_ s' ar fr:=fun hc=>h0 (hn.2 hc)
  simp [h0,this]
theorem arg_ {s:List Rcd} (hs:zG_ s) {r:Rcd} (hr:r∈s) {ar v:Int} (h:zb_ r ⟨ar,1,v,0,0,[],0,false⟩=true):0≤zT_ s ar v∧gt s (zT_ s ar v)=r:=by
 have h0:0≤zT_ s ar v:=jP_ hr h
 refine ⟨h0,?_⟩
 have h1:=uG_ s ar v
 have h2:zb_ (gt s (zT_ s ar v)) ⟨ar,1,v,0,0,[],0,false⟩=true:=yE_ _ _ h0
 have hm:=zS_ (l:=s) (n:=zT_ s ar v) h0 h1
 generalize gt s (zT_ s ar v)=x at h2 hm
 rw [sameKey_iff] at h h2
 obtain ⟨i,hi,rfl⟩:=List.mem_iff_getElem.1 hr
 obtain ⟨j,hj,rfl⟩:=List.mem_iff_getElem.1 hm
 rcases Nat.lt_trichotomy i j with hij | hij | hij
 ·have:=List.pairwise_iff_getElem.1 hs i j hi hj hij
  rw [yp_] at this
  simp only at h h2
  omega
 ·subst hij;rfl
 ·have:=List.pairwise_iff_getElem.1 hs j i hj hi hij
  rw [yp_] at this
  simp only at h h2
  omega
structure Cut (A:List Int) (s s':List Rcd):Prop where
 so:zG_ s
 sub:∀ r∈s',r∈s
 so':zG_ s'
 keep:∀ r∈s,r ∉ s'→r.kind=1∧A.contains r.area=false
theorem Cut.node {A:List Int} {s s':List Rcd} (h:Cut A s s') {ar:Int} (ha:A.contains ar=true) (v:Int):(0≤zT_ s ar v↔0≤zT_ s' ar v)∧xW_ s ar v=xW_ s' ar v:=by
 by_cases h0:0≤zT_ s' ar v
 ·have hm:=zS_ (l:=s') (n:=zT_ s' ar v) h0 (uG_ s' ar v)
  obtain ⟨h1,h2⟩:=arg_ h.so (h.sub _ hm) (yE_ _ _ h0)
  refine ⟨⟨fun _=>h0,fun _=>h1⟩,?_⟩
  unfold xW_
  rw [if_neg (by omega),if_neg (by omega),h2]
 ·have h1:¬ 0≤zT_ s ar v:=by
   intro hc
   have hm:=zS_ (l:=s) (n:=zT_ s ar v) hc (uG_ s ar v)
   have hk:zb_ (gt s (zT_ s ar v)) ⟨ar,1,v,0,0,[],0,false⟩=true:=yE_ _ _ hc
   by_cases hin:gt s (zT_ s ar v)∈s'
   ·exact h0 (jP_ hin hk)
   ·have:=(h.keep _ hm hin).2
    rw [sameKey_iff] at hk
    simp only at hk
    rw [hk.1,ha] at this
    cases this
  refine ⟨⟨fun hc=>absurd hc h1,fun hc=>absurd hc h0⟩,?_⟩
  unfold xW_
  rw [if_pos (by omega),if_pos (by omega)]
theorem Cut.waysIn {A:List Int} {s s':List Rcd} (h:Cut A s s') (hs:ze_ s=ze_ s') {ar:Int} (ha:A.contains ar=true) (fr:Int):Go.Proofs.YtjimmglpkndemaaGreatC.waysIn s ar fr=Go.Proofs.YtjimmglpkndemaaGreatC.waysIn s' ar fr:=by
 refine aih_ (fun u v=>?_) hs (h.node ha fr).1
 unfold zk_ wJ_
 rw [(h.node ha u).2,(h.node ha v).2]
theorem jl_ {α β:Type} {l:List α} {f g:α→List β} (h:∀ a∈l,f a=g a):l.flatMap f=l.flatMap g:=by
 induction l with
 | nil=>rfl
 | cons x l ih=>rw [List.flatMap_cons,List.flatMap_cons,h x (.head _),ih fun a ha=>h a (.tail _ ha)]
theorem apc_ {α β:Type} {l:List α} {f g:α→Option β} (h:∀ a∈l,f a=g a):l.filterMap f=l.filterMap g:=by
 induction l with
 | nil=>rfl
 | cons x l ih=>rw [List.filterMap_cons,List.filterMap_cons,h x (.head _),ih fun a ha=>h a (.tail _ ha)]
theorem Cut.within {A:List Int} {s s':List Rcd} (h:Cut A s s') (hs:ze_ s=ze_ s') {B:List Int} (hB:∀ a∈B,A.contains a=true) (fr:Int):Go.Proofs.YtjimmglpkndemaaGreatC.within s B fr=Go.Proofs.YtjimmglpkndemaaGreatC.within s' B fr:=by
 unfold Go.Proofs.YtjimmglpkndemaaGreatC.within cand
 rw [jl_ fun a ha=>h.waysIn hs (hB a ha) fr]
theorem ah7_ {s s':List Rcd} (h:zG_ s) (h':zG_ s') (hsub:∀ r∈s',r∈s):s'=s.filter fun r=>@decide (r∈s') (Classical.propDecidable _):=by
 have key:∀ {a b:List Rcd},zG_ a→zG_ b→(∀ x,x∈a↔x∈b)→a=b:=by
  intro a
  induction a with
  | nil =>
   intro b _ _ hm
   cases b with
   | nil=>rfl
   | cons y b=>exact absurd ((hm y).2 (.head _)) (by simp)
  | cons x a ih =>
   intro b ha hb hm
   cases b with
   | nil=>exact absurd ((hm x).1 (.head _)) (by simp)
   | cons y b =>
    have pa:=List.pairwise_cons.1 ha
    have pb:=List.pairwise_cons.1 hb
    have e:x=y:=by
     rcases List.mem_cons.1 ((hm x).1 (.head _)) with e | hx
     ·exact e
     ·rcases List.mem_cons.1 ((hm y).2 (.head _)) with e | hy
      ·exact e.symm
      ·have h1:=pb.1 x hx
       have h2:=pa.1 y hy
       rw [k1_ h1] at h2;cases h2
    subst e
    congr 1
    refine ih pa.2 pb.2 fun z=>⟨fun hz=>?_,fun hz=>?_⟩
    ·rcases List.mem_cons.1 ((hm z).1 (.tail _ hz)) with e | hz'
     ·have:=pa.1 z hz
      rw [e,adg_] at this;cases this
     ·exact hz'
    ·rcases List.mem_cons.1 ((hm z).2 (.tail _ hz)) with e | hz'
     ·have:=pb.1 z hz
      rw [e,adg_] at this;cases this
     ·exact hz'
 refine key h' (h.filter _) fun r=>?_
 rw [List.mem_filter,@decide_eq_true_eq _ (Classical.propDecidable _)]
 exact ⟨fun hr=>⟨hsub r hr,hr⟩,fun hr=>hr.2⟩
theorem Cut.beyond {A:List Int} {s s':List Rcd} (h:Cut A s s') (hs:ze_ s=ze_ s') (z:Bool) (fr:Int):Go.Proofs.YtjimmglpkndemaaGreatC.beyond s A z fr=Go.Proofs.YtjimmglpkndemaaGreatC.beyond s' A z fr:=by
 have hw:=h.within hs (B:=A) (fun a ha=>List.contains_iff_mem.2 ha) fr
 have e1:∀ x,recB s A z fr x=recB s' A z fr x:=by
  intro x
  unfold recB
  rw [hw]
  by_cases hc:x.kind=2∧x.cost < 60000∧x.owner≠fr∧A.contains x.area=true∧(z=true→x.area=0)∧wayP (Go.Proofs.YtjimmglpkndemaaGreatC.within s' A fr) x.key < 0
  ·rw [if_pos hc,if_pos hc,h.waysIn hs hc.2.2.2.1]
  ·rw [if_neg hc,if_neg hc]
 unfold Go.Proofs.YtjimmglpkndemaaGreatC.beyond uq_
 rw [show recB s A z fr=recB s' A z fr from funext e1]
 congr 1
 rw [ah7_ h.so h.so' h.sub,List.filterMap_filter]
 refine apc_ fun x hx=>?_
 by_cases hin:x∈s'
 ·rw [if_pos (by rw [@decide_eq_true_eq _ (Classical.propDecidable _)];exact hin)]
 ·rw [if_neg (by rw [@decide_eq_true_eq _ (Classical.propDecidable _)];exact hin)]
  unfold recB
  rw [if_neg fun hc=>by have:=(h.keep x hx hin).1;omega]
theorem Cut.beyondR {A:List Int} {s s':List Rcd} (h:Cut A s s') (hs:ze_ s=ze_ s') {area:Int} (ha:A.contains area=true) (fr:Int):Go.Proofs.YtjimmglpkndemaaGreatC.beyondR s A fr area=Go.Proofs.YtjimmglpkndemaaGreatC.beyondR s' A fr area:=by
 unfold Go.Proofs.YtjimmglpkndemaaGreatC.beyondR an9_
 rw [h.waysIn hs ha,h.beyond hs,h.within (B:=axe_ A area) hs fun a ha=>List.contains_iff_mem.2 (List.mem_filter.1 ha).1]
end Go.Proofs.YtjimmglpkndemaaGreatC

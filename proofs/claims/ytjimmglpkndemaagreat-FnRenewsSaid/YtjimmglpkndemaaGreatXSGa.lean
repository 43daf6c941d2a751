/- Renewed again nothing is new. Conditions: none. -/
import Derived.Test.YtjimmglpkndemaaGreatXSDj
namespace Go.Proofs.YtjimmglpkndemaaGreatC
set_option linter.unusedVariables false
set_option linter.unusedSimpArgs false
theorem ax0_ (l:List Near):qm_ l l=true:=by
 unfold qm_
 rw [bA_,allB_iff]
 exact ⟨by simp,fun i hi=>by simp⟩
theorem aql_ {a b:Rcd} (h:zb_ a b=true) (h1:a.cost=b.cost) (h2:a.far=b.far) (h3:a.near=b.near):xD_ a b=true:=by
 unfold xD_
 rw [h,h1,h2,h3,ax0_]
 simp
theorem ar0_ (r:Rcd):zb_ (zF_ r) r=true:=by
 unfold zF_
 split <;> (rw [sameKey_iff];exact ⟨rfl,rfl,rfl,rfl⟩)
theorem uP_ (x:Self) (r:Rcd):zb_ (k8_ x r) r=true:=ar0_ r
theorem vv_ (x:Self) (r:Rcd):zb_ (jE_ x r) r=true:=by rw [sameKey_iff];exact ⟨rfl,rfl,rfl,rfl⟩
theorem aCc_ (r:Rcd) (q:Int):xD_ (zF_ { zF_ r with seq:=q }) { zF_ r with seq:=q }=true:=by
 refine aql_ (ar0_ _) ?_ ?_ ?_
 all_goals
  unfold zF_
  by_cases h:r.kind=1
  ·simp [h]
  ·simp [h]
theorem afd_ {a b:Rcd} (h:¬ zb_ a b=true):zb_ a b=false:=by
 cases hc:zb_ a b with
 | false=>rfl
 | true=>exact absurd hc h
theorem abl_ {s:List Rcd} (h:zG_ s) {f:Rcd→Rcd} (hf:∀ r,zb_ (f r) r=true):s.Pairwise fun a b=>zb_ (f a) (f b)=false:=by
 refine List.Pairwise.imp (fun {a b} hab=>afd_ fun hc=>?_) h
 have h1:=un_ hab
 rw [yA_ (xs_ (hf a)) (yA_ hc (hf b))] at h1
 cases h1
theorem aHh_ {s:List Rcd} (hs:zG_ s) {a b:Rcd} (ha:a∈s) (hb:b∈s) (h:zb_ a b=true):a=b:=by
 rw [← ait_ hs ha h,ait_ hs hb (wc_ b)]
theorem wo_ {f:Rcd→Rcd}:∀ {l s:List Rcd},zG_ s→zG_ (zq_ f s l)
 | [],_,h=>h
 | a :: l,s,h=>wo_ (l:=l) (vt_ h (f a))
theorem aad_ {f:Rcd→Rcd} {p:Rcd→Bool}:∀ (l c:List Rcd),l.foldl (fun c r=>if p r=true then putR c (f r) else c) c=zq_ f c (l.filter p)
 | [],c=>rfl
 | a :: l,c=>by
  rw [List.foldl_cons,aad_ l,List.filter_cons]
  cases h:p a <;> rfl
theorem uw_ {x:Self} {W:List Rcd} (hW:zG_ W) (hs:zG_ x.store) {r:Rcd}:r∈y7_ x W↔(∃ w∈W,newB x.store w=true∧r=jE_ x w)∨∃ o∈x.store,qi_ x W o=true∧r=k8_ x o:=by
 have e1:W.foldl (xQ_ x) []=zq_ (jE_ x) [] (W.filter (newB x.store)):=aad_ (f:=jE_ x) (p:=newB x.store) W []
 have e2:y7_ x W=zq_ (k8_ x) (W.foldl (xQ_ x) []) (x.store.filter (qi_ x W)):=aad_ (f:=k8_ x) (p:=qi_ x W) x.store _
 rw [e2,vq_ ((abl_ hs (uP_ x)).filter _),e1,vq_ ((abl_ hW (vv_ x)).filter _)]
 constructor
 ·rintro (⟨o,ho,e⟩ | ⟨⟨w,hw,e⟩ | ⟨h,_⟩,_⟩)
  ·obtain ⟨h1,h2⟩:=List.mem_filter.1 ho
   exact .inr ⟨o,h1,h2,e⟩
  ·obtain ⟨h1,h2⟩:=List.mem_filter.1 hw
   exact .inl ⟨w,h1,h2,e⟩
  ·cases h
 ·rintro (⟨w,hw,h,e⟩ | ⟨o,ho,h,e⟩)
  ·refine .inr ⟨.inl ⟨w,List.mem_filter.2 ⟨hw,h⟩,e⟩,fun o ho=>afd_ fun hc=>?_⟩
   obtain ⟨_,h2⟩:=List.mem_filter.1 ho
   unfold qi_ at h2
   simp only [bA_,decide_eq_true_eq] at h2
   have h3:=al3_ h2.2.1 w hw
   rw [yA_ (xs_ (vv_ x w)) (yA_ (e ▸ hc) (uP_ x o))] at h3
   cases h3
  ·exact .inl ⟨o,List.mem_filter.2 ⟨ho,h⟩,e⟩
theorem us_ (x:Self) (W:List Rcd):zG_ (y7_ x W):=by
 have e1:W.foldl (xQ_ x) []=zq_ (jE_ x) [] (W.filter (newB x.store)):=aad_ (f:=jE_ x) (p:=newB x.store) W []
 have e2:y7_ x W=zq_ (k8_ x) (W.foldl (xQ_ x) []) (x.store.filter (qi_ x W)):=aad_ (f:=k8_ x) (p:=qi_ x W) x.store _
 rw [e2,e1]
 exact wo_ (wo_ .nil)
theorem jN_ {s N:List Rcd} (hN:zG_ N) {r:Rcd}:r∈zq_ same s N↔r∈N∨(r∈s∧∀ o∈N,zb_ r o=false):=by
 rw [vq_ (f:=same) (abl_ hN fun r=>wc_ r)]
 constructor
 ·rintro (⟨o,ho,e⟩ | h)
  ·exact .inl (e ▸ ho)
  ·exact .inr h
 ·rintro (h | h)
  ·exact .inl ⟨r,h,rfl⟩
  ·exact .inr h
theorem aoc_ {x:Self} {W:List Rcd} (hW:zG_ W) (hs:zG_ x.store) {w:Rcd} (hw:w∈W):∃ r∈zq_ same x.store (y7_ x W),zb_ r w=true∧xD_ r w=true:=by
 have hN:=us_ x W
 cases hn:newB x.store w with
 | true=>exact ⟨jE_ x w,(jN_ hN).2 (.inl ((uw_ hW hs).2 (.inl ⟨w,hw,hn,rfl⟩))),vv_ x w,aql_ (vv_ x w) rfl rfl rfl⟩
 | false =>
  have hn':=hn
  unfold newB at hn'
  simp only [Bool.or_eq_false_iff,decide_eq_false_iff_not,Bool.not_eq_false'] at hn'
  obtain ⟨h1,h2⟩:=ac2_ (s:=x.store) (r:=w) (by omega)
  refine ⟨gt x.store (keyP x.store w),(jN_ hN).2 (.inr ⟨h1,fun o ho=>afd_ fun hc=>?_⟩),h2,hn'.2⟩
  have how:=yA_ (xs_ hc) h2
  rcases (uw_ hW hs).1 ho with ⟨w',hw',h3,e⟩ | ⟨o',_,h3,e⟩
  ·have:w'=w:=aHh_ hW hw' hw (yA_ (xs_ (vv_ x w')) (e ▸ how))
   rw [this,hn] at h3
   cases h3
  ·unfold qi_ at h3
   simp only [bA_,decide_eq_true_eq] at h3
   have h4:=al3_ h3.2.1 w hw
   rw [yA_ (xs_ (e ▸ how)) (uP_ x o')] at h4
   cases h4
theorem ax8_ {x:Self} {W:List Rcd} (hW:zG_ W) (hs:zG_ x.store):y7_ { x with store:=zq_ same x.store (y7_ x W) } W=[]:=by
 have hN:=us_ x W
 have hY:zG_ (zq_ same x.store (y7_ x W)):=wo_ hs
 refine List.eq_nil_iff_forall_not_mem.2 fun r hr=>?_
 rcases (uw_ (x:={ x with store:=zq_ same x.store (y7_ x W) }) hW hY).1 hr with ⟨w,hw,h,_⟩ | ⟨o,ho,h,_⟩
 ·obtain ⟨z,hz,h1,h2⟩:=aoc_ hW hs hw
  unfold newB at h
  rw [show keyP ({ x with store:=zq_ same x.store (y7_ x W) }:Self).store w=keyP (zq_ same x.store (y7_ x W)) w from rfl] at h
  rw [show ({ x with store:=zq_ same x.store (y7_ x W) }:Self).store=zq_ same x.store (y7_ x W) from rfl,ait_ hY hz h1,h2] at h
  have:=agu_ hz h1
  simp at h
  omega
 ·unfold qi_ at h
  simp only [bA_,decide_eq_true_eq,beq_iff_eq,Bool.not_eq_true'] at h
  obtain ⟨h1,h2,h3⟩:=h
  rcases (jN_ hN).1 ho with ho | ⟨ho,h4⟩
  ·rcases (uw_ hW hs).1 ho with ⟨w,hw,_,e⟩ | ⟨o',_,_,e⟩
   ·have:=al3_ h2 w hw
    rw [e,xs_ (vv_ x w)] at this
    cases this
   ·rw [e] at h3
    have:=aCc_ o' (wr_ x o')
    rw [show ({ zF_ o' with seq:=wr_ x o' }:Rcd)=k8_ x o' from rfl,h3] at this
    cases this
  ·have hg:qi_ x W o=true:=by
    unfold qi_
    simp only [bA_,decide_eq_true_eq,beq_iff_eq,Bool.not_eq_true']
    exact ⟨h1,h2,h3⟩
   have:=h4 _ ((uw_ hW hs).2 (.inr ⟨o,ho,hg,rfl⟩))
   rw [xs_ (uP_ x o)] at this
   cases this
theorem aEy_ {a b:List Rcd} (ha:zG_ a) (hb:zG_ b) (h:∀ r,r∈a↔r∈b):a=b:=by
 have:=ah7_ ha hb fun r hr=>(h r).2 hr
 rw [this,List.filter_eq_self.2]
 intro r hr
 rw [@decide_eq_true_eq _ (Classical.propDecidable _)]
 exact (h r).1 hr
theorem aI2_ {s s':List Rcd} {fr:Int} (hs:zG_ s) (hs':zG_ s') (ok:ze_ s=ze_ s') (hm:∀ r,(r.kind=1∨r.owner≠fr)→(r∈s↔r∈s')) (A:List Int) (area:Int):beyondR s A fr area=beyondR s' A fr area:=by
 have aa6_:∀ {a b:List Rcd},zG_ b→(∀ r:Rcd,r.kind=1→(r∈a→r∈b))→∀ ar v,0≤zT_ a ar v→0≤zT_ b ar v∧gt b (zT_ b ar v)=gt a (zT_ a ar v):=by
  intro a b hb h ar v h0
  have h1:=zS_ (l:=a) (n:=zT_ a ar v) h0 (uG_ a ar v)
  have h2:zb_ (gt a (zT_ a ar v)) ⟨ar,1,v,0,0,[],0,false⟩=true:=yE_ _ _ h0
  have h3:=sameKey_iff.1 h2
  exact arg_ hb (h _ h3.2.1 h1) h2
 have node:∀ ar v,(0≤zT_ s ar v↔0≤zT_ s' ar v)∧xW_ s ar v=xW_ s' ar v:=by
  intro ar v
  have g1:=aa6_ (a:=s) (b:=s') hs' (fun r hk hr=>(hm r (.inl hk)).1 hr) ar v
  have g2:=aa6_ (a:=s') (b:=s) hs (fun r hk hr=>(hm r (.inl hk)).2 hr) ar v
  refine ⟨⟨fun h=>(g1 h).1,fun h=>(g2 h).1⟩,?_⟩
  unfold xW_
  by_cases h:0≤zT_ s ar v
  ·have:=g1 h
   rw [if_neg (by omega),if_neg (by omega),this.2]
  ·have:¬ 0≤zT_ s' ar v:=fun hc=>h (g2 hc).1
   rw [if_pos (by omega),if_pos (by omega)]
 have hways:∀ a,waysIn s a fr=waysIn s' a fr:=by
  intro a
  refine aih_ (fun u v=>?_) ok (node a fr).1
  unfold zk_ wJ_
  rw [(node a u).2,(node a v).2]
 have hwith:∀ B,within s B fr=within s' B fr:=by
  intro B
  unfold within cand
  rw [jl_ fun a ha=>hways a]
 have hrec:∀ z x,recB s A z fr x=recB s' A z fr x:=by
  intro z x
  unfold recB
  rw [hwith,hways]
 have hbey:∀ z,beyond s A z fr=beyond s' A z fr:=by
  intro z
  unfold beyond uq_
  rw [show recB s A z fr=recB s' A z fr from funext (hrec z)]
  congr 1
  have key:∀ l:List Rcd,l.filterMap (recB s' A z fr)=(l.filter fun x=>!(x.owner == fr)).filterMap (recB s' A z fr):=by
   intro l
   induction l with
   | nil=>rfl
   | cons x l ih =>
    rw [List.filter_cons]
    by_cases hx:x.owner=fr
    ·have:recB s' A z fr x=none:=by unfold recB;rw [if_neg (fun hc=>hc.2.2.1 hx)]
     rw [List.filterMap_cons,this,ih]
     simp [hx]
    ·have hb:(!(x.owner == fr))=true:=by simp [hx]
     rw [if_pos hb,List.filterMap_cons,List.filterMap_cons,ih]
  rw [key s,key s']
  congr 1
  refine aEy_ (hs.filter _) (hs'.filter _) fun r=>?_
  simp only [List.mem_filter,Bool.not_eq_true',beq_eq_false_iff_ne]
  exact ⟨fun h=>⟨(hm r (.inr h.2)).1 h.1,h.2⟩,fun h=>⟨(hm r (.inr h.2)).2 h.1,h.2⟩⟩
 unfold beyondR an9_
 rw [hways,hwith,hbey]
end Go.Proofs.YtjimmglpkndemaaGreatC

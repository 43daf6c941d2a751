/- FnOnePlace: what the plain programs say. Conditions: none. -/
import Derived.Test.YtlofiplkmgmnfaaXSDh
namespace Go.Proofs.YtlofiplkmgmnfaaC
open Int (reduceLE reduceLT reduceEq reduceGT reduceGE reduceAdd reduceSub reduceMul reduceNeg)
set_option linter.unusedVariables false
set_option linter.unusedSimpArgs false
def ys_FnOnePlace:List Ty:=[.sl yByte]
theorem tog_le (a b:Way):(tog a b).cost≤a.cost∧(tog a b).cost≤b.cost:=by
 unfold tog
 split
 ·exact ⟨Int.le_refl _,by omega⟩
 ·split
  ·exact ⟨by omega,Int.le_refl _⟩
  ·exact ⟨Int.le_refl _,by show a.cost≤b.cost;omega⟩
theorem near_min (W:List Way) (key fr:Int):∀ (l:List Rcd) (o:Option Way),(∀ b0,o=some b0→∃ b,l.foldl (stepN W key fr) o=some b∧b.cost≤b0.cost) ∧
  ∀ x∈l,x.far=false→∀ w,thC W key fr x=some w→∃ b,l.foldl (stepN W key fr) o=some b∧b.cost≤w.cost+x.cost
 | [],o=>⟨fun b0 h=>⟨b0,h,Int.le_refl _⟩,fun x hx=>by cases hx⟩
 | y :: l,o=>by
  rw [List.foldl_cons]
  obtain ⟨h1,h2⟩:=near_min W key fr l (stepN W key fr o y)
  refine ⟨fun b0 h=>?_,fun x hx hf w hw=>?_⟩
  ·have hstep:∃ b,stepN W key fr o y=some b∧b.cost≤b0.cost:=by
    rw [h]
    unfold stepN
    split
    ·exact ⟨b0,rfl,Int.le_refl _⟩
    ·split
     ·exact ⟨b0,rfl,Int.le_refl _⟩
     ·exact ⟨_,rfl,(tog_le _ _).1⟩
   obtain ⟨b,e,hb⟩:=hstep
   obtain ⟨b',e',hb'⟩:=h1 b e
   exact ⟨b',e',Int.le_trans hb' hb⟩
  ·rcases List.mem_cons.1 hx with rfl | hx
   ·have e1:stepN W key fr o x=tog1 o ⟨key,w.cost+x.cost,w.hops⟩:=by
     unfold stepN
     rw [if_neg (by rw [hf];simp),hw]
    have hstep:∃ b,stepN W key fr o x=some b∧b.cost≤w.cost+x.cost:=by
     rw [e1]
     cases o with
     | none=>exact ⟨_,rfl,Int.le_refl _⟩
     | some b0=>exact ⟨_,rfl,(tog_le _ _).2⟩
    obtain ⟨b,e,hb⟩:=hstep
    obtain ⟨b',e',hb'⟩:=h1 b e
    exact ⟨b',e',Int.le_trans hb' hb⟩
   ·exact h2 x hx hf w hw
theorem far_min (W:List Way) (key fr:Int):∀ (l:List Rcd) (o:Option (Int × Way)),(∀ c b0,o=some (c,b0)→∃ d b,l.foldl (stepF W key fr) o=some (d,b)∧d≤c) ∧
  ∀ x∈l,x.far=true→∀ w,thC W key fr x=some w→∃ d b,l.foldl (stepF W key fr) o=some (d,b)∧d≤x.cost
 | [],o=>⟨fun c b0 h=>⟨c,b0,h,Int.le_refl _⟩,fun x hx=>by cases hx⟩
 | y :: l,o=>by
  rw [List.foldl_cons]
  obtain ⟨h1,h2⟩:=far_min W key fr l (stepF W key fr o y)
  have one:∀ (o:Option (Int × Way)) (c:Int) (w:Way),∃ d b,far1 o c w=some (d,b)∧d≤c∧∀ c0 b0,o=some (c0,b0)→d≤c0:=by
   intro o c w
   unfold far1
   split
   ·exact ⟨c,w,rfl,Int.le_refl _,fun c0 b0 h=>by cases h⟩
   ·rename_i l0 b0
    split
    ·exact ⟨l0,_,rfl,by omega,fun c0 b0 h=>by cases h;omega⟩
    ·split
     ·exact ⟨c,w,rfl,Int.le_refl _,fun c0 b0 h=>by cases h;omega⟩
     ·exact ⟨l0,b0,rfl,by omega,fun c0 b0 h=>by cases h;omega⟩
  refine ⟨fun c b0 h=>?_,fun x hx hf w hw=>?_⟩
  ·have hstep:∃ d b,stepF W key fr o y=some (d,b)∧d≤c:=by
    rw [h]
    unfold stepF
    split
    ·split
     ·exact ⟨c,b0,rfl,Int.le_refl _⟩
     ·rename_i w hw
      obtain ⟨d,b,e,_,hd⟩:=one (some (c,b0)) y.cost ⟨key,w.cost,w.hops⟩
      exact ⟨d,b,e,hd c b0 rfl⟩
    ·exact ⟨c,b0,rfl,Int.le_refl _⟩
   obtain ⟨d,b,e,hd⟩:=hstep
   obtain ⟨d',b',e',hd'⟩:=h1 d b e
   exact ⟨d',b',e',Int.le_trans hd' hd⟩
  ·rcases List.mem_cons.1 hx with rfl | hx
   ·have e1:stepF W key fr o x=far1 o x.cost ⟨key,w.cost,w.hops⟩:=by
     unfold stepF
     rw [if_pos hf,hw]
    obtain ⟨d,b,e,hd,_⟩:=one o x.cost ⟨key,w.cost,w.hops⟩
    obtain ⟨d',b',e',hd'⟩:=h1 d b (e1.trans e)
    exact ⟨d',b',e',Int.le_trans hd' hd⟩
   ·exact h2 x hx hf w hw
section
variable {y:Net} {O U:List Bool} (hy:netOk y=true) (h0:∀ l∈y.links,l.area=0)
include h0
theorem one_areas {v a:Int} (h:a∈areasOf y.links v):a=0:=by
 unfold areasOf at h
 have h:=(List.mem_filter.1 h).2
 obtain ⟨l,hl,ht⟩:=List.any_eq_true.1 h
 unfold touch at ht
 simp only [Bool.and_eq_true,beq_iff_eq] at ht
 rw [← ht.1];exact h0 l hl
theorem one_border (v:Int):border y.links v=false:=by
 cases hb:border y.links v with
 | false=>rfl
 | true =>
  unfold border at hb
  simp only [Bool.and_eq_true,decide_eq_true_eq] at hb
  have hn:(areasOf y.links v).Nodup:=by
   unfold areasOf
   exact (List.Pairwise.filter _ (three_asc.imp fun {a b} h=>by omega))
  have:=nodup_len (l:=[0]) hn (fun a ha=>by rw [one_areas h0 ha];simp)
  simp at this;omega
include hy in
theorem one_kind:∀ r∈ideal y O U,r.kind≠2:=by
 intro r hr hk
 have:=(ideal_rec (L:=O) (U:=U) hy r hr).2.2.2.2.2 hk
 rw [one_border h0] at this;cases this
include hy in
theorem one_beyond (A:List Int) (z:Bool) (v:Int):beyond (ideal y O U) A z v=[]:=by
 have:beyondC (ideal y O U) A z v=[]:=by
  unfold beyondC
  rw [List.filterMap_eq_nil_iff]
  intro r hr
  unfold recB
  rw [if_neg fun h=>one_kind hy h0 r hr h.1]
 unfold beyond
 rw [this];rfl
theorem one_tells (v:Int):beyondR (ideal y O U) (areasOf y.links v) v 0=[]:=by
 have h1:othersOf (areasOf y.links v) 0=[]:=by
  unfold othersOf
  rw [List.filter_eq_nil_iff]
  intro a ha
  rw [one_areas h0 ha];simp
 unfold beyondR tellW
 rw [h1]
 have h2:within (ideal y O U) [] v=[]:=rfl
 rw [h2]
 exact toldB_nil _ _ _
include hy in
theorem one_thing {v:Int} (hv:In6 v) {r:Route} (hr:r∈routesOf (ideal y O U) (areasOf y.links v) false v) (ht:r.thing=true) {t:Thing} (htm:t∈y.things) (hk:t.key=r.to) (hu:gt U (t.owner - 1)=true)
  {c:Int} (hw:(t.owner=v∧0≤c)∨∃ w∈waysIn (ideal y O U) 0 v,w.to=t.owner∧w.cost=c) :
  (t.far=false→r.kind=3∧r.cost≤c+t.cost)∧(t.far=true→r.kind=4→r.far≤t.cost):=by
 have hs:=(ideal_sto (L:=O) (U:=U) hy).ok (by decide)
 have hR:thingR (ideal y O U) (within (ideal y O U) (areasOf y.links v) v++beyond (ideal y O U) (areasOf y.links v) false v) r.to v=some r:=by
  rcases route_of hr with ⟨h1,_⟩ | ⟨h1,_⟩ | ⟨_,_,h⟩
  ·rw [h1] at ht;cases ht
  ·rw [h1] at ht;cases ht
  ·exact h
 rw [one_beyond hy h0,List.append_nil] at hR
 have hmem:=ideal_thing (L:=O) (U:=U) hy htm hu
 have htc:=thing_of (netOk_all hy).2.2.2.2 htm
 have hth:∃ w,thC (within (ideal y O U) (areasOf y.links v) v) r.to v (rThing t)=some w∧w.cost≤c:=by
  unfold thC
  rw [if_pos ⟨rfl,hk,by show t.cost < 60000;omega⟩]
  unfold ownW
  by_cases ho:t.owner=v
  ·rw [if_pos (show (rThing t).owner=v from ho)]
   rcases hw with ⟨_,hc⟩ | ⟨w,hw,_,e⟩
   ·exact ⟨wz,rfl,hc⟩
   ·have:=(waysIn_ok.2.2 w hw).2.2.1
    exact ⟨wz,rfl,by show (0:Int)≤c;omega⟩
  ·rw [if_neg (show ¬ (rThing t).owner=v from ho)]
   rcases hw with ⟨e,_⟩ | ⟨w,hw,e1,e2⟩
   ·exact absurd e ho
   ·have hp:=waysIn_node hw
    have ha:=(ideal_nodeP hy hp).2.2.2
    obtain ⟨w',hw',e'⟩:=within_get (mem_cand.2 ⟨0,ha,hw⟩)
    have hb:=(within_best hw').2.2.1 w (List.mem_filter.2 ⟨mem_cand.2 ⟨0,ha,hw⟩,by simp [e']⟩)
    refine ⟨w',(wayO_mem within_asc).2 ⟨hw',by rw [e',e1];rfl⟩,by omega⟩
 obtain ⟨w,hth,hwc⟩:=hth
 unfold thingR at hR
 refine ⟨fun hf=>?_,fun hf h4=>?_⟩
 ·obtain ⟨b,e,hb⟩:=(near_min (within (ideal y O U) (areasOf y.links v) v) r.to v (ideal y O U) none).2 _ hmem hf w hth
  have e:nearB (ideal y O U) (within (ideal y O U) (areasOf y.links v) v) r.to v=some b:=e
  rw [e] at hR
  have hR:=Option.some.inj hR
  have hb:b.cost≤w.cost+t.cost:=hb
  rw [← hR]
  exact ⟨rfl,by show b.cost≤c+t.cost;omega⟩
 ·obtain ⟨d,b,e,hd⟩:=(far_min (within (ideal y O U) (areasOf y.links v) v) r.to v (ideal y O U) none).2 _ hmem hf w hth
  have e:farB (ideal y O U) (within (ideal y O U) (areasOf y.links v) v) r.to v=some (d,b):=e
  split at hR
  ·have hR:=Option.some.inj hR
   rw [← hR] at h4
   cases h4
  ·rw [e] at hR
   have hR:=Option.some.inj hR
   rw [← hR];exact hd
end
theorem fo_things {y:Net} {O U:List Bool} (hy:netOk y=true) (h0:∀ l∈y.links,l.area=0) (hU:(U.length:Int)=y.n) {v:Int} (hv:In6 v) {i:Nat} (hi:(i:Int) < (routesOf (ideal y O U) (areasOf y.links v) false v).length) (q:Sem1) :
  iter (G_FnOnePlace_l0 F_s_WayTo (.l (y.things.map eThing)) (.l (U.map eBool)) (ii v) (.l ((waysIn (ideal y O U) 0 v).map eWay)) (ii i) (bb (gt (routesOf (ideal y O U) (areasOf y.links v) false v) (i:Int)).thing) (ii (gt (routesOf (ideal y O U) (areasOf y.links v) false v) (i:Int)).to)
   (ii (gt (routesOf (ideal y O U) (areasOf y.links v) false v) (i:Int)).kind) (ii (gt (routesOf (ideal y O U) (areasOf y.links v) false v) (i:Int)).cost) (ii (gt (routesOf (ideal y O U) (areasOf y.links v) false v) (i:Int)).far) q) rounds [bb false,ii 0]=q [bb false,ii (i+1)]:=by
 have hm:=gt_mem (l:=routesOf (ideal y O U) (areasOf y.links v) false v) (n:=(i:Int)) (by omega) hi
 have hRl:=routesOf_len (ideal y O U) (areasOf y.links v) false v
 have hth:=fun h (t:Thing) (c:Int)=>one_thing (O:=O) (U:=U) hy h0 hv hm h (t:=t) (c:=c)
 generalize gt (routesOf (ideal y O U) (areasOf y.links v) false v) (i:Int)=r at *
 have hal:=netOk_all hy
 cases hrt:r.thing with
 | false =>
  refine iter_while (fun k=>[bb false,ii (k:Int)]) 0 rfl (rounds_lt (by omega)) (fun k hk=>by omega) fun q'=>?_
  by_cases hz:(0:Int) < y.things.length
  ·simp (disch:=omega) only [↓pq,↓pj,ps,pz,↓reduceIte,reduceLE,reduceLT,reduceEq,reduceGT,reduceGE,reduceAdd,reduceSub,reduceMul,reduceNeg,G_FnOnePlace_l0,G_FnOnePlace_l1,G_FnOnePlace_l2,G_FnOnePlace_l3,G_FnOnePlace_l0,hz,Bool.false_eq_true]
  ·simp (disch:=omega) only [↓pq,↓pj,ps,pz,↓reduceIte,reduceLE,reduceLT,reduceEq,reduceGT,reduceGE,reduceAdd,reduceSub,reduceMul,reduceNeg,G_FnOnePlace_l0,G_FnOnePlace_l1,G_FnOnePlace_l2,G_FnOnePlace_l3,G_FnOnePlace_l0,hz]
 | true =>
  have hth:=hth hrt
  refine iter_while (fun k=>[bb false,ii (k:Int)]) y.things.length rfl (rounds_lt (by omega)) ?_ ?_
  ·intro k hk q'
   have htm:=gt_mem (l:=y.things) (n:=(k:Int)) (by omega) hk
   have htc:=thing_of hal.2.2.2.2 htm
   have hth:=fun c=>hth _ c htm
   have e1:=e_s_WayTo (waysIn (ideal y O U) 0 v) (gt y.things (k:Int)).owner (by have:=waysIn_len (s:=ideal y O U) (a:=0) (fr:=v);omega) waysIn_hops
   have k1:(gt y.things (k:Int)).owner - 1 < U.length:=by omega
   generalize hgt:gt y.things (k:Int)=t at *
   by_cases c1:t.key=r.to
   ·by_cases c2:wayP (waysIn (ideal y O U) 0 v) t.owner < 0
    ·rw [if_pos c2] at e1
     by_cases c3:t.owner=v
     ·cases hu:gt U (t.owner - 1) with
      | false =>
       rw [c3] at hu e1 k1
       simp (disch:=omega) only [↓pq,↓pj,ps,pz,↓reduceIte,reduceLE,reduceLT,reduceEq,reduceGT,reduceGE,reduceAdd,reduceSub,reduceMul,reduceNeg,G_FnOnePlace_l0,G_FnOnePlace_l1,G_FnOnePlace_l2,G_FnOnePlace_l3,G_FnOnePlace_l0,hk,hgt,e1,c1,c3,hu,k1,Bool.false_eq_true]
      | true =>
       obtain ⟨f1,f2⟩:=hth 0 c1 hu (.inl ⟨c3,by omega⟩)
       rw [c3] at hu e1 k1
       cases hf:t.far with
       | false =>
        obtain ⟨g1,g2⟩:=f1 hf
        have g3:¬ r.cost > t.cost:=by omega
        have g4:¬ r.cost > 0+t.cost:=by omega
        simp (disch:=omega) only [↓pq,↓pj,ps,pz,↓reduceIte,reduceLE,reduceLT,reduceEq,reduceGT,reduceGE,reduceAdd,reduceSub,reduceMul,reduceNeg,G_FnOnePlace_l0,G_FnOnePlace_l1,G_FnOnePlace_l2,G_FnOnePlace_l3,G_FnOnePlace_l0,hk,hgt,e1,c1,c3,hu,k1,hf,g1,g3,g4,Bool.false_eq_true]
       | true =>
        by_cases g1:r.kind=4
        ·have g2:¬ r.far > t.cost:=by have:=f2 hf g1;omega
         simp (disch:=omega) only [↓pq,↓pj,ps,pz,↓reduceIte,reduceLE,reduceLT,reduceEq,reduceGT,reduceGE,reduceAdd,reduceSub,reduceMul,reduceNeg,G_FnOnePlace_l0,G_FnOnePlace_l1,G_FnOnePlace_l2,G_FnOnePlace_l3,G_FnOnePlace_l0,hk,hgt,e1,c1,c3,hu,k1,hf,g1,g2,Bool.false_eq_true]
        ·simp (disch:=omega) only [↓pq,↓pj,ps,pz,↓reduceIte,reduceLE,reduceLT,reduceEq,reduceGT,reduceGE,reduceAdd,reduceSub,reduceMul,reduceNeg,G_FnOnePlace_l0,G_FnOnePlace_l1,G_FnOnePlace_l2,G_FnOnePlace_l3,G_FnOnePlace_l0,hk,hgt,e1,c1,c3,hu,k1,hf,g1,Bool.false_eq_true]
     ·simp (disch:=omega) only [↓pq,↓pj,ps,pz,↓reduceIte,reduceLE,reduceLT,reduceEq,reduceGT,reduceGE,reduceAdd,reduceSub,reduceMul,reduceNeg,G_FnOnePlace_l0,G_FnOnePlace_l1,G_FnOnePlace_l2,G_FnOnePlace_l3,G_FnOnePlace_l0,hk,hgt,e1,c1,c3,Bool.false_eq_true]
    ·rw [if_neg c2] at e1
     obtain ⟨d1,d2⟩:=wayP_some c2
     have d3:=(waysIn_ok.2.2 _ d1).2.2
     simp only [eWay,List.cons_append,List.nil_append] at e1
     cases hu:gt U (t.owner - 1) with
     | false =>
      by_cases c3:t.owner=v
      ·rw [c3] at hu e1 k1
       simp (disch:=omega) only [↓pq,↓pj,ps,pz,↓reduceIte,reduceLE,reduceLT,reduceEq,reduceGT,reduceGE,reduceAdd,reduceSub,reduceMul,reduceNeg,G_FnOnePlace_l0,G_FnOnePlace_l1,G_FnOnePlace_l2,G_FnOnePlace_l3,G_FnOnePlace_l0,hk,hgt,e1,c1,c3,hu,k1,Bool.false_eq_true]
      ·simp (disch:=omega) only [↓pq,↓pj,ps,pz,↓reduceIte,reduceLE,reduceLT,reduceEq,reduceGT,reduceGE,reduceAdd,reduceSub,reduceMul,reduceNeg,G_FnOnePlace_l0,G_FnOnePlace_l1,G_FnOnePlace_l2,G_FnOnePlace_l3,G_FnOnePlace_l0,hk,hgt,e1,c1,c3,hu,k1,Bool.false_eq_true]
     | true =>
      obtain ⟨f1,f2⟩:=hth _ c1 hu (.inr ⟨_,d1,d2,rfl⟩)
      generalize gt (waysIn (ideal y O U) 0 v) (wayP (waysIn (ideal y O U) 0 v) t.owner)=w at *
      by_cases c3:t.owner=v
      ·rw [c3] at hu e1 k1
       cases hf:t.far with
       | false =>
        obtain ⟨g1,g2⟩:=f1 hf
        have g3:¬ r.cost > w.cost+t.cost:=by omega
        simp (disch:=omega) only [↓pq,↓pj,ps,pz,↓reduceIte,reduceLE,reduceLT,reduceEq,reduceGT,reduceGE,reduceAdd,reduceSub,reduceMul,reduceNeg,G_FnOnePlace_l0,G_FnOnePlace_l1,G_FnOnePlace_l2,G_FnOnePlace_l3,G_FnOnePlace_l0,hk,hgt,e1,c1,c3,hu,k1,hf,g1,g3,Bool.false_eq_true]
       | true =>
        by_cases g1:r.kind=4
        ·have g2:¬ r.far > t.cost:=by have:=f2 hf g1;omega
         simp (disch:=omega) only [↓pq,↓pj,ps,pz,↓reduceIte,reduceLE,reduceLT,reduceEq,reduceGT,reduceGE,reduceAdd,reduceSub,reduceMul,reduceNeg,G_FnOnePlace_l0,G_FnOnePlace_l1,G_FnOnePlace_l2,G_FnOnePlace_l3,G_FnOnePlace_l0,hk,hgt,e1,c1,c3,hu,k1,hf,g1,g2,Bool.false_eq_true]
        ·simp (disch:=omega) only [↓pq,↓pj,ps,pz,↓reduceIte,reduceLE,reduceLT,reduceEq,reduceGT,reduceGE,reduceAdd,reduceSub,reduceMul,reduceNeg,G_FnOnePlace_l0,G_FnOnePlace_l1,G_FnOnePlace_l2,G_FnOnePlace_l3,G_FnOnePlace_l0,hk,hgt,e1,c1,c3,hu,k1,hf,g1,Bool.false_eq_true]
      ·cases hf:t.far with
       | false =>
        obtain ⟨g1,g2⟩:=f1 hf
        have g3:¬ r.cost > w.cost+t.cost:=by omega
        simp (disch:=omega) only [↓pq,↓pj,ps,pz,↓reduceIte,reduceLE,reduceLT,reduceEq,reduceGT,reduceGE,reduceAdd,reduceSub,reduceMul,reduceNeg,G_FnOnePlace_l0,G_FnOnePlace_l1,G_FnOnePlace_l2,G_FnOnePlace_l3,G_FnOnePlace_l0,hk,hgt,e1,c1,c3,hu,k1,hf,g1,g3,Bool.false_eq_true]
       | true =>
        by_cases g1:r.kind=4
        ·have g2:¬ r.far > t.cost:=by have:=f2 hf g1;omega
         simp (disch:=omega) only [↓pq,↓pj,ps,pz,↓reduceIte,reduceLE,reduceLT,reduceEq,reduceGT,reduceGE,reduceAdd,reduceSub,reduceMul,reduceNeg,G_FnOnePlace_l0,G_FnOnePlace_l1,G_FnOnePlace_l2,G_FnOnePlace_l3,G_FnOnePlace_l0,hk,hgt,e1,c1,c3,hu,k1,hf,g1,g2,Bool.false_eq_true]
        ·simp (disch:=omega) only [↓pq,↓pj,ps,pz,↓reduceIte,reduceLE,reduceLT,reduceEq,reduceGT,reduceGE,reduceAdd,reduceSub,reduceMul,reduceNeg,G_FnOnePlace_l0,G_FnOnePlace_l1,G_FnOnePlace_l2,G_FnOnePlace_l3,G_FnOnePlace_l0,hk,hgt,e1,c1,c3,hu,k1,hf,g1,Bool.false_eq_true]
   ·by_cases c2:wayP (waysIn (ideal y O U) 0 v) t.owner < 0
    ·rw [if_pos c2] at e1
     by_cases c3:t.owner=v
     ·rw [c3] at e1
      simp (disch:=omega) only [↓pq,↓pj,ps,pz,↓reduceIte,reduceLE,reduceLT,reduceEq,reduceGT,reduceGE,reduceAdd,reduceSub,reduceMul,reduceNeg,G_FnOnePlace_l0,G_FnOnePlace_l1,G_FnOnePlace_l2,G_FnOnePlace_l3,G_FnOnePlace_l0,hk,hgt,e1,c1,c3,Bool.false_eq_true]
     ·simp (disch:=omega) only [↓pq,↓pj,ps,pz,↓reduceIte,reduceLE,reduceLT,reduceEq,reduceGT,reduceGE,reduceAdd,reduceSub,reduceMul,reduceNeg,G_FnOnePlace_l0,G_FnOnePlace_l1,G_FnOnePlace_l2,G_FnOnePlace_l3,G_FnOnePlace_l0,hk,hgt,e1,c1,c3,Bool.false_eq_true]
    ·rw [if_neg c2] at e1
     simp only [eWay,List.cons_append,List.nil_append] at e1
     by_cases c3:t.owner=v
     ·rw [c3] at e1
      simp (disch:=omega) only [↓pq,↓pj,ps,pz,↓reduceIte,reduceLE,reduceLT,reduceEq,reduceGT,reduceGE,reduceAdd,reduceSub,reduceMul,reduceNeg,G_FnOnePlace_l0,G_FnOnePlace_l1,G_FnOnePlace_l2,G_FnOnePlace_l3,G_FnOnePlace_l0,hk,hgt,e1,c1,c3,Bool.false_eq_true]
     ·simp (disch:=omega) only [↓pq,↓pj,ps,pz,↓reduceIte,reduceLE,reduceLT,reduceEq,reduceGT,reduceGE,reduceAdd,reduceSub,reduceMul,reduceNeg,G_FnOnePlace_l0,G_FnOnePlace_l1,G_FnOnePlace_l2,G_FnOnePlace_l3,G_FnOnePlace_l0,hk,hgt,e1,c1,c3,Bool.false_eq_true]
  ·intro q'
   have hz:¬ ((y.things.length:Int) < y.things.length):=by omega
   simp (disch:=omega) only [↓pq,↓pj,ps,pz,↓reduceIte,reduceLE,reduceLT,reduceEq,reduceGT,reduceGE,reduceAdd,reduceSub,reduceMul,reduceNeg,G_FnOnePlace_l0,G_FnOnePlace_l1,G_FnOnePlace_l2,G_FnOnePlace_l3,G_FnOnePlace_l0,hz]
theorem fo_list {y:Net} {O U:List Bool} (hy:netOk y=true) (h0:∀ l∈y.links,l.area=0) (hU:(U.length:Int)=y.n) {v:Int} (hv:In6 v) (q:Sem1) :
  iter (G_FnOnePlace_l1 rounds F_s_WayTo (.l (y.things.map eThing)) (.l (U.map eBool)) (ii v) (.l ((routesOf (ideal y O U) (areasOf y.links v) false v).map eRoute)) (.l ((waysIn (ideal y O U) 0 v).map eWay)) q) rounds [bb false,ii 0]=q [bb false,ii (v+1)]:=by
 have hRl:=routesOf_len (ideal y O U) (areasOf y.links v) false v
 have hv1:=hv.1
 have hv2:=hv.2
 refine iter_while (fun i=>[bb false,ii (i:Int)]) (routesOf (ideal y O U) (areasOf y.links v) false v).length rfl (rounds_lt (by omega)) ?_ ?_
 ·intro i hi q'
  have hm:=gt_mem (l:=routesOf (ideal y O U) (areasOf y.links v) false v) (n:=(i:Int)) (by omega) hi
  have tail:=fo_things hy h0 hU hv hi q'
  have hk:¬ (gt (routesOf (ideal y O U) (areasOf y.links v) false v) (i:Int)).kind=2:=by
   intro hk
   rcases route_of hm with ⟨_,h,_⟩ | ⟨_,_,_,w,hw,_⟩ | ⟨_,h,_⟩
   ·omega
   ·rw [one_beyond hy h0] at hw;cases hw
   ·omega
  simp (disch:=omega) only [↓pq,↓pj,ps,pz,↓reduceIte,reduceLE,reduceLT,reduceEq,reduceGT,reduceGE,reduceAdd,reduceSub,reduceMul,reduceNeg,G_FnOnePlace_l0,G_FnOnePlace_l1,G_FnOnePlace_l2,G_FnOnePlace_l3,G_FnOnePlace_l1,hi,hk]
  exact tail
 ·intro q'
  have hz:¬ (((routesOf (ideal y O U) (areasOf y.links v) false v).length:Int) < (routesOf (ideal y O U) (areasOf y.links v) false v).length):=by omega
  simp (disch:=omega) only [↓pq,↓pj,ps,pz,↓reduceIte,reduceLE,reduceLT,reduceEq,reduceGT,reduceGE,reduceAdd,reduceSub,reduceMul,reduceNeg,G_FnOnePlace_l0,G_FnOnePlace_l1,G_FnOnePlace_l2,G_FnOnePlace_l3,G_FnOnePlace_l1,hz]
theorem fo_nodes {y:Net} {O U:List Bool} (hy:netOk y=true) (h0:∀ l∈y.links,l.area=0) (hU:(U.length:Int)=y.n) :
  iter (G_FnOnePlace_l2 rounds F_i_Beyond F_i_RoutesOf F_i_RoutesWithin F_s_AreasOf F_s_RoutesOf F_s_WayTo F_s_WaysIn (ii y.n) (.l (y.things.map eThing)) (.l (U.map eBool)) (.l (y.links.map eLink)) (.l ((ideal y O U).map eRcd))) rounds [bb false,ii 1]=some [bb true]:=by
 have hn:=netOk_n hy
 have hlk:=netOk_links hy
 have hS:=ideal_sto (L:=O) (U:=U) hy
 have hs:=hS.ok (by decide)
 have hsl:=hS.len
 have hsn:=hS.near
 refine iter_while (fun j=>[bb false,ii ((j:Int)+1)]) y.n.toNat rfl (rounds_lt (by omega)) ?_ ?_
 ·intro j hj q
  have hj':(j:Int)+1≤y.n:=by omega
  have hA:=areasOf_len y.links ((j:Int)+1)
  have e1:=e_s_AreasOf (ii y.n) (.l (y.things.map eThing)) y.links ((j:Int)+1) y.n hlk.1 hlk.2
  have e2:=e_i_Beyond (ideal y O U) (areasOf y.links ((j:Int)+1)) ((j:Int)+1) 0 (by omega) hsn (by omega)
  rw [one_tells h0] at e2
  have e3:=e_i_RoutesOf (ideal y O U) (areasOf y.links ((j:Int)+1)) false ((j:Int)+1) (by omega) hsn hs (by omega)
  have e4:=e_s_WaysIn (ideal y O U) 0 ((j:Int)+1) (by omega) hsn
  have hz:(([]:List Rcd).length:Int)=0:=rfl
  simp (disch:=omega) only [↓pq,↓pj,ps,pz,↓reduceIte,reduceLE,reduceLT,reduceEq,reduceGT,reduceGE,reduceAdd,reduceSub,reduceMul,reduceNeg,G_FnOnePlace_l0,G_FnOnePlace_l1,G_FnOnePlace_l2,G_FnOnePlace_l3,G_FnOnePlace_l2,hj',e1,e2,e3,e4,hz]
  exact fo_list hy h0 hU ⟨by omega,by omega⟩ q
 ·intro q
  have hj':¬ ((y.n.toNat:Int)+1≤y.n):=by omega
  have hA:=areasOf_len y.links 1
  have e1:=e_s_AreasOf (ii y.n) (.l (y.things.map eThing)) y.links 1 y.n hlk.1 hlk.2
  have e3:=e_i_RoutesOf (ideal y O U) (areasOf y.links 1) false 1 (by omega) hsn hs (by omega)
  have e4:=e_s_RoutesOf (ideal y O U) (areasOf y.links 1) false 1 (by omega) hsn hs (by omega)
  have e5:=e_i_RoutesWithin (ideal y O U) [] 1 (by omega) hsn (by simp)
  rw [show within (ideal y O U) [] 1=[] from rfl] at e5
  simp only [List.map_nil] at e5
  have hz:(([]:List Way).length:Int)=0:=rfl
  have hr:∀ n:Int,(n == n)=true:=by simp
  simp (disch:=omega) only [↓pq,↓pj,ps,pz,↓reduceIte,reduceLE,reduceLT,reduceEq,reduceGT,reduceGE,reduceAdd,reduceSub,reduceMul,reduceNeg,G_FnOnePlace_l0,G_FnOnePlace_l1,G_FnOnePlace_l2,G_FnOnePlace_l3,G_FnOnePlace_l2,hj',e1,e3,e4,e5,hz,hr]
structure OneI (x:Net) (k:Nat) (K:List Link):Prop where
 asc:ascB (linkOk x.n) linkLt K=true
 len:K.length≤k
 zero:∀ l∈K,l.area=0
 last:∀ l∈K,0 < k∧(l.a < (gt x.links ((k:Int) - 1)).a∨l.a=(gt x.links ((k:Int) - 1)).a∧l.b≤(gt x.links ((k:Int) - 1)).b)
theorem OneI.step {x:Net} (hx:netOk x=true) {k:Nat} (hk:(k:Int) < x.links.length) {K:List Link} (h:OneI x k K) :
  ((0 < k∧(gt x.links ((k:Int) - 1)).a=(gt x.links (k:Int)).a∧(gt x.links ((k:Int) - 1)).b=(gt x.links (k:Int)).b)→OneI x (k+1) K) ∧
  (¬ (0 < k∧(gt x.links ((k:Int) - 1)).a=(gt x.links (k:Int)).a∧(gt x.links ((k:Int) - 1)).b=(gt x.links (k:Int)).b)→OneI x (k+1) (K++[⟨(gt x.links (k:Int)).a,(gt x.links (k:Int)).b,(gt x.links (k:Int)).cost,0⟩])):=by
 have hlk:=netOk_links hx
 have hl:=link_of hlk.1 (gt_mem (l:=x.links) (n:=(k:Int)) (by omega) hk)
 have e:((k+1:Nat):Int) - 1=k:=by omega
 have prev:0 < k→(gt x.links ((k:Int) - 1)).a < (gt x.links (k:Int)).a∨(gt x.links ((k:Int) - 1)).a=(gt x.links (k:Int)).a∧(gt x.links ((k:Int) - 1)).b≤(gt x.links (k:Int)).b:=by
  intro h0
  rw [show (k:Int) - 1=((k - 1:Nat):Int) by omega,gt_elem (by omega),gt_elem (by omega)]
  have:=List.pairwise_iff_getElem.1 (link_pairs hlk.1) (k - 1) k (by omega) (by omega) (by omega)
  simp only [linkLt,decide_eq_true_eq] at this
  omega
 have lst:∀ l∈K,l.a < (gt x.links (k:Int)).a∨l.a=(gt x.links (k:Int)).a∧l.b≤(gt x.links (k:Int)).b:=by
  intro l hl
  have h1:=h.last l hl
  have h2:=prev h1.1
  omega
 refine ⟨fun hc=>⟨h.asc,by have:=h.len;omega,h.zero,fun l hl=>⟨by omega,by rw [e];exact lst l hl⟩⟩,fun hc=>⟨?_,by have:=h.len;simp;omega,fun l hl=>?_,fun l hl=>⟨by omega,?_⟩⟩⟩
 ·refine asc_of (fun l hl'=>?_) ?_
  ·rcases List.mem_append.1 hl' with hl' | hl'
   ·exact asc_all h.asc l hl'
   ·rw [List.mem_singleton] at hl'
    subst hl'
    simp only [linkOk,Bool.and_eq_true,decide_eq_true_eq,inB_iff]
    omega
  ·rw [List.pairwise_append]
   refine ⟨link_pairs h.asc,List.pairwise_singleton _ _,fun a ha b hb=>?_⟩
   rw [List.mem_singleton] at hb
   subst hb
   have h1:=h.last a ha
   have h2:=prev h1.1
   have h3:¬ ((gt x.links ((k:Int) - 1)).a=(gt x.links (k:Int)).a∧(gt x.links ((k:Int) - 1)).b=(gt x.links (k:Int)).b):=fun h3=>hc ⟨h1.1,h3⟩
   simp only [linkLt,decide_eq_true_eq]
   omega
 ·rcases List.mem_append.1 hl with hl | hl
  ·exact h.zero l hl
  ·rw [List.mem_singleton] at hl;rw [hl]
 ·rw [e]
  rcases List.mem_append.1 hl with hl | hl
  ·exact lst l hl
  ·rw [List.mem_singleton] at hl;rw [hl];exact .inr ⟨rfl,Int.le_refl _⟩
theorem true_FnOnePlace (ts:List T) (h:WTs ys_FnOnePlace ts):F_FnOnePlace ts=some [.c (.bool true)]:=by
 obtain ⟨B,rfl,hB⟩:=dec_code ts h
 rw [g_FnOnePlace]
 by_cases hb:(B.length:Int) > 1048576
 ·simp (disch:=omega) only [↓pq,↓pj,ps,pz,↓reduceIte,reduceLE,reduceLT,reduceEq,reduceGT,reduceGE,reduceAdd,reduceSub,reduceMul,reduceNeg,G_FnOnePlace_l0,G_FnOnePlace_l1,G_FnOnePlace_l2,G_FnOnePlace_l3,G_FnOnePlace,e_big,hb,decide_true]
 obtain ⟨x,L,U,e,hx,hn2,ht,hL,hU⟩:=e_s_DrawRightNet hB (by omega)
 have hlk:=netOk_links hx
 have hn:=netOk_n hx
 have hal:=netOk_all hx
 simp (disch:=omega) only [↓pq,↓pj,ps,pz,↓reduceIte,reduceLE,reduceLT,reduceEq,reduceGT,reduceGE,reduceAdd,reduceSub,reduceMul,reduceNeg,G_FnOnePlace_l0,G_FnOnePlace_l1,G_FnOnePlace_l2,G_FnOnePlace_l3,G_FnOnePlace,e_big,hb,decide_false,Bool.false_eq_true,e]
 refine iter_post (fun o=>o=some [bb true]) (fun m s=>∃ (k:Nat) (K:List Link) (O:List Bool),s=[.l (O.map eBool),ii k,.l (K.map eLink)]∧k≤x.links.length∧O.length=K.length∧OneI x k K∧m=x.links.length - k) ?_ x.links.length [.l [],ii 0,.l []] rounds
  ⟨0,[],[],rfl,by omega,rfl,⟨rfl,by simp,by simp,by simp⟩,rfl⟩ (by unfold rounds;omega)
 rintro m s q ⟨k,K,O,rfl,hk,hO,hI,rfl⟩ hq
 by_cases hc:(k:Int) < x.links.length
 ·obtain ⟨st1,st2⟩:=hI.step hx hc
  have hKl:=hI.len
  have k1:(k:Int) < L.length:=by omega
  have hq:∀ (K:List Link) (O:List Bool),O.length=K.length→OneI x (k+1) K→q [.l (O.map eBool),ii (k+1),.l (K.map eLink)]=some [bb true]:=fun K O h1 h2=>hq (x.links.length - (k+1)) _ (by omega) ⟨k+1,K,O,by rw [cast_S],by omega,h1,h2,rfl⟩
  by_cases c0:(k:Int) > 0
  ·have k2:(k:Int) - 1 < x.links.length:=by omega
   by_cases c1:(gt x.links ((k:Int) - 1)).a=(gt x.links (k:Int)).a
   ·by_cases c2:(gt x.links ((k:Int) - 1)).b=(gt x.links (k:Int)).b
    ·simp (disch:=omega) only [↓pq,↓pj,ps,pz,↓reduceIte,reduceLE,reduceLT,reduceEq,reduceGT,reduceGE,reduceAdd,reduceSub,reduceMul,reduceNeg,G_FnOnePlace_l0,G_FnOnePlace_l1,G_FnOnePlace_l2,G_FnOnePlace_l3,G_FnOnePlace_l3,hc,c0,k2,c1,c2]
     exact hq K O hO (st1 ⟨by omega,c1,c2⟩)
    ·simp (disch:=omega) only [↓pq,↓pj,ps,pz,↓reduceIte,reduceLE,reduceLT,reduceEq,reduceGT,reduceGE,reduceAdd,reduceSub,reduceMul,reduceNeg,G_FnOnePlace_l0,G_FnOnePlace_l1,G_FnOnePlace_l2,G_FnOnePlace_l3,G_FnOnePlace_l3,hc,c0,k2,c1,c2,k1]
     exact hq _ _ (by simp [hO]) (st2 fun h=>c2 h.2.2)
   ·simp (disch:=omega) only [↓pq,↓pj,ps,pz,↓reduceIte,reduceLE,reduceLT,reduceEq,reduceGT,reduceGE,reduceAdd,reduceSub,reduceMul,reduceNeg,G_FnOnePlace_l0,G_FnOnePlace_l1,G_FnOnePlace_l2,G_FnOnePlace_l3,G_FnOnePlace_l3,hc,c0,k2,c1,k1]
    exact hq _ _ (by simp [hO]) (st2 fun h=>c1 h.2.1)
  ·simp (disch:=omega) only [↓pq,↓pj,ps,pz,↓reduceIte,reduceLE,reduceLT,reduceEq,reduceGT,reduceGE,reduceAdd,reduceSub,reduceMul,reduceNeg,G_FnOnePlace_l0,G_FnOnePlace_l1,G_FnOnePlace_l2,G_FnOnePlace_l3,G_FnOnePlace_l3,hc,c0,k1]
   exact hq _ _ (by simp [hO]) (st2 fun h=>c0 (by omega))
 ·have hyn:netOk ⟨x.n,K,x.things⟩=true:=by
   unfold netOk
   simp only [Bool.and_eq_true,decide_eq_true_eq,inB_iff]
   have:=hI.len
   exact ⟨⟨⟨⟨hn,by omega⟩,hal.2.2.1⟩,hI.asc⟩,hal.2.2.2.2⟩
  have hi:idealB ⟨x.n,K,x.things⟩ O U=true:=by unfold idealB;simp [hyn,hO,hU]
  have hKl:=hI.len
  have eI:=e_s_Ideal x.n K x.things O U (by omega) (by omega)
  rw [if_pos hi] at eI
  have fin:=fo_nodes (O:=O) (U:=U) hyn hI.zero hU
  simp (disch:=omega) only [↓pq,↓pj,ps,pz,↓reduceIte,reduceLE,reduceLT,reduceEq,reduceGT,reduceGE,reduceAdd,reduceSub,reduceMul,reduceNeg,G_FnOnePlace_l0,G_FnOnePlace_l1,G_FnOnePlace_l2,G_FnOnePlace_l3,G_FnOnePlace_l3,hc,eI]
  exact fin
end Go.Proofs.YtlofiplkmgmnfaaC

/- What the routes of a node are: the order they have. Conditions: none. -/
import Derived.Test.YtlofiplkmgmnfaaXSDf
namespace Go.Proofs.YtlofiplkmgmnfaaC
open Int (reduceLE reduceLT reduceEq reduceGT reduceGE reduceAdd reduceSub reduceMul reduceNeg)
set_option linter.unusedVariables false
set_option linter.unusedSimpArgs false
theorem jn_to {k:Sem1} {b:Sem1→Option (List T)} {l:List T} (h:∀ k',b k'=k' l):jn k b=k l:=h k
def RouteLt (a b:Route):Prop:=(a.thing=true→b.thing=true)∧(a.kind=b.kind→b.thing=false→a.to < b.to)∧(a.thing=b.thing→a.to≠b.to)
theorem thingR_some {s:List Rcd} {W:List Way} {k fr:Int} {r:Route} (h:thingR s W k fr=some r):r.thing=true∧r.to=k∧(r.kind=3∨r.kind=4):=by
 unfold thingR at h
 split at h
 ·cases h;exact ⟨rfl,rfl,.inl rfl⟩
 ·split at h
  ·cases h;exact ⟨rfl,rfl,.inr rfl⟩
  ·cases h
section
variable {s:List Rcd} {A:List Int} {z:Bool} {fr:Int}
theorem within_asc:(within s A fr).Pairwise fun a b=>a.to < b.to:=wlst_asc _ fun x hx=>(cand_ok x hx).2.1
theorem beyond_asc:(beyond s A z fr).Pairwise fun a b=>a.to < b.to:=wlst_asc _ fun x hx=>(beyondC_ok x hx).2.1
theorem routes_lt:(routesOf s A z fr).Pairwise RouteLt:=by
 unfold routesOf
 rw [List.pairwise_append,List.pairwise_append]
 refine ⟨⟨?_,?_,?_⟩,?_,?_⟩
 ·rw [List.pairwise_map]
  refine (within_asc.filter _).imp fun {a b} h=>⟨fun h=>(by cases h),fun _ _=>h,fun _=>by show a.to≠b.to;omega⟩
 ·rw [List.pairwise_map]
  refine beyond_asc.imp fun {a b} h=>⟨fun h=>(by cases h),fun _ _=>h,fun _=>by show a.to≠b.to;omega⟩
 ·intro a ha b hb
  obtain ⟨v,hv,rfl⟩:=List.mem_map.1 ha
  obtain ⟨w,hw,rfl⟩:=List.mem_map.1 hb
  refine ⟨fun h=>(by cases h),fun h=>absurd h (by show (1:Int)≠2;decide),fun _=>?_⟩
  show v.to≠w.to
  intro e
  have:=wayP_has (List.mem_filter.1 hv).1
  rw [e] at this
  exact this (beyond_ok hw).2.2.2.2
 ·rw [List.pairwise_filterMap]
  refine (upto_asc 9).imp fun {j k} h a ha b hb=>?_
  have h1:=thingR_some ha
  have h2:=thingR_some hb
  exact ⟨fun _=>h2.1,fun _ h=>(by rw [h2.1] at h;cases h),fun _=>by omega⟩
 ·intro a ha b hb
  obtain ⟨k,_,hb⟩:=List.mem_filterMap.1 hb
  have h2:=thingR_some hb
  rcases List.mem_append.1 ha with ha | ha
  ·obtain ⟨v,hv,rfl⟩:=List.mem_map.1 ha
   exact ⟨fun h=>(by cases h),fun _ h=>(by rw [h2.1] at h;cases h),fun h=>by rw [h2.1] at h;cases h⟩
  ·obtain ⟨v,hv,rfl⟩:=List.mem_map.1 ha
   exact ⟨fun h=>(by cases h),fun _ h=>(by rw [h2.1] at h;cases h),fun h=>by rw [h2.1] at h;cases h⟩
theorem route_of {r:Route} (h:r∈routesOf s A z fr) :
  (r.thing=false∧r.kind=1∧r.to≠fr∧∃ w∈within s A fr,w.to=r.to∧w.cost=r.cost∧w.hops=r.hops) ∨
  (r.thing=false∧r.kind=2∧r.to≠fr∧∃ w∈beyond s A z fr,w.to=r.to∧w.cost=r.cost∧w.hops=r.hops) ∨
  (r.thing=true∧(r.kind=3∨r.kind=4)∧thingR s (within s A fr++beyond s A z fr) r.to fr=some r):=by
 unfold routesOf at h
 rcases List.mem_append.1 h with h | h
 ·rcases List.mem_append.1 h with h | h
  ·obtain ⟨w,hw,rfl⟩:=List.mem_map.1 h
   obtain ⟨h1,h2⟩:=List.mem_filter.1 hw
   have h3:w.to≠fr:=by simpa using h2
   exact .inl ⟨rfl,rfl,h3,w,h1,rfl,rfl,rfl⟩
  ·obtain ⟨w,hw,rfl⟩:=List.mem_map.1 h
   exact .inr (.inl ⟨rfl,rfl,(beyond_ok hw).2.2.2.1,w,hw,rfl,rfl,rfl⟩)
 ·obtain ⟨k,_,hk⟩:=List.mem_filterMap.1 h
  have:=thingR_some hk
  refine .inr (.inr ⟨this.1,this.2.2,?_⟩)
  rw [this.2.1];exact hk
theorem within_at {w:Way} (h:w∈within s A fr):¬ wayP (within s A fr) w.to < 0∧gt (within s A fr) (wayP (within s A fr) w.to)=w:=by
 have h1:=wayP_has h
 obtain ⟨h2,h3⟩:=wayP_some h1
 exact ⟨h1,ways_one within_asc h2 h h3⟩
theorem beyond_at {w:Way} (h:w∈beyond s A z fr):¬ wayP (beyond s A z fr) w.to < 0∧gt (beyond s A z fr) (wayP (beyond s A z fr) w.to)=w:=by
 have h1:=wayP_has h
 obtain ⟨h2,h3⟩:=wayP_some h1
 exact ⟨h1,ways_one beyond_asc h2 h h3⟩
theorem within_not {w:Way} (h:w∈within s A fr):wayP (beyond s A z fr) w.to < 0:=by
 rcases Int.lt_or_le (wayP (beyond s A z fr) w.to) 0 with h0 | h0
 ·exact h0
 ·obtain ⟨h2,h3⟩:=wayP_some (W:=beyond s A z fr) (v:=w.to) (by omega)
  have:=(beyond_ok h2).2.2.2.2
  rw [h3] at this
  exact absurd this (wayP_has h)
end
theorem e_i_HopsTo (R:List Route) (th:Bool) (to:Int) (h:R.length≤1048576) (hh:∀ r∈R,r.hops.length≤1048576) :
  F_i_HopsTo [.l (R.map eRoute),bb th,ii to]=some [.l (((if findP (fun r=>r.thing == th && r.to == to) R < 0 then [] else (gt R (findP (fun r=>r.thing == th && r.to == to) R)).hops)).map eInt)]:=by
 rw [g_i_HopsTo];simp (disch:=omega) only [↓pq,↓pj,ps,pz,↓reduceIte,reduceLE,reduceLT,reduceEq,reduceGT,reduceGE,reduceAdd,reduceSub,reduceMul,reduceNeg,G_i_HopsTo_l0,G_i_HopsTo]
 refine (iter_findPx R (fun i=>[T.l [],ii i]) (fun r=>r.thing == th && r.to == to) (fun j=>some [T.l ((gt R j).hops.map eInt)]) (outN:=some [T.l []]) rfl (rounds_lt h) ?_ ?_).trans ?_
 ·intro i hi q
  have:=hh _ (gt_mem (n:=(i:Int)) (by omega) hi)
  have he:Prim.ev (.bb .eql) [bb (gt R (i:Int)).thing,bb th]=some (bb ((gt R (i:Int)).thing == th)):=by cases (gt R (i:Int)).thing <;> cases th <;> rfl
  cases hc:(gt R (i:Int)).thing == th with
  | true =>
   rw [hc] at he
   by_cases h2:(gt R (i:Int)).to=to
   ·simp (disch:=omega) only [↓pq,↓pj,ps,pz,↓reduceIte,reduceLE,reduceLT,reduceEq,reduceGT,reduceGE,reduceAdd,reduceSub,reduceMul,reduceNeg,G_i_HopsTo_l0,hi,he,h2,e_i_copyInts _ this]
    simp
   ·simp (disch:=omega) only [↓pq,↓pj,ps,pz,↓reduceIte,reduceLE,reduceLT,reduceEq,reduceGT,reduceGE,reduceAdd,reduceSub,reduceMul,reduceNeg,G_i_HopsTo_l0,hi,he,h2]
    simp [h2]
  | false =>
   rw [hc] at he
   simp (disch:=omega) only [↓pq,↓pj,ps,pz,↓reduceIte,reduceLE,reduceLT,reduceEq,reduceGT,reduceGE,reduceAdd,reduceSub,reduceMul,reduceNeg,G_i_HopsTo_l0,hi,he,Bool.false_eq_true]
   simp
 ·intro q
  simp (disch:=omega) only [↓pq,↓pj,ps,pz,↓reduceIte,reduceLE,reduceLT,reduceEq,reduceGT,reduceGE,reduceAdd,reduceSub,reduceMul,reduceNeg,G_i_HopsTo_l0,]
 ·split <;> rfl
theorem hops_found {R:List Route} (hp:R.Pairwise RouteLt) {r:Route} (hr:r∈R):(if findP (fun x:Route=>x.thing == r.thing && x.to == r.to) R < 0 then [] else (gt R (findP (fun x:Route=>x.thing == r.thing && x.to == r.to) R)).hops)=r.hops:=by
 have h1:0≤findP (fun x:Route=>x.thing == r.thing && x.to == r.to) R:=findP_has hr (by simp)
 rw [if_neg (by omega)]
 have h2:=findP_spec (fun x:Route=>x.thing == r.thing && x.to == r.to) R h1
 have h3:=gt_mem (l:=R) h1 (findP_lt _ _)
 generalize gt R (findP (fun x:Route=>x.thing == r.thing && x.to == r.to) R)=y at *
 simp only [Bool.and_eq_true,beq_iff_eq] at h2
 obtain ⟨i,hi,e1⟩:=List.mem_iff_getElem.1 hr
 obtain ⟨j,hj,e2⟩:=List.mem_iff_getElem.1 h3
 have hp:=List.pairwise_iff_getElem.1 hp
 rcases Nat.lt_trichotomy i j with hij | hij | hij
 ·have:=hp i j hi hj hij
  rw [e1,e2] at this
  exact absurd h2.2.symm (this.2.2 h2.1.symm)
 ·subst hij;rw [← e1,← e2]
 ·have:=hp j i hj hi hij
  rw [e1,e2] at this
  exact absurd h2.2 (this.2.2 h2.1)
end Go.Proofs.YtlofiplkmgmnfaaC

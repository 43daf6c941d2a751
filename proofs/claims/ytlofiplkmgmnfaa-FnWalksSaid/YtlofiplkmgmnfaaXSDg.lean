/- What the routes of a node are: the order they have. Conditions: none. -/
import Derived.Test.YtlofiplkmgmnfaaXSDf
namespace Go.Proofs.YtlofiplkmgmnfaaC
open Int (reduceLE reduceLT reduceEq reduceGT reduceGE reduceAdd reduceSub reduceMul reduceNeg)
set_option linter.unusedVariables false
set_option linter.unusedSimpArgs false
def RouteLt (a b:Route):Prop:=(a.thing=true→b.thing=true)∧(a.kind=b.kind→b.thing=false→a.to < b.to)∧(a.thing=b.thing→a.to≠b.to)
theorem thingR_some {s:List Rcd} {W:List Way} {k fr:Int} {r:Route} (h:thingR s W k fr=some r):r.thing=true∧r.to=k∧(r.kind=3∨r.kind=4):=by
 unfold thingR at h
 split at h
 ·cases h;exact ⟨rfl,rfl,.inl rfl⟩
 ·split at h
  ·cases h;exact ⟨rfl,rfl,.inr rfl⟩
  ·cases h
section
variable {s:List Rcd} {A:List Int} {z:Bool} {fr:Int}
theorem within_asc:(within s A fr).Pairwise fun a b=>a.to < b.to:=wlst_asc _ fun x hx=>(cand_ok x hx).2.1
theorem beyond_asc:(beyond s A z fr).Pairwise fun a b=>a.to < b.to:=wlst_asc _ fun x hx=>(beyondC_ok x hx).2.1
theorem routes_lt:(routesOf s A z fr).Pairwise RouteLt:=by
 unfold routesOf
 rw [List.pairwise_append,List.pairwise_append]
 refine ⟨⟨?_,?_,?_⟩,?_,?_⟩
 ·rw [List.pairwise_map]
  refine (within_asc.filter _).imp fun {a b} h=>⟨fun h=>(by cases h),fun _ _=>h,fun _=>by show a.to≠b.to;omega⟩
 ·rw [List.pairwise_map]
  refine beyond_asc.imp fun {a b} h=>⟨fun h=>(by cases h),fun _ _=>h,fun _=>by show a.to≠b.to;omega⟩
 ·intro a ha b hb
  obtain ⟨v,hv,rfl⟩:=List.mem_map.1 ha
  obtain ⟨w,hw,rfl⟩:=List.mem_map.1 hb
  refine ⟨fun h=>(by cases h),fun h=>absurd h (by show (1:Int)≠2;decide),fun _=>?_⟩
  show v.to≠w.to
  intro e
  have:=wayP_has (List.mem_filter.1 hv).1
  rw [e] at this
  exact this (beyond_ok hw).2.2.2.2
 ·rw [List.pairwise_filterMap]
  refine (upto_asc 9).imp fun {j k} h a ha b hb=>?_
  have h1:=thingR_some ha
  have h2:=thingR_some hb
  exact ⟨fun _=>h2.1,fun _ h=>(by rw [h2.1] at h;cases h),fun _=>by omega⟩
 ·intro a ha b hb
  obtain ⟨k,_,hb⟩:=List.mem_filterMap.1 hb
  have h2:=thingR_some hb
  rcases List.mem_append.1 ha with ha | ha
  ·obtain ⟨v,hv,rfl⟩:=List.mem_map.1 ha
   exact ⟨fun h=>(by cases h),fun _ h=>(by rw [h2.1] at h;cases h),fun h=>by rw [h2.1] at h;cases h⟩
  ·obtain ⟨v,hv,rfl⟩:=List.mem_map.1 ha
   exact ⟨fun h=>(by cases h),fun _ h=>(by rw [h2.1] at h;cases h),fun h=>by rw [h2.1] at h;cases h⟩
theorem route_of {r:Route} (h:r∈routesOf s A z fr) :
  (r.thing=false∧r.kind=1∧r.to≠fr∧∃ w∈within s A fr,w.to=r.to∧w.cost=r.cost∧w.hops=r.hops) ∨
  (r.thing=false∧r.kind=2∧r.to≠fr∧∃ w∈beyond s A z fr,w.to=r.to∧w.cost=r.cost∧w.hops=r.hops) ∨
  (r.thing=true∧(r.kind=3∨r.kind=4)∧thingR s (within s A fr++beyond s A z fr) r.to fr=some r):=by
 unfold routesOf at h
 rcases List.mem_append.1 h with h | h
 ·rcases List.mem_append.1 h with h | h
  ·obtain ⟨w,hw,rfl⟩:=List.mem_map.1 h
   obtain ⟨h1,h2⟩:=List.mem_filter.1 hw
   have h3:w.to≠fr:=by simpa using h2
   exact .inl ⟨rfl,rfl,h3,w,h1,rfl,rfl,rfl⟩
  ·obtain ⟨w,hw,rfl⟩:=List.mem_map.1 h
   exact .inr (.inl ⟨rfl,rfl,(beyond_ok hw).2.2.2.1,w,hw,rfl,rfl,rfl⟩)
 ·obtain ⟨k,_,hk⟩:=List.mem_filterMap.1 h
  have:=thingR_some hk
  refine .inr (.inr ⟨this.1,this.2.2,?_⟩)
  rw [this.2.1];exact hk
end
end Go.Proofs.YtlofiplkmgmnfaaC

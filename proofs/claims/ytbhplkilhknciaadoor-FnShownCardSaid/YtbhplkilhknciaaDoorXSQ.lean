/- The routes of a node. Conditions: none. -/
import Derived.Test.YtbhplkilhknciaaDoorXSP
namespace Go.Proofs.YtbhplkilhknciaaDoorC
set_option linter.unusedVariables false
set_option linter.unusedSimpArgs false
def CostO (o:Option Way):Prop:=∀ b,o=some b→0≤b.cost∧b.cost≤200000
def CostF (f:Option (Int × Way)):Prop:=∀ c b,f=some (c,b)→(0≤c∧c≤60000)∧0≤b.cost∧b.cost≤200000
theorem foldl_costO {s:List Rcd} (hs:storeOk s=true) {W:List Way} (hW:WaysG W) {key fr:Int} (l:List Rcd) (hl:∀ x∈l,x∈s) (o:Option Way) (ho:CostO o):CostO (l.foldl (stepN W key fr) o):=by
 induction l generalizing o with
 | nil=>exact ho
 | cons x l ih =>
  refine ih (fun y hy=>hl y (.tail _ hy)) _ ?_
  have hx:=rec_cost hs (hl x (.head _))
  unfold stepN
  split
  ·exact ho
  ·split
   ·exact ho
   ·rename_i w hw
    have hw:=ownW_ok hW (thC_some hw).2
    cases o with
    | none=>intro b hb;simp only [tog1] at hb;cases hb;show 0≤w.cost+x.cost∧w.cost+x.cost≤200000;omega
    | some b0 =>
     intro b hb;simp only [tog1] at hb;cases hb
     have:=ho b0 rfl
     rcases tog_cost b0 ⟨key,w.cost+x.cost,w.hops⟩ with e | e <;> rw [e]
     ·exact this
     ·show 0≤w.cost+x.cost∧w.cost+x.cost≤200000;omega
theorem foldl_costF {s:List Rcd} (hs:storeOk s=true) {W:List Way} (hW:WaysG W) {key fr:Int} (l:List Rcd) (hl:∀ x∈l,x∈s) (o:Option (Int × Way)) (ho:CostF o):CostF (l.foldl (stepF W key fr) o):=by
 induction l generalizing o with
 | nil=>exact ho
 | cons x l ih =>
  refine ih (fun y hy=>hl y (.tail _ hy)) _ ?_
  have hx:=rec_cost hs (hl x (.head _))
  unfold stepF
  split
  ·split
   ·exact ho
   ·rename_i w hw
    have hw:=ownW_ok hW (thC_some hw).2
    intro c b hb
    unfold far1 at hb
    split at hb
    ·cases hb;exact ⟨hx,by show 0≤w.cost∧w.cost≤200000;omega⟩
    ·rename_i l0 b0
     have h0:=ho l0 b0 rfl
     split at hb
     ·cases hb
      refine ⟨h0.1,?_⟩
      rcases tog_cost b0 ⟨key,w.cost,w.hops⟩ with e | e <;> rw [e]
      ·exact h0.2
      ·show 0≤w.cost∧w.cost≤200000;omega
     ·split at hb
      ·cases hb;exact ⟨hx,by show 0≤w.cost∧w.cost≤200000;omega⟩
      ·cases hb;exact h0
  ·exact ho
theorem hops_okI {l:List Int} (h:HopsOk l):l.length≤maxLen∧∀ y∈l,OkInt y:=⟨by have:=hops_len h;unfold maxLen;omega,fun y hy=>I64.mk (by have:=h.2 y hy;omega) (by have:=h.2 y hy;omega)⟩
theorem okRoute_mk {t:Bool} {to kind cost far:Int} {hops:List Int} (h1:0≤to∧to≤9) (h2:0≤kind∧kind≤4) (h3:0≤cost∧cost≤200000) (h4:0≤far∧far≤60000) (h5:HopsOk hops):OkRoute ⟨t,to,kind,cost,far,hops⟩∧hops.length≤6 :=
 ⟨⟨I64.mk (by show _≤to;omega) (by show to < _;omega),I64.mk (by show _≤kind;omega) (by show kind < _;omega),I64.mk (by show _≤cost;omega) (by show cost < _;omega),I64.mk (by show _≤far;omega) (by show far < _;omega),hops_okI h5⟩,hops_len h5⟩
theorem routesOf_len (s:List Rcd) (A:List Int) (z:Bool) (fr:Int):(routesOf s A z fr).length≤21:=by
 unfold routesOf
 have h1:=List.length_filter_le (fun w:Way=>!(w.to == fr)) (within s A fr)
 have h2:=within_len (s:=s) (A:=A) (fr:=fr)
 have h3:=beyond_len (s:=s) (A:=A) (z:=z) (fr:=fr)
 have h4:=List.length_filterMap_le (fun k=>thingR s (within s A fr++beyond s A z fr) k fr) (upto 9)
 have h5:(upto 9).length=9:=rfl
 simp only [List.length_append,List.length_map]
 omega
theorem routesOf_ok {s:List Rcd} (hs:storeOk s=true) {A:List Int} {z:Bool} {fr:Int}:∀ r∈routesOf s A z fr,OkRoute r∧r.hops.length≤6:=by
 intro r hr
 have hW:WaysG (within s A fr++beyond s A z fr):=WaysG.app (Nat.le_trans within_len (by omega)) (Nat.le_trans beyond_len (by omega)) withinG beyondG
 unfold routesOf at hr
 rcases List.mem_append.1 hr with hr | hr
 ·rcases List.mem_append.1 hr with hr | hr
  ·obtain ⟨w,hw,rfl⟩:=List.mem_map.1 hr
   have:=within_ok (List.mem_filter.1 hw).1
   exact okRoute_mk (by omega) (by omega) (by omega) (by omega) this.2.1
  ·obtain ⟨w,hw,rfl⟩:=List.mem_map.1 hr
   have:=beyond_ok hw
   exact okRoute_mk (by omega) (by omega) (by omega) (by omega) this.2.1
 ·obtain ⟨k,hk,e⟩:=List.mem_filterMap.1 hr
  have hk:=mem_upto.1 hk
  unfold thingR at e
  split at e
  ·rename_i b hb
   cases e
   have h1:HopsOk b.hops:=foldl_okO hW s none (by intro b hb;(cases hb)) b hb
   have h2:=foldl_costO hs hW s (fun _ h=>h) none (by intro b hb;(cases hb)) b hb
   exact okRoute_mk (by omega) (by omega) (by omega) (by omega) h1
  ·split at e
   ·rename_i c b hb
    cases e
    have h1:HopsOk b.hops:=foldl_okF hW s none (by intro c b hb;(cases hb)) c b hb
    have h2:=foldl_costF hs hW s (fun _ h=>h) none (by intro c b hb;(cases hb)) c b hb
    exact okRoute_mk (by omega) (by omega) (by omega) (by omega) h1
   ·cases e
end Go.Proofs.YtbhplkilhknciaaDoorC

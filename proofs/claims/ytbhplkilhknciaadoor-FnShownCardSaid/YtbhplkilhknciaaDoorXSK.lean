/- Ways put together: of each node the best. Conditions: none. -/
import Derived.Test.YtbhplkilhknciaaDoorXSJ
namespace Go.Proofs.YtbhplkilhknciaaDoorC
set_option linter.unusedVariables false
set_option linter.unusedSimpArgs false
def tog1 (o:Option Way) (w:Way):Option Way:=match o with | none=>some w | some b=>some (tog b w)
def togs (l:List Way):Option Way:=l.foldl tog1 none
theorem togs_snoc (l:List Way) (w:Way):togs (l++[w])=tog1 (togs l) w:=by simp [togs]
def Best (l:List Way) (b:Way):Prop:=HopsOk b.hops∧(∃ x∈l,x.cost=b.cost)∧(∀ x∈l,b.cost≤x.cost)∧∀ h,h∈b.hops↔∃ x∈l,x.cost=b.cost∧h∈x.hops
theorem tog_best {l:List Way} {b w:Way} (hl:∀ x∈l,HopsOk x.hops) (hw:HopsOk w.hops) (h:Best l b):Best (l++[w]) (tog b w):=by
 obtain ⟨h1,⟨x0,hx0,hx1⟩,h3,h4⟩:=h
 unfold tog
 by_cases q1:w.cost > b.cost
 ·rw [if_pos q1]
  refine ⟨h1,⟨x0,by simp [hx0],hx1⟩,fun x hx=>?_,fun h=>?_⟩
  ·rcases List.mem_append.1 hx with hx | hx
   ·exact h3 x hx
   ·rw [List.mem_singleton] at hx;subst hx;omega
  ·rw [h4]
   constructor
   ·rintro ⟨x,hx,e1,e2⟩;exact ⟨x,by simp [hx],e1,e2⟩
   ·rintro ⟨x,hx,e1,e2⟩
    rcases List.mem_append.1 hx with hx | hx
    ·exact ⟨x,hx,e1,e2⟩
    ·rw [List.mem_singleton] at hx;subst hx;omega
 rw [if_neg q1]
 by_cases q2:b.cost > w.cost
 ·rw [if_pos q2]
  refine ⟨hw,⟨w,by simp,rfl⟩,fun x hx=>?_,fun h=>?_⟩
  ·rcases List.mem_append.1 hx with hx | hx
   ·have:=h3 x hx;omega
   ·rw [List.mem_singleton] at hx;subst hx;omega
  ·constructor
   ·intro hh;exact ⟨w,by simp,rfl,hh⟩
   ·rintro ⟨x,hx,e1,e2⟩
    rcases List.mem_append.1 hx with hx | hx
    ·have:=h3 x hx;omega
    ·rw [List.mem_singleton] at hx;subst hx;exact e2
 rw [if_neg q2]
 have he:w.cost=b.cost:=by omega
 refine ⟨uni_ok _ _,⟨x0,by simp [hx0],hx1⟩,fun x hx=>?_,fun h=>?_⟩
 ·rcases List.mem_append.1 hx with hx | hx
  ·exact h3 x hx
  ·rw [List.mem_singleton] at hx;subst hx;show b.cost≤_;omega
 ·show h∈uni b.hops w.hops↔_
  rw [mem_uni]
  constructor
  ·rintro ⟨_,hh | hh⟩
   ·obtain ⟨x,hx,e1,e2⟩:=(h4 h).1 hh
    exact ⟨x,by simp [hx],e1,e2⟩
   ·exact ⟨w,by simp,he,hh⟩
  ·rintro ⟨x,hx,e1,e2⟩
   rcases List.mem_append.1 hx with hx | hx
   ·exact ⟨(hl x hx).2 h e2,.inl ((h4 h).2 ⟨x,hx,e1,e2⟩)⟩
   ·rw [List.mem_singleton] at hx;subst hx
    exact ⟨hw.2 h e2,.inr e2⟩
theorem togs_best {v:Int}:∀ (n:Nat) (l:List Way),l.length=n→(∀ x∈l,x.to=v∧HopsOk x.hops)→(l=[]∧togs l=none)∨∃ b,togs l=some b∧b.to=v∧Best l b:=by
 intro n
 induction n with
 | zero=>intro l hl _;exact .inl ⟨List.eq_nil_of_length_eq_zero hl,by rw [List.eq_nil_of_length_eq_zero hl];rfl⟩
 | succ n ih =>
  intro l hl hx
  right
  obtain ⟨l',w,rfl⟩:∃ l' w,l=l'++[w]:=⟨l.dropLast,l.getLast (by intro e;subst e;simp at hl),(List.dropLast_concat_getLast _).symm⟩
  have hw:=hx w (by simp)
  rw [togs_snoc]
  rcases ih l' (by simpa using hl) (fun x h=>hx x (by simp [h])) with ⟨rfl,e⟩ | ⟨b,e,hb,hB⟩
  ·rw [e]
   exact ⟨w,rfl,hw.1,hw.2,⟨w,by simp,rfl⟩,by simp,fun h=>by simp⟩
  ·rw [e]
   exact ⟨tog b w,rfl,tog_to hb hw.1,tog_best (fun x h=>(hx x (by simp [h])).2) hw.2 hB⟩
theorem togs_ext {v:Int} {l l':List Way} (h:∀ x∈l,x.to=v∧HopsOk x.hops) (h':∀ x,x∈l↔x∈l'):togs l=togs l':=by
 have hl':∀ x∈l',x.to=v∧HopsOk x.hops:=fun x hx=>h x ((h' x).2 hx)
 rcases togs_best _ l rfl h with ⟨e,e1⟩ | ⟨b,e1,hb,B⟩
 ·rcases togs_best _ l' rfl hl' with ⟨e',e2⟩ | ⟨b',_,_,B'⟩
  ·rw [e1,e2]
  ·obtain ⟨x,hx,_⟩:=B'.2.1
   have:=(h' x).2 hx
   rw [e] at this;cases this
 ·rcases togs_best _ l' rfl hl' with ⟨e',e2⟩ | ⟨b',e2,hb',B'⟩
  ·obtain ⟨x,hx,_⟩:=B.2.1
   have:=(h' x).1 hx
   rw [e'] at this;cases this
  ·have hc:b.cost=b'.cost:=by
    obtain ⟨x,hx,ex⟩:=B.2.1
    obtain ⟨y,hy,ey⟩:=B'.2.1
    have h1:=B'.2.2.1 x ((h' x).1 hx)
    have h2:=B.2.2.1 y ((h' y).2 hy)
    omega
   have hh:b.hops=b'.hops:=asc_ext B.1.1 B'.1.1 fun h=>by
    rw [B.2.2.2,B'.2.2.2,hc]
    exact ⟨fun ⟨x,hx,q⟩=>⟨x,(h' x).1 hx,q⟩,fun ⟨x,hx,q⟩=>⟨x,(h' x).2 hx,q⟩⟩
   rw [e1,e2]
   congr 1
   cases b;cases b'
   simp only at hc hh hb hb'
   subst hc hh hb hb'
   rfl
def wlst (C:List Way):List Way:=six.filterMap fun v=>togs (C.filter fun w=>w.to == v)
theorem wlst_mem {C:List Way} (hC:∀ x∈C,HopsOk x.hops) {x:Way}:x∈wlst C↔(1≤x.to∧x.to≤6)∧togs (C.filter fun w=>w.to == x.to)=some x:=by
 unfold wlst
 rw [List.mem_filterMap]
 constructor
 ·rintro ⟨v,hv,e⟩
  have hv:=mem_six.1 hv
  rcases togs_best (v:=v) _ (C.filter fun w=>w.to == v) rfl (fun y hy=>by have:=List.mem_filter.1 hy;exact ⟨by simpa using this.2,hC y this.1⟩) with ⟨_,e1⟩ | ⟨b,e1,hb,_⟩
  ·rw [e1] at e;cases e
  ·rw [e1] at e;cases e
   subst hb
   exact ⟨hv,e1⟩
 ·rintro ⟨h1,h2⟩
  exact ⟨x.to,mem_six.2 h1,h2⟩
theorem wlst_len (C:List Way):(wlst C).length≤6:=by
 unfold wlst
 exact List.length_filterMap_le _ _
theorem wlst_hops {C:List Way} (hC:∀ x∈C,HopsOk x.hops) {x:Way} (hx:x∈wlst C):HopsOk x.hops∧∃ y∈C,y.to=x.to∧y.cost=x.cost:=by
 have hm:=(wlst_mem hC).1 hx
 rcases togs_best (v:=x.to) _ (C.filter fun w=>w.to == x.to) rfl (fun y hy=>by have:=List.mem_filter.1 hy;exact ⟨by simpa using this.2,hC y this.1⟩) with ⟨_,e1⟩ | ⟨b,e1,hb,B⟩
 ·rw [e1] at hm;cases hm.2
 ·rw [e1] at hm;cases hm.2
  obtain ⟨y,hy,e⟩:=B.2.1
  have:=List.mem_filter.1 hy
  exact ⟨B.1,y,this.1,by simpa using this.2,e⟩
end Go.Proofs.YtbhplkilhknciaaDoorC

/- Ways put together: of each node the best. Conditions: none. -/
import Derived.Test.YtjimmglpkndemaaGreatXSJ
namespace Go.Proofs.YtjimmglpkndemaaGreatC
set_option linter.unusedVariables false
set_option linter.unusedSimpArgs false
theorem alv_ {α:Type} (key:α→Int):∀ {a b:List α},a.Pairwise (fun x y=>key x < key y)→b.Pairwise (fun x y=>key x < key y)→(∀ x,x∈a↔x∈b)→a=b
 | [],[],_,_,_=>rfl
 | [],y :: b,_,_,h=>absurd ((h y).2 (.head _)) (by simp)
 | x :: a,[],_,_,h=>absurd ((h x).1 (.head _)) (by simp)
 | x :: a,y :: b,ha,hb,h=>by
  have ha':=List.pairwise_cons.1 ha
  have hb':=List.pairwise_cons.1 hb
  have hxy:x=y:=by
   rcases List.mem_cons.1 ((h x).1 (.head _)) with e | e
   ·exact e
   ·rcases List.mem_cons.1 ((h y).2 (.head _)) with e' | e'
    ·exact e'.symm
    ·have:=hb'.1 x e;have:=ha'.1 y e';omega
  subst hxy
  have:a=b:=alv_ key ha'.2 hb'.2 fun z=>by
   constructor
   ·intro hz
    rcases List.mem_cons.1 ((h z).1 (.tail _ hz)) with e | e
    ·subst e;have:=ha'.1 z hz;omega
    ·exact e
   ·intro hz
    rcases List.mem_cons.1 ((h z).2 (.tail _ hz)) with e | e
    ·subst e;have:=hb'.1 z hz;omega
    ·exact e
  rw [this]
def tog1 (o:Option Way) (w:Way):Option Way:=match o with | none=>some w | some b=>some (tog b w)
def togs (l:List Way):Option Way:=l.foldl tog1 none
theorem adh_ (l:List Way) (w:Way):togs (l++[w])=tog1 (togs l) w:=by simp [togs]
def Best (l:List Way) (b:Way):Prop:=zs_ b.hops∧(∃ x∈l,x.cost=b.cost)∧(∀ x∈l,b.cost≤x.cost)∧∀ h,h∈b.hops↔∃ x∈l,x.cost=b.cost∧h∈x.hops
theorem aJm_ {l:List Way} {b w:Way} (hl:∀ x∈l,zs_ x.hops) (hw:zs_ w.hops) (h:Best l b):Best (l++[w]) (tog b w):=by
 obtain ⟨h1,⟨x0,hx0,hx1⟩,h3,h4⟩:=h
 unfold tog
 by_cases q1:w.cost > b.cost
 ·rw [if_pos q1]
  refine ⟨h1,⟨x0,by simp [hx0],hx1⟩,fun x hx=>?_,fun h=>?_⟩
  ·rcases List.mem_append.1 hx with hx | hx
   ·exact h3 x hx
   ·rw [List.mem_singleton] at hx;subst hx;omega
  ·rw [h4]
   constructor
   ·rintro ⟨x,hx,e1,e2⟩;exact ⟨x,by simp [hx],e1,e2⟩
   ·rintro ⟨x,hx,e1,e2⟩
    rcases List.mem_append.1 hx with hx | hx
    ·exact ⟨x,hx,e1,e2⟩
    ·rw [List.mem_singleton] at hx;subst hx;omega
 rw [if_neg q1]
 by_cases q2:b.cost > w.cost
 ·rw [if_pos q2]
  refine ⟨hw,⟨w,by simp,rfl⟩,fun x hx=>?_,fun h=>?_⟩
  ·rcases List.mem_append.1 hx with hx | hx
   ·have:=h3 x hx;omega
   ·rw [List.mem_singleton] at hx;subst hx;omega
  ·constructor
   ·intro hh;exact ⟨w,by simp,rfl,hh⟩
   ·rintro ⟨x,hx,e1,e2⟩
    rcases List.mem_append.1 hx with hx | hx
    ·have:=h3 x hx;omega
    ·rw [List.mem_singleton] at hx;subst hx;exact e2
 rw [if_neg q2]
 have he:w.cost=b.cost:=by omega
 refine ⟨am6_ _ _,⟨x0,by simp [hx0],hx1⟩,fun x hx=>?_,fun h=>?_⟩
 ·rcases List.mem_append.1 hx with hx | hx
  ·exact h3 x hx
  ·rw [List.mem_singleton] at hx;subst hx;show b.cost≤_;omega
 ·show h∈uni b.hops w.hops↔_
  rw [akn_]
  constructor
  ·rintro ⟨_,hh | hh⟩
   ·obtain ⟨x,hx,e1,e2⟩:=(h4 h).1 hh
    exact ⟨x,by simp [hx],e1,e2⟩
   ·exact ⟨w,by simp,he,hh⟩
  ·rintro ⟨x,hx,e1,e2⟩
   rcases List.mem_append.1 hx with hx | hx
   ·exact ⟨(hl x hx).2 h e2,.inl ((h4 h).2 ⟨x,hx,e1,e2⟩)⟩
   ·rw [List.mem_singleton] at hx;subst hx
    exact ⟨hw.2 h e2,.inr e2⟩
theorem uy_ {v:Int}:∀ (n:Nat) (l:List Way),l.length=n→(∀ x∈l,x.to=v∧zs_ x.hops)→(l=[]∧togs l=none)∨∃ b,togs l=some b∧b.to=v∧Best l b:=by
 intro n
 induction n with
 | zero=>intro l hl _;exact .inl ⟨List.eq_nil_of_length_eq_zero hl,by rw [List.eq_nil_of_length_eq_zero hl];rfl⟩
 | succ n ih =>
  intro l hl hx
  right
  obtain ⟨l',w,rfl⟩:∃ l' w,l=l'++[w]:=⟨l.dropLast,l.getLast (by intro e;subst e;simp at hl),(List.dropLast_concat_getLast _).symm⟩
  have hw:=hx w (by simp)
  rw [adh_]
  rcases ih l' (by simpa using hl) (fun x h=>hx x (by simp [h])) with ⟨rfl,e⟩ | ⟨b,e,hb,hB⟩
  ·rw [e]
   exact ⟨w,rfl,hw.1,hw.2,⟨w,by simp,rfl⟩,by simp,fun h=>by simp⟩
  ·rw [e]
   exact ⟨tog b w,rfl,acj_ hb hw.1,aJm_ (fun x h=>(hx x (by simp [h])).2) hw.2 hB⟩
theorem atw_ {v:Int} {l l':List Way} (h:∀ x∈l,x.to=v∧zs_ x.hops) (h':∀ x,x∈l↔x∈l'):togs l=togs l':=by
 have hl':∀ x∈l',x.to=v∧zs_ x.hops:=fun x hx=>h x ((h' x).2 hx)
 rcases uy_ _ l rfl h with ⟨e,e1⟩ | ⟨b,e1,hb,B⟩
 ·rcases uy_ _ l' rfl hl' with ⟨e',e2⟩ | ⟨b',_,_,B'⟩
  ·rw [e1,e2]
  ·obtain ⟨x,hx,_⟩:=B'.2.1
   have:=(h' x).2 hx
   rw [e] at this;cases this
 ·rcases uy_ _ l' rfl hl' with ⟨e',e2⟩ | ⟨b',e2,hb',B'⟩
  ·obtain ⟨x,hx,_⟩:=B.2.1
   have:=(h' x).1 hx
   rw [e'] at this;cases this
  ·have hc:b.cost=b'.cost:=by
    obtain ⟨x,hx,ex⟩:=B.2.1
    obtain ⟨y,hy,ey⟩:=B'.2.1
    have h1:=B'.2.2.1 x ((h' x).1 hx)
    have h2:=B.2.2.1 y ((h' y).2 hy)
    omega
   have hh:b.hops=b'.hops:=qD_ B.1.1 B'.1.1 fun h=>by
    rw [B.2.2.2,B'.2.2.2,hc]
    exact ⟨fun ⟨x,hx,q⟩=>⟨x,(h' x).1 hx,q⟩,fun ⟨x,hx,q⟩=>⟨x,(h' x).2 hx,q⟩⟩
   rw [e1,e2]
   congr 1
   cases b;cases b'
   simp only at hc hh hb hb'
   subst hc hh hb hb'
   rfl
def wlst (C:List Way):List Way:=six.filterMap fun v=>togs (C.filter fun w=>w.to == v)
theorem uH_ {C:List Way} (hC:∀ x∈C,zs_ x.hops) {x:Way}:x∈wlst C↔(1≤x.to∧x.to≤6)∧togs (C.filter fun w=>w.to == x.to)=some x:=by
 unfold wlst
 rw [List.mem_filterMap]
 constructor
 ·rintro ⟨v,hv,e⟩
  have hv:=mem_six.1 hv
  rcases uy_ (v:=v) _ (C.filter fun w=>w.to == v) rfl (fun y hy=>by have:=List.mem_filter.1 hy;exact ⟨by simpa using this.2,hC y this.1⟩) with ⟨_,e1⟩ | ⟨b,e1,hb,_⟩
  ·rw [e1] at e;cases e
  ·rw [e1] at e;cases e
   subst hb
   exact ⟨hv,e1⟩
 ·rintro ⟨h1,h2⟩
  exact ⟨x.to,mem_six.2 h1,h2⟩
theorem abt_ (C:List Way) (hC:∀ x∈C,zs_ x.hops):(wlst C).Pairwise fun a b=>a.to < b.to:=by
 unfold wlst
 rw [List.pairwise_filterMap]
 refine six_asc.imp fun {a b} hab x hx y hy=>?_
 have key:∀ (v:Int) (z:Way),togs (C.filter fun w=>w.to == v)=some z→z.to=v:=by
  intro v z hz
  rcases uy_ (v:=v) _ (C.filter fun w=>w.to == v) rfl (fun y hy=>by have:=List.mem_filter.1 hy;exact ⟨by simpa using this.2,hC y this.1⟩) with ⟨_,e1⟩ | ⟨b,e1,hb,_⟩
  ·rw [e1] at hz;cases hz
  ·rw [e1] at hz;cases hz;exact hb
 rw [key a x hx,key b y hy]
 exact hab
theorem abm_ (C:List Way):(wlst C).length≤6:=by
 unfold wlst
 exact List.length_filterMap_le _ _
theorem jI_ {C:List Way} (hC:∀ x∈C,zs_ x.hops) {x:Way} (hx:x∈wlst C):zs_ x.hops∧∃ y∈C,y.to=x.to∧y.cost=x.cost:=by
 have hm:=(uH_ hC).1 hx
 rcases uy_ (v:=x.to) _ (C.filter fun w=>w.to == x.to) rfl (fun y hy=>by have:=List.mem_filter.1 hy;exact ⟨by simpa using this.2,hC y this.1⟩) with ⟨_,e1⟩ | ⟨b,e1,hb,B⟩
 ·rw [e1] at hm;cases hm.2
 ·rw [e1] at hm;cases hm.2
  obtain ⟨y,hy,e⟩:=B.2.1
  have:=List.mem_filter.1 hy
  exact ⟨B.1,y,this.1,by simpa using this.2,e⟩
def cntW (l:List Way) (n:Int):Nat:=(l.filter (fun x=>decide (x.to < n))).length
theorem akw_ (l:List Way) (n:Int):cntW l n≤l.length:=List.length_filter_le _ _
theorem aau_ {l:List Way} (h:l.Pairwise fun a b=>a.to < b.to) (n:Int):∀ i,(hi:i < l.length)→(l[i].to < n↔i < cntW l n):=by
 induction l with
 | nil=>simp
 | cons x c ih =>
  have hs:=List.pairwise_cons.1 h
  have i3:=ih hs.2
  by_cases hx:x.to < n
  ·have e:cntW (x :: c) n=cntW c n+1:=by simp [cntW,List.filter_cons,hx]
   rw [e]
   intro i hi
   cases i with
   | zero=>simp [hx]
   | succ i=>rw [List.getElem_cons_succ,i3 i (by simpa using hi)];omega
  ·have e1:(x :: c).filter (fun x=>decide (x.to < n))=[]:=by
    rw [List.filter_eq_nil_iff]
    intro y hy
    rcases List.mem_cons.1 hy with rfl | hy
    ·simp;omega
    ·have:=hs.1 y hy;simp;omega
   have e:cntW (x :: c) n=0:=by unfold cntW;rw [e1];rfl
   rw [e]
   intro i hi
   refine ⟨fun h3=>?_,fun h3=>absurd h3 (by omega)⟩
   cases i with
   | zero=>rw [List.getElem_cons_zero] at h3;omega
   | succ i =>
    rw [List.getElem_cons_succ] at h3
    have:=hs.1 _ (List.getElem_mem (by simpa using hi:i < c.length));omega
def aax_ (l:List Way) (w:Way):List Way :=
 if cntW l w.to < l.length∧(gt l (cntW l w.to:Nat)).to=w.to then l.set (cntW l w.to) (tog (gt l (cntW l w.to:Nat)) w)
 else l.take (cntW l w.to)++([w]++l.drop (cntW l w.to))
theorem ang_ {C:List Way} (hC:∀ x∈C,zs_ x.hops) {w:Way} (hw:1≤w.to∧w.to≤6) (hh:zs_ w.hops):aax_ (wlst C) w=wlst (C++[w]):=by
 have hC':∀ x∈C++[w],zs_ x.hops:=fun x hx=>by
  rcases List.mem_append.1 hx with hx | hx
  ·exact hC x hx
  ·rw [List.mem_singleton] at hx;subst hx;exact hh
 have hasc:=abt_ C hC
 have hsp:=aau_ hasc w.to
 have hle:=akw_ (wlst C) w.to
 have hpw:=List.pairwise_iff_getElem.1 hasc
 have hf:∀ v:Int,(C++[w]).filter (fun x=>x.to == v)=C.filter (fun x=>x.to == v)++if w.to=v then [w] else []:=by
  intro v
  rw [List.filter_append,List.filter_cons]
  by_cases e:w.to=v <;> simp [e]
 refine alv_ Way.to ?_ (abt_ _ hC') fun x=>?_
 ·unfold aax_
  split
  ·rename_i hc
   rw [List.pairwise_iff_getElem]
   intro i j hi hj hij
   simp only [List.length_set] at hi hj
   have hto:(tog (gt (wlst C) (cntW (wlst C) w.to:Nat)) w).to=(wlst C)[cntW (wlst C) w.to].to:=by
    rw [acj_ (n:=w.to) hc.2 rfl,← zm_ hc.1,hc.2]
   simp only [List.getElem_set]
   have hget:∀ k (hk:k < (wlst C).length),(if cntW (wlst C) w.to=k then tog (gt (wlst C) (cntW (wlst C) w.to:Nat)) w else (wlst C)[k]).to=(wlst C)[k].to:=by
    intro k hk
    split
    ·rename_i e;subst e;exact hto
    ·rfl
   rw [hget i hi,hget j hj]
   exact hpw i j hi hj hij
  ·rename_i hc
   rw [List.pairwise_append]
   refine ⟨hasc.sublist (List.take_sublist _ _),?_,?_⟩
   ·rw [List.singleton_append,List.pairwise_cons]
    refine ⟨fun y hy=>?_,hasc.sublist (List.drop_sublist _ _)⟩
    obtain ⟨i,hi,rfl⟩:=List.mem_iff_getElem.1 hy
    rw [List.getElem_drop]
    simp only [List.length_drop] at hi
    have h1:=mt (hsp (cntW (wlst C) w.to) (by omega)).1 (by omega)
    have h2:¬ ((wlst C)[cntW (wlst C) w.to].to=w.to):=fun e=>hc ⟨by omega,by rw [zm_ (by omega)];exact e⟩
    rcases Nat.eq_zero_or_pos i with rfl | h3
    ·show w.to < (wlst C)[cntW (wlst C) w.to].to;omega
    ·have:=hpw (cntW (wlst C) w.to) (cntW (wlst C) w.to+i) (by omega) (by omega) (by omega);omega
   ·intro a ha b hb
    obtain ⟨i,hi,rfl⟩:=List.mem_iff_getElem.1 ha
    rw [List.getElem_take]
    simp only [List.length_take] at hi
    have h1:=(hsp i (by omega)).2 (by omega)
    rcases List.mem_append.1 hb with hb | hb
    ·rw [List.mem_singleton] at hb;subst hb;exact h1
    ·obtain ⟨j,hj,rfl⟩:=List.mem_iff_getElem.1 hb
     rw [List.getElem_drop]
     simp only [List.length_drop] at hj
     exact hpw i _ (by omega) (by omega) (by omega)
 ·rw [uH_ hC',hf]
  unfold aax_
  by_cases hc:cntW (wlst C) w.to < (wlst C).length∧(gt (wlst C) (cntW (wlst C) w.to:Nat)).to=w.to
  ·rw [if_pos hc]
   have hold:gt (wlst C) (cntW (wlst C) w.to:Nat)∈wlst C:=zS_ (by omega) (by omega)
   have ho:=(uH_ hC).1 hold
   rw [hc.2] at ho
   have hnew:togs (C.filter (fun x=>x.to == w.to)++[w])=some (tog (gt (wlst C) (cntW (wlst C) w.to:Nat)) w):=by rw [adh_,ho.2];rfl
   have hnt:(tog (gt (wlst C) (cntW (wlst C) w.to:Nat)) w).to=w.to:=acj_ hc.2 rfl
   constructor
   ·intro hx
    obtain ⟨i,hi,rfl⟩:=List.mem_iff_getElem.1 hx
    rw [List.length_set] at hi
    rw [List.getElem_set]
    by_cases e:cntW (wlst C) w.to=i
    ·rw [if_pos e,hnt,if_pos rfl]
     exact ⟨hw,hnew⟩
    ·rw [if_neg e]
     have hne:¬ (w.to=(wlst C)[i].to):=by
      rw [← hc.2,zm_ hc.1]
      rcases Nat.lt_or_gt_of_ne e with h | h
      ·have:=hpw _ _ hc.1 hi h;omega
      ·have:=hpw _ _ hi hc.1 h;omega
     rw [if_neg hne,List.append_nil]
     exact (uH_ hC).1 (List.getElem_mem hi)
   ·rintro ⟨h1,h2⟩
    by_cases e:w.to=x.to
    ·rw [if_pos e,← e,hnew] at h2
     cases h2
     exact List.mem_set hc.1 _
    ·rw [if_neg e,List.append_nil] at h2
     have hx:=(uH_ hC).2 ⟨h1,h2⟩
     obtain ⟨i,hi,rfl⟩:=List.mem_iff_getElem.1 hx
     rw [List.mem_iff_getElem]
     refine ⟨i,by simpa using hi,?_⟩
     rw [List.getElem_set,if_neg]
     rintro rfl
     rw [zm_ hi] at hc
     exact e hc.2.symm
  ·rw [if_neg hc]
   have hno:∀ y∈wlst C,y.to≠w.to:=by
    intro y hy e
    obtain ⟨i,hi,rfl⟩:=List.mem_iff_getElem.1 hy
    have h1:=mt (hsp i hi).2 (by omega)
    have h2:cntW (wlst C) w.to < (wlst C).length:=by omega
    have h3:=mt (hsp _ h2).1 (by omega)
    have h4:¬ ((wlst C)[cntW (wlst C) w.to].to=w.to):=fun e'=>hc ⟨h2,by rw [zm_ h2];exact e'⟩
    rcases Nat.eq_or_lt_of_le (show cntW (wlst C) w.to≤i by
     rcases Nat.lt_or_ge i (cntW (wlst C) w.to) with h5 | h5
     ·have:=(hsp i hi).2 h5;omega
     ·exact h5) with h5 | h5
    ·simp only [h5] at h4;exact h4 e
    ·have:=hpw _ _ h2 hi h5;omega
   have hnone:togs (C.filter fun x=>x.to == w.to)=none:=by
    rcases uy_ (v:=w.to) _ (C.filter fun x=>x.to == w.to) rfl (fun y hy=>by have:=List.mem_filter.1 hy;exact ⟨by simpa using this.2,hC y this.1⟩) with ⟨_,e1⟩ | ⟨b,e1,hb,_⟩
    ·exact e1
    ·exact absurd hb (hno b ((uH_ hC).2 ⟨by rw [hb];exact hw,by rw [hb];exact e1⟩))
   have hmem:x∈(wlst C).take (cntW (wlst C) w.to)++([w]++(wlst C).drop (cntW (wlst C) w.to))↔x=w∨x∈wlst C:=by
    conv=>rhs;rw [← List.take_append_drop (cntW (wlst C) w.to) (wlst C)]
    simp only [List.mem_append,List.mem_singleton]
    constructor
    ·rintro (h | h | h)
     ·exact .inr (.inl h)
     ·exact .inl h
     ·exact .inr (.inr h)
    ·rintro (h | h | h)
     ·exact .inr (.inl h)
     ·exact .inl h
     ·exact .inr (.inr h)
   rw [hmem]
   constructor
   ·rintro (rfl | hx)
    ·rw [if_pos rfl,adh_,hnone]
     exact ⟨hw,rfl⟩
    ·rw [if_neg (fun e=>hno x hx e.symm),List.append_nil]
     exact (uH_ hC).1 hx
   ·rintro ⟨h1,h2⟩
    by_cases e:w.to=x.to
    ·rw [if_pos e,← e,adh_,hnone] at h2
     cases h2
     exact .inl rfl
    ·rw [if_neg e,List.append_nil] at h2
     exact .inr ((uH_ hC).2 ⟨h1,h2⟩)
end Go.Proofs.YtjimmglpkndemaaGreatC

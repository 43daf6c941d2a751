/- The shortest ways within an area. Conditions: none. -/
import Derived.Test.YtbhplkilhknciaaDoorXSG
namespace Go.Proofs.YtbhplkilhknciaaDoorC
set_option linter.unusedVariables false
set_option linter.unusedSimpArgs false
def tab {α:Type} (f:Nat→α):List α:=(List.range 7).map f
theorem tab_len {α:Type} (f:Nat→α):(tab f).length=7:=by simp [tab]
theorem gt_tab {α:Type} [Inhabited α] (f:Nat→α) {v:Int} (h:0≤v) (h':v < 7):gt (tab f) v=f v.toNat:=by
 obtain ⟨n,rfl⟩:∃ n:Nat,v=n:=⟨v.toNat,by omega⟩
 rw [gt_elem (by rw [tab_len];omega)]
 simp [tab]
theorem tab_congr {α:Type} {f g:Nat→α} (h:∀ i,i < 7→f i=g i):tab f=tab g:=by
 unfold tab
 exact List.map_congr_left fun i hi=>h i (by simpa using hi)
theorem set_tab {α:Type} (f:Nat→α) (n:Nat) (x:α):(tab f).set n x=tab fun i=>if i=n then x else f i:=by
 refine List.ext_getElem (by simp [tab]) fun i h1 h2=>?_
 simp only [List.getElem_set,tab,List.getElem_map,List.getElem_range]
 by_cases h:n=i
 ·simp [h]
 ·rw [if_neg h,if_neg (fun e=>h e.symm)]
def bestStep (W:List Way) (D:List Int) (b:Int) (i:Nat):Int :=
 if ¬ ((gt W ((i:Int)+1)).to=0)∧D.contains ((i:Int)+1)=false∧(b=0∨(gt W ((i:Int)+1)).cost < (gt W b).cost) then (i:Int)+1 else b
def best (W:List Way) (D:List Int):Int:=(List.range 6).foldl (bestStep W D) 0
def spStep (s:List Rcd) (ar fr at':Int) (W:List Way) (i:Nat):List Way :=
 if linkC s ar at' ((i:Int)+1)=0∨(i:Int)+1=fr then W
 else if (gt W ((i:Int)+1)).to=0∨(gt W at').cost+linkC s ar at' ((i:Int)+1) < (gt W ((i:Int)+1)).cost then
  W.set (i+1) ⟨(i:Int)+1,(gt W at').cost+linkC s ar at' ((i:Int)+1),if at'=fr then [(i:Int)+1] else (gt W at').hops⟩
 else if (gt W at').cost+linkC s ar at' ((i:Int)+1)=(gt W ((i:Int)+1)).cost then
  W.set (i+1) (tog (gt W ((i:Int)+1)) ⟨(i:Int)+1,(gt W at').cost+linkC s ar at' ((i:Int)+1),if at'=fr then [(i:Int)+1] else (gt W at').hops⟩)
 else W
def spr (s:List Rcd) (ar fr at':Int) (W:List Way):List Way:=(List.range 6).foldl (spStep s ar fr at') W
def dij (s:List Rcd) (ar fr:Int):Nat→List Way→List Int→List Way
 | 0,W,_=>W
 | k+1,W,D=>if best W D=0 then W else dij s ar fr k (spr s ar fr (best W D) W) (D++[best W D])
def way0:Way:=⟨0,0,[]⟩
def W0 (fr:Int):List Way:=(List.replicate 7 way0).set fr.toNat ⟨fr,0,[]⟩
def known (W:List Way):List Way:=W.filter fun w=>!(w.to == 0)
def waysIn (s:List Rcd) (ar fr:Int):List Way:=if storeOk s=true∧inB fr 1 6=true∧0≤nodeP s ar fr then known (dij s ar fr 6 (W0 fr) []) else []
structure WOk1 (W:List Way) (c:Int):Prop where
 len:W.length=7
 hops:∀ v:Int,0≤v→v < 7→HopsOk (gt W v).hops
 cost:∀ v:Int,0≤v→v < 7→0≤(gt W v).cost∧(gt W v).cost≤c
 to:∀ v:Int,0≤v→v < 7→(gt W v).to=0∨(gt W v).to=v
theorem WOk1.mono {W:List Way} {c c':Int} (h:WOk1 W c) (hc:c≤c'):WOk1 W c':=⟨h.len,h.hops,fun v h1 h2=>by have:=h.cost v h1 h2;omega,h.to⟩
theorem set_gt {W:List Way} {i:Nat} {w:Way} {v:Int} (hl:W.length=7) (hi:i < 6) (h0:0≤v):gt (W.set (i+1) w) v=if v=(i:Int)+1 then w else gt W v:=by
 have:=gt_set (l:=W) (i:=(i:Int)+1) (j:=v) (x:=w) (by omega) (by omega) h0
 rw [show ((i:Int)+1).toNat=i+1 by omega] at this
 rw [this]
 exact if_rw ⟨fun h=>h.symm,fun h=>h.symm⟩ _ _
theorem tog_ok {a b:Way} (ha:HopsOk a.hops) (hb:HopsOk b.hops):HopsOk (tog a b).hops:=by
 unfold tog
 split
 ·exact ha
 ·split
  ·exact hb
  ·exact uni_ok _ _
theorem tog_cost (a b:Way):(tog a b).cost=a.cost∨(tog a b).cost=b.cost:=by
 unfold tog
 split
 ·exact .inl rfl
 ·split
  ·exact .inr rfl
  ·exact .inl rfl
theorem tog_to {a b:Way} {n:Int} (ha:a.to=n) (hb:b.to=n):(tog a b).to=n:=by
 unfold tog
 split
 ·exact ha
 ·split
  ·exact hb
  ·exact ha
theorem linkC_self {s:List Rcd} (hs:storeOk s=true) (ar a:Int):linkC s ar a a=0:=by
 have:toldC s ar a a=0:=by
  unfold toldC
  refine costIn_none fun x hx=>?_
  exact (nearOk_all (nearOf_ok hs ar a) hx).2.1
 unfold linkC
 rw [this];rfl
theorem spStep_ok {s:List Rcd} (hs:storeOk s=true) (ar fr:Int) {at':Int} (ha:1≤at'∧at'≤6) {W:List Way} {c:Int} (hc:0≤c) (h:WOk1 W (c+1000)) (hat:(gt W at').cost≤c) {i:Nat} (hi:i < 6) :
  WOk1 (spStep s ar fr at' W i) (c+1000)∧gt (spStep s ar fr at' W i) at'=gt W at':=by
 have hb:=linkC_bnd hs ar at' ((i:Int)+1)
 have hz:=h.cost at' (by omega) (by omega)
 have ho:=h.cost ((i:Int)+1) (by omega) (by omega)
 have hho:=h.hops ((i:Int)+1) (by omega) (by omega)
 have hnew:HopsOk (if at'=fr then [(i:Int)+1] else (gt W at').hops):=by
  split
  ·exact hops_one (by omega) (by omega)
  ·exact h.hops at' (by omega) (by omega)
 have hset:∀ w:Way,w.to=(i:Int)+1→HopsOk w.hops→0≤w.cost→w.cost≤c+1000→¬ (linkC s ar at' ((i:Int)+1)=0)→WOk1 (W.set (i+1) w) (c+1000)∧gt (W.set (i+1) w) at'=gt W at':=by
  intro w h1 h2 h3 h4 h5
  have hne:¬ (at'=(i:Int)+1):=by intro e;rw [← e,linkC_self hs] at h5;exact h5 rfl
  refine ⟨⟨by simp [h.len],fun v h6 h7=>?_,fun v h6 h7=>?_,fun v h6 h7=>?_⟩,?_⟩
  ·rw [set_gt h.len hi h6];split
   ·exact h2
   ·exact h.hops v h6 h7
  ·rw [set_gt h.len hi h6];split
   ·exact ⟨h3,h4⟩
   ·exact h.cost v h6 h7
  ·rw [set_gt h.len hi h6];split
   ·rename_i e;rw [e,h1];exact .inr rfl
   ·exact h.to v h6 h7
  ·rw [set_gt h.len hi (by omega),if_neg hne]
 unfold spStep
 by_cases h1:linkC s ar at' ((i:Int)+1)=0∨(i:Int)+1=fr
 ·rw [if_pos h1];exact ⟨h,rfl⟩
 rw [if_neg h1]
 by_cases h2:(gt W ((i:Int)+1)).to=0∨(gt W at').cost+linkC s ar at' ((i:Int)+1) < (gt W ((i:Int)+1)).cost
 ·rw [if_pos h2]
  exact hset _ rfl hnew (by show 0≤(gt W at').cost+_;omega) (by show (gt W at').cost+_≤_;omega) (fun e=>h1 (.inl e))
 rw [if_neg h2]
 by_cases h3:(gt W at').cost+linkC s ar at' ((i:Int)+1)=(gt W ((i:Int)+1)).cost
 ·rw [if_pos h3]
  have hto:=(h.to ((i:Int)+1) (by omega) (by omega)).resolve_left (fun e=>h2 (.inl e))
  have htc:(tog (gt W ((i:Int)+1)) ⟨(i:Int)+1,(gt W at').cost+linkC s ar at' ((i:Int)+1),if at'=fr then [(i:Int)+1] else (gt W at').hops⟩).cost=(gt W ((i:Int)+1)).cost:=by
   rcases tog_cost (gt W ((i:Int)+1)) ⟨(i:Int)+1,(gt W at').cost+linkC s ar at' ((i:Int)+1),if at'=fr then [(i:Int)+1] else (gt W at').hops⟩ with e | e
   ·exact e
   ·rw [e];exact h3
  exact hset _ (tog_to hto rfl) (tog_ok hho hnew) (by rw [htc];omega) (by rw [htc];omega) (fun e=>h1 (.inl e))
 ·rw [if_neg h3];exact ⟨h,rfl⟩
theorem spr_ok {s:List Rcd} (hs:storeOk s=true) (ar fr:Int) {at':Int} (ha:1≤at'∧at'≤6) {W:List Way} {c:Int} (hc:0≤c) (h:WOk1 W c):WOk1 (spr s ar fr at' W) (c+1000)∧gt (spr s ar fr at' W) at'=gt W at':=by
 have hl:(List.range 6).length=6:=List.length_range
 exact foldl_inv (l:=List.range 6) (g:=spStep s ar fr at') (c:=W) (Inv:=fun _ W'=>WOk1 W' (c+1000)∧gt W' at'=gt W at') ⟨h.mono (by omega),rfl⟩ fun i W' hi ⟨h1,h2⟩=>by
  rw [hl] at hi
  rw [gt_elem (by rw [hl];omega),List.getElem_range]
  obtain ⟨h3,h4⟩:=spStep_ok hs ar fr ha hc h1 (by rw [h2];exact (h.cost at' (by omega) (by omega)).2) (show i < 6 by omega)
  exact ⟨h3,h4.trans h2⟩
theorem best_spec (W:List Way) (D:List Int):(best W D=0∧∀ u:Int,1≤u→u≤6→(gt W u).to≠0→u∈D) ∨
  ((1≤best W D∧best W D≤6)∧(gt W (best W D)).to≠0∧best W D ∉ D∧∀ u:Int,1≤u→u≤6→(gt W u).to≠0→u ∉ D→(gt W (best W D)).cost≤(gt W u).cost):=by
 have hl:(List.range 6).length=6:=List.length_range
 have key:=foldl_inv (l:=List.range 6) (g:=bestStep W D) (c:=0) (Inv:=fun i b=>(b=0∧∀ u:Int,1≤u→u≤i→(gt W u).to≠0→u∈D) ∨
  ((1≤b∧b≤i)∧(gt W b).to≠0∧b ∉ D∧∀ u:Int,1≤u→u≤i→(gt W u).to≠0→u ∉ D→(gt W b).cost≤(gt W u).cost)) (.inl ⟨rfl,fun u h1 h2=>by omega⟩) fun i b hi hb=>by
   rw [hl] at hi
   rw [gt_elem (by rw [hl];omega),List.getElem_range]
   unfold bestStep
   have hD:∀ x:Int,D.contains x=false↔x ∉ D:=fun x=>by rw [← Bool.not_eq_true,List.contains_iff_mem]
   by_cases hc:¬ ((gt W ((i:Int)+1)).to=0)∧D.contains ((i:Int)+1)=false∧(b=0∨(gt W ((i:Int)+1)).cost < (gt W b).cost)
   ·rw [if_pos hc]
    refine .inr ⟨by omega,hc.1,(hD _).1 hc.2.1,fun u h1 h2 h3 h4=>?_⟩
    by_cases hu:u=(i:Int)+1
    ·rw [hu];exact Int.le_refl _
    ·rcases hb with ⟨hb,hb2⟩ | ⟨hb1,hb2,hb3,hb4⟩
     ·exact absurd (hb2 u h1 (by omega) h3) h4
     ·have:=hb4 u h1 (by omega) h3 h4
      rcases hc.2.2 with h5 | h5
      ·omega
      ·omega
   ·rw [if_neg hc]
    rcases hb with ⟨hb,hb2⟩ | ⟨hb1,hb2,hb3,hb4⟩
    ·refine .inl ⟨hb,fun u h1 h2 h3=>?_⟩
     by_cases hu:u=(i:Int)+1
     ·subst hu
      by_cases hm:(i:Int)+1∈D
      ·exact hm
      ·exact absurd ⟨h3,(hD _).2 hm,.inl hb⟩ hc
     ·exact hb2 u h1 (by omega) h3
    ·refine .inr ⟨by omega,hb2,hb3,fun u h1 h2 h3 h4=>?_⟩
     by_cases hu:u=(i:Int)+1
     ·subst hu
      have:¬ ((gt W ((i:Int)+1)).cost < (gt W b).cost):=fun h5=>hc ⟨h3,(hD _).2 h4,.inr h5⟩
      omega
     ·exact hb4 u h1 (by omega) h3 h4
 rw [hl] at key
 exact key
structure DInv (fr:Int) (W:List Way) (D:List Int):Prop where
 ok:WOk1 W (1000 * D.length)
 fr6:1≤fr∧fr≤6
 nd:D.Nodup
 mem:∀ v∈D,(1≤v∧v≤6)∧(gt W v).to≠0
 mono:∀ v∈D,∀ u:Int,1≤u→u≤6→u ∉ D→(gt W u).to≠0→(gt W v).cost≤(gt W u).cost
 first:(D=[]∧∀ u:Int,1≤u→u≤6→(gt W u).to≠0→u=fr)∨fr∈D
theorem nodup_len {D l:List Int} (hn:D.Nodup) (hm:∀ v∈D,v∈l):D.length≤l.length:=by
 induction D generalizing l with
 | nil=>simp
 | cons x D ih =>
  have hx:=List.nodup_cons.1 hn
  have hl:=List.length_erase_of_mem (hm x (.head _))
  have hp:0 < l.length:=List.length_pos_of_mem (hm x (.head _))
  have:=ih (l:=l.erase x) hx.2 fun v hv=>(List.mem_erase_of_ne (show v≠x from fun e=>hx.1 (e ▸ hv))).2 (hm v (.tail _ hv))
  simp only [List.length_cons];omega
theorem nodup6 {D:List Int} (hn:D.Nodup) (hm:∀ v∈D,1≤v∧v≤6):D.length≤6 :=
 nodup_len (l:=six) hn fun v hv=>mem_six.2 (hm v hv)
theorem W0_gt {fr:Int} (h:1≤fr∧fr≤6) {v:Int} (h0:0≤v) (h7:v < 7):gt (W0 fr) v=if fr=v then ⟨fr,0,[]⟩ else way0:=by
 unfold W0
 rw [gt_set (by omega) (by simp;omega) h0]
 split
 ·rfl
 ·exact gt_replicate h0 (by omega)
theorem DInv.start {fr:Int} (h:1≤fr∧fr≤6):DInv fr (W0 fr) []:=by
 refine ⟨⟨by simp [W0],fun v h0 h7=>?_,fun v h0 h7=>?_,fun v h0 h7=>?_⟩,h,.nil,by simp,by simp,.inl ⟨rfl,fun u h1 h2 h3=>?_⟩⟩
 ·rw [W0_gt h h0 h7];split <;> exact hops_nil
 ·rw [W0_gt h h0 h7];split <;> simp [way0]
 ·rw [W0_gt h h0 h7];split
  ·rename_i e;exact .inr e
  ·exact .inl rfl
 ·rw [W0_gt h (by omega) (by omega)] at h3
  split at h3
  ·rename_i e;exact e.symm
  ·exact absurd rfl h3
theorem spr_other {s:List Rcd} (hs:storeOk s=true) (ar fr:Int) {at':Int} (ha:1≤at'∧at'≤6) {W:List Way} {c:Int} (hc:0≤c) (h:WOk1 W c) {v:Int} (hv:1≤v∧v≤6) :
  gt (spr s ar fr at' W) v=gt W v∨((gt (spr s ar fr at' W) v).to=v∧v≠fr∧¬ (linkC s ar at' v=0)∧((gt W v).to=0∨(gt W at').cost+linkC s ar at' v≤(gt W v).cost)∧(gt (spr s ar fr at' W) v).cost=(gt W at').cost+linkC s ar at' v):=by
 have hl:(List.range 6).length=6:=List.length_range
 have key:=foldl_inv (l:=List.range 6) (g:=spStep s ar fr at') (c:=W) (Inv:=fun i W'=>WOk1 W' (c+1000)∧gt W' at'=gt W at'∧(∀ u:Int,(i:Int) < u→u≤6→gt W' u=gt W u)∧∀ u:Int,1≤u→u≤i→gt W' u=gt W u∨((gt W' u).to=u∧u≠fr∧¬ (linkC s ar at' u=0)∧((gt W u).to=0∨(gt W at').cost+linkC s ar at' u≤(gt W u).cost)∧(gt W' u).cost=(gt W at').cost+linkC s ar at' u))
  ⟨h.mono (by omega),rfl,fun u _ _=>rfl,fun u h1 h2=>by omega⟩ fun i W' hi ⟨h1,h2,h3,h4⟩=>by
  rw [hl] at hi
  rw [gt_elem (by rw [hl];omega),List.getElem_range]
  have hi6:i < 6:=by omega
  obtain ⟨h5,h6⟩:=spStep_ok hs ar fr ha hc h1 (by rw [h2];exact (h.cost at' (by omega) (by omega)).2) hi6
  refine ⟨h5,h6.trans h2,fun u h7 h8=>?_,fun u h7 h8=>?_⟩
  ·rw [← h3 u (by omega) h8]
   unfold spStep
   split
   ·rfl
   ·split
    ·rw [set_gt h1.len hi6 (by omega),if_neg (by omega)]
    ·split
     ·rw [set_gt h1.len hi6 (by omega),if_neg (by omega)]
     ·rfl
  ·by_cases hu:u=(i:Int)+1
   ·subst hu
    have hold:=h3 ((i:Int)+1) (by omega) (by omega)
    unfold spStep
    rw [hold,h2]
    by_cases q1:linkC s ar at' ((i:Int)+1)=0∨(i:Int)+1=fr
    ·rw [if_pos q1];exact .inl hold
    rw [if_neg q1]
    by_cases q2:(gt W ((i:Int)+1)).to=0∨(gt W at').cost+linkC s ar at' ((i:Int)+1) < (gt W ((i:Int)+1)).cost
    ·rw [if_pos q2,set_gt h1.len hi6 (by omega),if_pos rfl]
     exact .inr ⟨rfl,fun e=>q1 (.inr e),fun e=>q1 (.inl e),q2.imp_right (fun e=>by omega),rfl⟩
    rw [if_neg q2]
    by_cases q3:(gt W at').cost+linkC s ar at' ((i:Int)+1)=(gt W ((i:Int)+1)).cost
    ·rw [if_pos q3,set_gt h1.len hi6 (by omega),if_pos rfl]
     have hto:=(h.to ((i:Int)+1) (by omega) (by omega)).resolve_left (fun e=>q2 (.inl e))
     refine .inr ⟨tog_to hto rfl,fun e=>q1 (.inr e),fun e=>q1 (.inl e),.inr (by omega),?_⟩
     ·rcases tog_cost (gt W ((i:Int)+1)) ⟨(i:Int)+1,(gt W at').cost+linkC s ar at' ((i:Int)+1),if at'=fr then [(i:Int)+1] else (gt W at').hops⟩ with e | e
      ·rw [e];omega
      ·rw [e]
    ·rw [if_neg q3];exact .inl hold
   ·have hk:gt (spStep s ar fr at' W' i) u=gt W' u:=by
     unfold spStep
     split
     ·rfl
     ·split
      ·rw [set_gt h1.len hi6 (by omega),if_neg hu]
      ·split
       ·rw [set_gt h1.len hi6 (by omega),if_neg hu]
       ·rfl
    rw [hk]
    exact h4 u h7 (by omega)
 rw [hl] at key
 exact key.2.2.2 v hv.1 hv.2
theorem DInv.step {s:List Rcd} (hs:storeOk s=true) (ar:Int) {fr:Int} {W:List Way} {D:List Int} (h:DInv fr W D) (hb:best W D≠0):DInv fr (spr s ar fr (best W D) W) (D++[best W D]):=by
 obtain ⟨h1,h2,h3,h4⟩:=(best_spec W D).resolve_left fun e=>hb e.1
 have hc:(0:Int)≤1000 * D.length:=by omega
 obtain ⟨g1,g2⟩:=spr_ok hs ar fr h1 hc h.ok
 have hoth:=fun v hv=>spr_other hs ar fr h1 hc h.ok (v:=v) hv
 have hold:∀ v∈D,gt (spr s ar fr (best W D) W) v=gt W v:=by
  intro v hv
  rcases hoth v (h.mem v hv).1 with e | ⟨_,_,e1,e2,_⟩
  ·exact e
  ·have hm:=h.mono v hv _ h1.1 h1.2 h3 h2
   have hk:=linkC_bnd hs ar (best W D) v
   rcases e2 with e2 | e2
   ·exact absurd e2 (h.mem v hv).2
   ·omega
 refine ⟨?_,h.fr6,?_,fun v hv=>?_,fun v hv u hu1 hu2 hu3 hu4=>?_,?_⟩
 ·refine g1.mono ?_
  simp only [List.length_append,List.length_singleton,cast_add,cast_1];omega
 ·rw [List.nodup_append]
  exact ⟨h.nd,by simp,by intro a ha b hb';rw [List.mem_singleton] at hb';subst hb';intro e;exact h3 (e ▸ ha)⟩
 ·rcases List.mem_append.1 hv with hv | hv
  ·rw [hold v hv];exact h.mem v hv
  ·rw [List.mem_singleton] at hv
   subst hv
   rw [g2];exact ⟨h1,h2⟩
 ·have hu3':u ∉ D∧u≠best W D:=by simpa using hu3
  have hcv:(gt (spr s ar fr (best W D) W) v).cost≤(gt W (best W D)).cost:=by
   rcases List.mem_append.1 hv with hv | hv
   ·rw [hold v hv];exact h.mono v hv _ h1.1 h1.2 h3 h2
   ·rw [List.mem_singleton] at hv;subst hv;rw [g2];exact Int.le_refl _
  rcases hoth u ⟨hu1,hu2⟩ with e | ⟨_,_,_,_,e⟩
  ·rw [e] at hu4 ⊢
   have:=h4 u hu1 hu2 hu4 hu3'.1
   omega
  ·have hk:=linkC_bnd hs ar (best W D) u
   omega
 ·right
  rcases h.first with ⟨e,hf⟩ | hf
  ·rw [hf _ h1.1 h1.2 h2];simp
  ·simp [hf]
theorem DInv.full {fr:Int} {W:List Way} {D:List Int} (h:DInv fr W D) (hd:D.length=6):best W D=0:=by
 rcases best_spec W D with e | ⟨h1,h2,h3,_⟩
 ·exact e.1
 ·have hn:(best W D :: D).Nodup:=List.nodup_cons.2 ⟨h3,h.nd⟩
  have:=nodup6 hn fun v hv=>by
   rcases List.mem_cons.1 hv with rfl | hv
   ·exact h1
   ·exact (h.mem v hv).1
  simp at this;omega
theorem DInv.len {fr:Int} {W:List Way} {D:List Int} (h:DInv fr W D):D.length≤6:=nodup6 h.nd fun v hv=>(h.mem v hv).1
end Go.Proofs.YtbhplkilhknciaaDoorC

/- The ways that are as3_ are the shortest ones, and their hops are all first steps of such ways. Conditions: none. -/
import Derived.Test.YtjimmglpkndemaaGreatXSDc
namespace Go.Proofs.YtjimmglpkndemaaGreatC
set_option linter.unusedVariables false
set_option linter.unusedSimpArgs false
def In6 (a:Int):Prop:=1≤a∧a≤6
inductive Pa (s:List Rcd) (ar:Int):Int→Int→Int→Prop
 | nil {a:Int} (h:In6 a):Pa s ar a a 0
 | cons {a u b n:Int} (h:In6 a) (hc:zk_ s ar a u≠0) (p:Pa s ar u b n):Pa s ar a b (zk_ s ar a u+n)
theorem Pa.l {s:List Rcd} {ar a b n:Int} (h:Pa s ar a b n):In6 a:=by cases h <;> assumption
theorem Pa.r {s:List Rcd} {ar a b n:Int} (h:Pa s ar a b n):In6 b:=by induction h <;> assumption
theorem Pa.nn {s:List Rcd} (hs:ze_ s=true) {ar a b n:Int} (h:Pa s ar a b n):0≤n∧(n=0→a=b):=by
 induction h with
 | nil=>exact ⟨by omega,fun _=>rfl⟩
 | @cons a u b n h hc p ih =>
  have:=ux_ hs ar a u
  exact ⟨by omega,fun h=>by omega⟩
theorem Pa.snoc {s:List Rcd} {ar a u v n:Int} (h:Pa s ar a u n) (hc:zk_ s ar u v≠0) (hv:In6 v):Pa s ar a v (n+zk_ s ar u v):=by
 induction h with
 | nil h=>rw [Int.zero_add];have:=Pa.cons h hc (.nil hv);rwa [Int.add_zero] at this
 | cons h hc' p ih=>rw [Int.add_assoc];exact .cons h hc' (ih hc)
theorem Pa.app {s:List Rcd} {ar a u v n m:Int} (h:Pa s ar a u n) (h':Pa s ar u v m):Pa s ar a v (n+m):=by
 induction h with
 | nil h=>rwa [Int.zero_add]
 | cons h hc' p ih=>rw [Int.add_assoc];exact .cons h hc' (ih h')
theorem Pa.last {s:List Rcd} {ar a v n:Int} (h:Pa s ar a v n):(a=v∧n=0)∨∃ p m,Pa s ar a p m∧zk_ s ar p v≠0∧n=m+zk_ s ar p v:=by
 induction h with
 | nil h=>exact .inl ⟨rfl,rfl⟩
 | @cons a u b n h hc p ih =>
  right
  rcases ih with ⟨rfl,rfl⟩ | ⟨p',m,h1,h2,h3⟩
  ·exact ⟨a,0,.nil h,hc,by omega⟩
  ·exact ⟨p',zk_ s ar a u+m,.cons h hc h1,h2,by omega⟩
def qs_ (s:List Rcd) (ar fr a:Int) (W:List Way) (v:Int):Way :=
 if zk_ s ar a v=0∨v=fr then gt W v
 else if (gt W v).to=0∨(gt W a).cost+zk_ s ar a v < (gt W v).cost then ⟨v,(gt W a).cost+zk_ s ar a v,if a=fr then [v] else (gt W a).hops⟩
 else if (gt W a).cost+zk_ s ar a v=(gt W v).cost then tog (gt W v) ⟨v,(gt W a).cost+zk_ s ar a v,if a=fr then [v] else (gt W a).hops⟩
 else gt W v
theorem aOo_ {s:List Rcd} (hs:ze_ s=true) (ar fr:Int) {a:Int} (ha:In6 a) {W:List Way} (hl7:W.length=7) {v:Int} (hv:In6 v):gt (spr s ar fr a W) v=qs_ s ar fr a W v:=by
 have hl:(List.range 6).length=6:=List.length_range
 have haa:qs_ s ar fr a W a=gt W a:=by unfold qs_;rw [if_pos (.inl (aap_ hs ar a))]
 have key:=aai_ (l:=List.range 6) (g:=y5_ s ar fr a) (c:=W) (Inv:=fun i W'=>W'.length=7∧∀ u:Int,In6 u→gt W' u=if u≤i then qs_ s ar fr a W u else gt W u)
  ⟨hl7,fun u hu=>by rw [if_neg (by have:=hu.1;omega)]⟩ fun i W' hi ⟨h1,h2⟩=>by
  rw [hl] at hi
  rw [zm_ (by rw [hl];omega),List.getElem_range]
  have hi6:i < 6:=by omega
  have ga:gt W' a=gt W a:=by rw [h2 a ha];split <;> simp [haa]
  have gi:gt W' ((i:Int)+1)=gt W ((i:Int)+1):=by rw [h2 _ ⟨by omega,by omega⟩,if_neg (by omega)]
  have hlen:(y5_ s ar fr a W' i).length=7:=by
   unfold y5_
   split
   ·exact h1
   ·split
    ·simp [h1]
    ·split
     ·simp [h1]
     ·exact h1
  refine ⟨hlen,fun u hu=>?_⟩
  have hu0:0≤u:=by have:=hu.1;omega
  by_cases he:u=(i:Int)+1
  ·subst he
   rw [if_pos (by omega)]
   unfold y5_ qs_
   rw [gi,ga]
   split
   ·rw [gi]
   ·split
    ·rw [wK_ h1 hi6 hu0,if_pos rfl]
    ·split
     ·rw [wK_ h1 hi6 hu0,if_pos rfl]
     ·rw [gi]
  ·have:gt (y5_ s ar fr a W' i) u=gt W' u:=by
    unfold y5_
    split
    ·rfl
    ·split
     ·rw [wK_ h1 hi6 hu0,if_neg he]
     ·split
      ·rw [wK_ h1 hi6 hu0,if_neg he]
      ·rfl
   rw [this,h2 u hu]
   exact akp_ ⟨fun h=>by omega,fun h=>by omega⟩ _ _
 rw [hl] at key
 have:=key.2 v hv
 rwa [if_pos (show v≤((6:Nat):Int) by have:=hv.2;omega)] at this
structure DI (s:List Rcd) (ar fr:Int) (W:List Way) (D:List Int):Prop where
 fr0:(gt W fr).to=fr∧(gt W fr).cost=0
 snd:∀ v,In6 v→(gt W v).to≠0→Pa s ar fr v (gt W v).cost
 rel:∀ p∈D,∀ v,In6 v→zk_ s ar p v≠0→(gt W v).to≠0∧(gt W v).cost≤(gt W p).cost+zk_ s ar p v
 hop:∀ v,In6 v→v≠fr→(gt W v).to≠0→∀ h,h∈(gt W v).hops↔∃ p∈D,zk_ s ar p v≠0∧(gt W p).cost+zk_ s ar p v=(gt W v).cost∧(if p=fr then h=v else h∈(gt W p).hops)
theorem DI.start {s:List Rcd} {ar fr:Int} (h:In6 fr):DI s ar fr (W0 fr) []:=by
 have g:∀ v,In6 v→(gt (W0 fr) v).to≠0→v=fr:=fun v hv hn=>by
  have h1:=hv.1
  have h2:=hv.2
  rw [adj_ h (by omega) (by omega)] at hn
  split at hn
  ·rename_i e;exact e.symm
  ·exact absurd rfl hn
 have g0:gt (W0 fr) fr=⟨fr,0,[]⟩:=by have h1:=h.1;have h2:=h.2;rw [adj_ h (by omega) (by omega),if_pos rfl]
 refine ⟨by rw [g0];exact ⟨rfl,rfl⟩,fun v hv hn=>?_,by simp,fun v hv hne hn=>absurd (g v hv hn) hne⟩
 have:=g v hv hn
 subst this
 rw [g0];exact .nil h
theorem aN3_ {a b:Way} (ha:zs_ a.hops) (hb:zs_ b.hops) (he:a.cost=b.cost) (h:Int):h∈(tog a b).hops↔h∈a.hops∨h∈b.hops:=by
 unfold tog
 rw [if_neg (by omega),if_neg (by omega),akn_]
 constructor
 ·exact fun h=>h.2
 ·exact fun h'=>⟨h'.elim (ha.2 h) (hb.2 h),h'⟩
theorem DI.step {s:List Rcd} (hs:ze_ s=true) {ar fr:Int} {W:List Way} {D:List Int} (hI:DInv fr W D) (h:DI s ar fr W D) (hb:best W D≠0):DI s ar fr (spr s ar fr (best W D) W) (D++[best W D]):=by
 obtain ⟨h1,h2,h3,h4⟩:=(k9_ W D).resolve_left fun e=>hb e.1
 generalize ha:best W D=a at *
 have hl:=hI.ok.len
 have hat:=fun v (hv:In6 v)=>aOo_ hs ar fr (a:=a) h1 hl hv
 have ho:∀ v,In6 v→zs_ (gt W v).hops:=fun v hv=>hI.ok.hops v (by have:=hv.1;omega) (by have:=hv.2;omega)
 have hnew:∀ v,In6 v→zs_ (if a=fr then [v] else (gt W a).hops):=fun v hv=>by
  split
  ·exact qw_ hv.1 hv.2
  ·exact ho a h1
 have hD:∀ p,p∈D∨p=a→gt (spr s ar fr a W) p=gt W p∧In6 p:=by
  intro p hp
  rcases hp with hp | rfl
  ·have hm:=hI.mem p hp
   refine ⟨?_,hm.1⟩
   rw [hat p hm.1]
   unfold qs_
   have hmo:=hI.mono p hp a h1.1 h1.2 h3 h2
   have hk:=ux_ hs ar a p
   by_cases q1:zk_ s ar a p=0∨p=fr
   ·rw [if_pos q1]
   rw [if_neg q1,if_neg,if_neg]
   ·intro e;have:zk_ s ar a p≠0:=fun e=>q1 (.inl e);omega
   ·rintro (e | e)
    ·exact hm.2 e
    ·omega
  ·refine ⟨?_,h1⟩
   rw [hat p h1];unfold qs_;rw [if_pos (.inl (aap_ hs ar p))]
 have hfr:In6 fr:=hI.fr6
 refine ⟨?_,fun v hv hn=>?_,fun p hp v hv hc=>?_,fun v hv hne hn x=>?_⟩
 ·rw [hat fr hfr];unfold qs_;rw [if_pos (.inr rfl)];exact h.fr0
 ·rw [hat v hv] at hn ⊢
  unfold qs_ at hn ⊢
  by_cases q1:zk_ s ar a v=0∨v=fr
  ·rw [if_pos q1] at hn ⊢;exact h.snd v hv hn
  rw [if_neg q1] at hn ⊢
  have hpa:=(h.snd a h1 h2).snoc (fun e=>q1 (.inl e)) hv
  by_cases q2:(gt W v).to=0∨(gt W a).cost+zk_ s ar a v < (gt W v).cost
  ·rw [if_pos q2];exact hpa
  rw [if_neg q2] at hn ⊢
  by_cases q3:(gt W a).cost+zk_ s ar a v=(gt W v).cost
  ·rw [if_pos q3]
   rcases kr_ (gt W v) ⟨v,(gt W a).cost+zk_ s ar a v,if a=fr then [v] else (gt W a).hops⟩ with e | e
   ·rw [e];exact h.snd v hv fun e=>q2 (.inl e)
   ·rw [e];exact hpa
  ·rw [if_neg q3];exact h.snd v hv fun e=>q2 (.inl e)
 ·have hp':p∈D∨p=a:=by simpa using hp
  obtain ⟨g1,g2⟩:=hD p hp'
  rw [g1,hat v hv]
  unfold qs_
  by_cases hpa:p=a
  ·rw [hpa] at hc ⊢
   by_cases q1:v=fr
   ·subst q1
    rw [if_pos (.inr rfl)]
    have:=ux_ hs ar a v
    have h5:=hI.ok.cost a (by omega) (by omega)
    have h6:=h.fr0
    have:=hv.1
    refine ⟨by omega,by omega⟩
   ·rw [if_neg (fun e=>e.elim hc q1)]
    split
    ·exact ⟨by show v≠0;have:=hv.1;omega,by show (gt W a).cost+_≤_;omega⟩
    ·rename_i q2
     split
     ·rename_i q3
      have hto:=(hI.ok.to v (by have:=hv.1;omega) (by have:=hv.2;omega)).resolve_left (fun e=>q2 (.inl e))
      rw [acj_ hto rfl]
      refine ⟨by have:=hv.1;omega,?_⟩
      rcases kr_ (gt W v) ⟨v,(gt W a).cost+zk_ s ar a v,if a=fr then [v] else (gt W a).hops⟩ with e | e
      ·rw [e];omega
      ·rw [e];exact Int.le_refl _
     ·exact ⟨fun e=>q2 (.inl e),by omega⟩
  ·have hpD:=hp'.resolve_right hpa
   obtain ⟨k1,k2⟩:=h.rel p hpD v hv hc
   split
   ·exact ⟨k1,k2⟩
   ·split
    ·rename_i q2
     have q3:=q2.resolve_left k1
     exact ⟨by show v≠0;have:=hv.1;omega,by show (gt W a).cost+_≤_;omega⟩
    ·split
     ·have hto:=(hI.ok.to v (by have:=hv.1;omega) (by have:=hv.2;omega)).resolve_left k1
      rw [acj_ hto rfl]
      refine ⟨by have:=hv.1;omega,?_⟩
      rcases kr_ (gt W v) ⟨v,(gt W a).cost+zk_ s ar a v,if a=fr then [v] else (gt W a).hops⟩ with e | e
      ·rw [e];exact k2
      ·rename_i q3;rw [e];show (gt W a).cost+_≤_;omega
     ·exact ⟨k1,k2⟩
 ·
  have old:∀ c:Int,(∃ p∈D++[a],zk_ s ar p v≠0∧(gt (spr s ar fr a W) p).cost+zk_ s ar p v=c∧(if p=fr then x=v else x∈(gt (spr s ar fr a W) p).hops)) ↔
    ((∃ p∈D,zk_ s ar p v≠0∧(gt W p).cost+zk_ s ar p v=c∧(if p=fr then x=v else x∈(gt W p).hops))∨(zk_ s ar a v≠0∧(gt W a).cost+zk_ s ar a v=c∧x∈(if a=fr then [v] else (gt W a).hops))):=by
   intro c
   have ea:(if a=fr then x=v else x∈(gt W a).hops)↔x∈(if a=fr then [v] else (gt W a).hops):=by
    split <;> simp
   constructor
   ·rintro ⟨p,hp,k1,k2,k3⟩
    have hp':p∈D∨p=a:=by simpa using hp
    rw [(hD p hp').1] at k2 k3
    rcases hp' with hp' | rfl
    ·exact .inl ⟨p,hp',k1,k2,k3⟩
    ·exact .inr ⟨k1,k2,ea.1 k3⟩
   ·rintro (⟨p,hp,k1,k2,k3⟩ | ⟨k1,k2,k3⟩)
    ·exact ⟨p,by simp [hp],k1,by rw [(hD p (.inl hp)).1];exact k2,by rw [(hD p (.inl hp)).1];exact k3⟩
    ·exact ⟨a,by simp,k1,by rw [(hD a (.inr rfl)).1];exact k2,by rw [(hD a (.inr rfl)).1];exact ea.2 k3⟩
  rw [hat v hv] at hn ⊢
  rw [old]
  unfold qs_ at hn ⊢
  by_cases q1:zk_ s ar a v=0
  ·rw [if_pos (.inl q1)] at hn ⊢
   rw [h.hop v hv hne hn]
   exact ⟨.inl,fun k=>k.resolve_right fun k=>k.1 q1⟩
  rw [if_neg (fun e=>e.elim q1 hne)] at hn ⊢
  by_cases q2:(gt W v).to=0∨(gt W a).cost+zk_ s ar a v < (gt W v).cost
  ·rw [if_pos q2] at hn ⊢
   show x∈(if a=fr then [v] else (gt W a).hops)↔_
   constructor
   ·exact fun k=>.inr ⟨q1,rfl,k⟩
   ·rintro (⟨p,hp,k1,k2,k3⟩ | ⟨_,_,k⟩)
    ·obtain ⟨k4,k5⟩:=h.rel p hp v hv k1
     rcases q2 with q2 | q2
     ·exact absurd q2 k4
     ·have k2:(gt W p).cost+zk_ s ar p v=(gt W a).cost+zk_ s ar a v:=k2
      omega
    ·exact k
  rw [if_neg q2] at hn ⊢
  have hto0:(gt W v).to≠0:=fun e=>q2 (.inl e)
  by_cases q3:(gt W a).cost+zk_ s ar a v=(gt W v).cost
  ·rw [if_pos q3]
   have hcost:(tog (gt W v) ⟨v,(gt W a).cost+zk_ s ar a v,if a=fr then [v] else (gt W a).hops⟩).cost=(gt W v).cost:=by
    rcases kr_ (gt W v) ⟨v,(gt W a).cost+zk_ s ar a v,if a=fr then [v] else (gt W a).hops⟩ with e | e
    ·exact e
    ·rw [e];exact q3
   rw [hcost,aN3_ (ho v hv) (hnew v hv) q3.symm,h.hop v hv hne hto0]
   constructor
   ·exact fun k=>k.imp_right fun k=>⟨q1,q3,k⟩
   ·exact fun k=>k.imp_right fun k=>k.2.2
  ·rw [if_neg q3]
   rw [h.hop v hv hne hto0]
   exact ⟨.inl,fun k=>k.resolve_right fun k=>q3 k.2.1⟩
end Go.Proofs.YtjimmglpkndemaaGreatC

/- The walk by reflection: a part of its laws, for any function. Conditions: none. -/
import Derived.Test.YtbhplkilhknciaaKc
import Derived.LoopN
import Derived.Test.YtbhplkilhknciaaKa
namespace Go.Proofs.YtbhplkilhknciaaC
set_option linter.unusedVariables false
theorem CO:∀{p q:lh},Bd p q=true->p=q
 | [],[],_=>rfl
 |(x,w,j)::p,(x',w',j')::q,h=>by
  simp only[Bd,bB]at h
  obtain⟨⟨⟨h1,h2⟩,h3⟩,h4⟩:=h
  rw[Lf.beq_eq h1,cK h2,cK h3,CO h4]
 | [],_::_,h=>by simp[Bd]at h
 |_::_,[],h=>by simp[Bd]at h
theorem Ce.beq_eq{c e:Ce}(h:c.beq e=true):c=e:=by
 cases c<;>cases e<;>simp only[Ce.beq,bB]at h<;>try cases h
 ·rw[Lf.beq_eq h]
 ·rename_i h1 h2;rw[cK h1,CO h2]
 ·rfl
 ·rfl
theorem CP:∀{cs es:List Ce},q7 cs es=true->cs=es
 | [],[],_=>rfl
 |c::cs,e::es,h=>by simp only[q7,bB]at h;rw[Ce.beq_eq h.1,CP h.2]
 | [],_::_,h=>by simp[q7]at h
 |_::_,[],h=>by simp[q7]at h
theorem Jm:∀{cs es:List Nat},sW cs es=true->cs=es
 | [],[],_=>rfl
 |c::cs,e::es,h=>by simp only[sW,bB]at h;rw[cK h.1,Jm h.2]
 | [],_::_,h=>by simp[sW]at h
 |_::_,[],h=>by simp[sW]at h
theorem Jn:∀{cs es:List (Bool×List Ce)},sX cs es=true->cs=es
 | [],[],_=>rfl
 |(a,c)::cs,(b,e)::es,h=>by
  simp only[sX,bB,beq_iff_eq]at h
  rw[h.1.1,CP h.1.2,Jn h.2]
 | [],_::_,h=>by simp[sX]at h
 |_::_,[],h=>by simp[sX]at h
theorem SV.beq_eq{v u:SV}(h:v.beq u=true):v=.un∨v=u:=by
 cases v with
 |un=>exact .inl rfl
 |v a cs=>
  cases u with
  |v b es=>simp only[SV.beq,bB,beq_iff_eq]at h;rw[h.1,CP h.2];exact .inr rfl
  |_=>simp[SV.beq]at h
 |pt b o=>
  cases u with
  |pt b o=>simp only[SV.beq,bB]at h;rw[cK h.1,cK h.2];exact .inr rfl
  |_=>simp[SV.beq]at h
 |ep i q x w o=>
  cases u with
  |ep i q x w o=>
   simp only[SV.beq,bB]at h
   obtain⟨⟨⟨⟨h1,h2⟩,h3⟩,h4⟩,h5⟩:=h
   rw[cK h1,CO h2,Lf.beq_eq h3,cK h4,cK h5];exact .inr rfl
  |_=>simp[SV.beq]at h
 |fp s x w o=>
  cases u with
  |fp s x w o=>
   simp only[SV.beq,bB]at h
   obtain⟨⟨⟨h1,h2⟩,h3⟩,h4⟩:=h
   rw[Lf.beq_eq h1,Lf.beq_eq h2,cK h3,cK h4];exact .inr rfl
  |_=>simp[SV.beq]at h
 |tp vs=>
  cases u with
  |tp us=>simp only[SV.beq]at h;rw[Jn h];exact .inr rfl
  |_=>simp[SV.beq]at h
 |cl f bs=>
  cases u with
  |cl f bs=>simp only[SV.beq,bB]at h;rw[cK h.1,Jm h.2];exact .inr rfl
  |_=>simp[SV.beq]at h
 |ob d x=>
  cases u with
  |ob d x=>simp only[SV.beq,bB,beq_iff_eq]at h;rw[h.1,Lf.beq_eq h.2];exact .inr rfl
  |_=>simp[SV.beq]at h
 |fz p x=>
  cases u with
  |fz q y=>
   simp only[SV.beq,bB]at h
   have e2:=Lf.beq_eq h.2
   subst e2
   have h1:=h.1
   cases p with
   |z=>
    cases q with
    |z=>exact .inr rfl
    |w=>simp[Pv.beq]at h1
   |w t x0 l=>
    cases q with
    |z=>simp[Pv.beq]at h1
    |w t' x0' l'=>
     simp only[Pv.beq,bB]at h1
     rw[cK h1.1.1,Lf.beq_eq h1.1.2,Lf.beq_eq h1.2];exact .inr rfl
  |_=>simp[SV.beq]at h
 |tk x m=>
  cases u with
  |tk y n=>simp only[SV.beq,bB]at h;rw[Lf.beq_eq h.1,Lf.beq_eq h.2];exact .inr rfl
  |_=>simp[SV.beq]at h
 |fl x=>
  cases u with
  |fl x=>simp only[SV.beq]at h;rw[Lf.beq_eq h];exact .inr rfl
  |_=>simp[SV.beq]at h
 |fr x=>
  cases u with
  |fr x=>simp only[SV.beq]at h;rw[Lf.beq_eq h];exact .inr rfl
  |_=>simp[SV.beq]at h
def tJ(n:Nat)(ρ ng:List T):Prop:=∀m,m<n->ρ[m]?=ng[m]?
theorem su{a b:Nat}(h:Nat.blt a b=true):a<b:=Nat.lt_of_succ_le (by simpa[Nat.blt]using h)
section
variable {G:Gh} {w:World} {ρ ng:List T} {n i:Nat}
theorem Lf.eN(ha:tJ n ρ ng){x:Lf}(h:x.gu n=true):x.ej ρ=x.ej ng:=by
 cases x with
 |k v=>rfl
 |a m=>exact ha m (su h)
 |e=>rfl
theorem NS(ha:tJ n ρ ng){x:Lf}(h:x.gu n=true):jT ρ x=jT ng x:=by unfold jT;rw[Lf.eN ha h]
theorem Jo(ha:tJ n ρ ng):∀{q:lh},sY n q=true->eK ρ q=eK ng q
 | [],_=>rfl
 |(x,w,j)::q,h=>by
  simp only[sY,bB]at h
  simp only[eK,NS ha h.1,Jo ha h.2]
theorem Jp(ha:tJ n ρ ng){id:Nat}{q:lh}(h:sY n q=true):iY ρ id q=iY ng id q:=by
 cases q with
 |nil=>rfl
 |cons x q=>simp only[iY];rw[Jo ha h]
theorem eF.pa(ha:tJ n ρ ng){c:Ce}{v:Value}(hb:c.gu n i=true)(h:eF G w ρ c v):eF G w ng c v:=by
 cases c with
 |p x=>obtain⟨t,h1,h2⟩:=h;exact⟨t,by rw[<-Lf.eN ha hb];exact h1,h2⟩
 |o id q=>
  simp only[Ce.gu,bB]at hb
  obtain⟨p,h1,h2⟩:=h
  exact⟨p,by rw[<-Jp ha hb.2];exact h1,h2⟩
 |n=>exact h
 |d=>exact h
theorem aF.pa(ha:tJ n ρ ng):∀{cs:List Ce} {vs:List Value},u7 n i cs=true->aF G w ρ cs vs->aF G w ng cs vs
 | [],[],_,_=>trivial
 |c::cs,v::vs,hb,h=>by
  simp only[u7,bB]at hb
  exact⟨h.1.pa ha hb.1,aF.pa ha hb.2 h.2⟩
 | [],_::_,_,h=>h.elim
 |_::_,[],_,h=>h.elim
theorem dU.pa(ha:tJ n ρ ng){ag:Bool}{cs:List Ce}{c:Value}(hb:u7 n i cs=true)(h:dU G w ρ ag cs c):dU G w ng ag cs c:=by
 cases ag with
 |true=>obtain⟨vs,h1,h2⟩:=h;exact⟨vs,h1,h2.pa ha hb⟩
 |false=>
  obtain⟨x,rfl,h2,h3⟩:=h
  simp only[u7,Bool.and_true]at hb
  exact⟨x,rfl,h2.pa ha hb,h3⟩
theorem eL.pa(ha:tJ n ρ ng):∀{cs:List (Bool×List Ce)} {vs:List Value},sZ n i cs=true->eL G w ρ cs vs->eL G w ng cs vs
 | [],[],_,_=>trivial
 |c::cs,v::vs,hb,h=>by
  simp only[sZ,bB]at hb
  exact⟨h.1.pa ha hb.1,eL.pa ha hb.2 h.2⟩
 | [],_::_,_,h=>h.elim
 |_::_,[],_,h=>h.elim
theorem bY.pa(ha:tJ n ρ ng){v:SV}{c:Value}(hb:v.gu n i=true)(h:bY G w ρ v c):bY G w ng v c:=by
 cases v with
 |un=>trivial
 |v ag cs=>exact dU.pa ha hb h
 |pt b off=>exact h
 |ep id q ix wd off=>
  simp only[SV.gu,bB]at hb
  obtain⟨p,b,m,cap,j,h1,h2,h3,h4⟩:=h
  exact⟨p,b,m,cap,j,by rw[<-Jp ha hb.1.2];exact h1,h2,by rw[<-NS ha hb.2];exact h3,h4⟩
 |fp s ix wd off=>
  simp only[SV.gu,bB]at hb
  obtain⟨xs,j,r,b,base,h1,h2,h3⟩:=h
  exact⟨xs,j,r,b,base,by rw[<-Lf.eN ha hb.1];exact h1,by rw[<-NS ha hb.2];exact h2,h3⟩
 |tp vs=>obtain⟨us,h1,h2⟩:=h;exact⟨us,h1,h2.pa ha hb⟩
 |cl f bs=>exact h
 |ob dp x=>exact h
 |fz pv x=>exact h
 |tk x m=>exact h
 |fl x=>exact h
 |fr x=>exact h
theorem eC.pa(ha:tJ n ρ ng){b:Nat}{v:SV}(hb:v.gu n i=true)(h:eC G w ρ b v):eC G w ng b v:=by
 cases v with
 |v ag cs=>obtain⟨h1,aX,elem,h2,h3⟩:=h;exact⟨h1,aX,elem,h2,h3.pa ha hb⟩
 |_=>exact h
theorem bZ.pa(ha:tJ n ρ ng){b:Nat}{v:SV}(hb:v.gu n i=true)(h:bZ G w ρ b v):bZ G w ng b v:=by
 cases v with
 |ob dp x=>obtain⟨t,h1,h2⟩:=h;exact⟨t,by rw[<-Lf.eN ha hb];exact h1,h2⟩
 |fz pv x=>
  simp only[SV.gu,bB]at hb
  obtain⟨t,h1,h2,h3⟩:=h
  refine⟨t,by rw[<-Lf.eN ha hb.2];exact h1,h2,?_⟩
  have lC:=hb.1
  cases pv with
  |z=>trivial
  |w tk x0 lo=>
   simp only[Pv.gu,bB]at lC
   obtain⟨g0,F,n,zs,g1,g2,g3⟩:=h3
   exact⟨g0,F,n,zs,by rw[<-Lf.eN ha lC.1.2];exact g1,by rw[<-NS ha lC.2];exact g2,g3⟩
 |tk x m=>
  simp only[SV.gu,bB]at hb
  obtain⟨h0,F,u,h1,h2,h3⟩:=h
  exact⟨h0,F,u,by rw[<-Lf.eN ha hb.1];exact h1,by rw[<-Lf.eN ha hb.2];exact h2,h3⟩
 |fl x=>obtain⟨h0,t,h1,h2⟩:=h;exact⟨h0,t,by rw[<-Lf.eN ha hb];exact h1,h2⟩
 |fr x=>obtain⟨h0,t,h1,h2⟩:=h;exact⟨h0,t,by rw[<-Lf.eN ha hb];exact h1,h2⟩
 |_=>exact h
theorem AB:∀{cs:List Ce},u7 n i cs=true->∀j∈cJ cs,j<i
 | [],_,j,hj=>by simp[cJ]at hj
 |c::cs,h,j,hj=>by
  simp only[u7,bB]at h
  cases c with
  |o id q=>
   simp only[Ce.gu,bB]at h
   simp only[cJ,List.mem_cons]at hj
   rcases hj with rfl|hj
   ·exact su h.1.1
   ·exact AB h.2 j hj
  |p x=>exact AB h.2 j hj
  |n=>exact AB h.2 j hj
  |d=>exact AB h.2 j hj
theorem Jq:∀{vs:List (Bool×List Ce)},sZ n i vs=true->∀j∈oK vs,j<i
 | [],_,j,hj=>by simp[oK]at hj
 |v::vs,h,j,hj=>by
  simp only[sZ,bB]at h
  simp only[oK,List.mem_append]at hj
  rcases hj with hj|hj
  ·exact AB h.1 j hj
  ·exact Jq h.2 j hj
theorem SV.nh{v:SV}(h:v.gu n i=true):∀j∈cp v,j<i:=by
 intro j hj
 cases v with
 |un=>simp[cp]at hj
 |v ag cs=>exact AB h j hj
 |pt b off=>simp[cp]at hj;subst hj;exact su h
 |ep id q ix wd off=>simp[cp]at hj;subst hj;simp only[SV.gu,bB]at h;exact su h.1.1
 |fp s ix wd off=>simp[cp]at hj
 |tp vs=>exact Jq h j hj
 |cl f bs=>simp only[SV.gu,List.all_eq_true]at h;exact su (h j (by simpa[cp]using hj))
 |ob dp x=>simp[cp]at hj
 |fz pv x=>
  cases pv with
  |z=>simp[cp]at hj
  |w tk x0 lo=>simp[cp]at hj;subst hj;simp only[SV.gu,Pv.gu,bB]at h;exact su h.1.1.1
 |tk x m=>simp[cp]at hj
 |fl x=>simp[cp]at hj
 |fr x=>simp[cp]at hj
end
theorem Jr{i0 i1:Nat}{all:lj}:∀{rn:lj},z8 i0 i1 all rn=true->∀j x,(j,x)∈rn->i0<=j∧j<i1∧∀id,x=some id->lz all id=some j
 | [],_,j,x,h=>by simp at h
 |(j0,x0)::rn,h,j,x,hm=>by
  simp only[z8,bB]at h
  obtain⟨⟨⟨⟨h1,h2⟩,_⟩,h3⟩,h4⟩:=h
  rcases List.mem_cons.1 hm with hm|hm
  ·cases hm
   refine⟨Nat.le_of_ble_eq_true h1,su h2,λid he=>?_⟩
   subst he
   simp only[bB]at h3
   have h3:=h3.2
   split at h3
   ·rename_i k hk;rw[hk,cK h3]
   ·cases h3
  ·exact Jr h4 j x hm
theorem Jt{i0 i1:Nat}{all:lj}:∀{rn:lj},z8 i0 i1 all rn=true->∀j x,(j,x)∈rn->j%2=0
 | [],_,j,x,h=>by simp at h
 |(j0,x0)::rn,h,j,x,hm=>by
  simp only[z8,bB]at h
  obtain⟨⟨⟨⟨h1,h2⟩,h0⟩,h3⟩,h4⟩:=h
  rcases List.mem_cons.1 hm with hm|hm
  ·cases hm;exact cK h0
  ·exact Jt h4 j x hm
theorem Ju{i0 i1:Nat}{all:lj}:∀{rn:lj},z8 i0 i1 all rn=true->∀j id,(j,some id)∈rn->id%4≠2
 | [],_,j,x,h=>by simp at h
 |(j0,x0)::rn,h,j,id,hm=>by
  simp only[z8,bB]at h
  obtain⟨⟨⟨⟨h1,h2⟩,h0⟩,h3⟩,h4⟩:=h
  rcases List.mem_cons.1 hm with hm|hm
  ·cases hm
   simp only[bB,Bool.not_eq_true']at h3
   intro e
   have:=h3.1
   rw[e]at this
   cases this
  ·exact Ju h4 j id hm
theorem Jv{s:St}{a0 i0:Nat}{rn:lj}:∀{h:St},xK s a0 i0 rn h=true->∀r v,(r,v)∈h->v=.un∨(v=s.get r∧v.gu a0 i0=true∧(∀id,r=.o id->id<i0∧lz rn id=none)∧∀b,r=.x b->b<i0)
 | [],_,r,v,hm=>by simp at hm
 |(r0,v0)::h,hc,r,v,hm=>by
  simp only[xK,bB]at hc
  rcases List.mem_cons.1 hm with hm|hm
  ·obtain⟨rfl,rfl⟩:=Prod.mk.inj hm
   have mK:=hc.1
   rw[Bool.or_eq_true]at mK
   rcases mK with hu|h4
   ·cases v<;>first|exact .inl rfl|cases hu
   ·simp only[bB]at h4
    obtain⟨⟨h1,h2⟩,h3⟩:=h4
    rcases SV.beq_eq h1 with hu|he
    ·exact .inl hu
    ·refine .inr ⟨he,h2,λid he=>?_,λb he=>?_⟩
     ·subst he
      simp only[GS,bB]at h3
      refine⟨su h3.1,?_⟩
      have h4:=h3.2
      split at h4
      ·rename_i hn;exact hn
      ·cases h4
     ·subst he;exact su h3
  ·exact Jv hc.2 r v hm
theorem CQ{a0:Nat}{xs:List Lf}{n:Nat}{x:Lf}(h:lX a0 xs n x=true){mP ρ:List T}(hl:mP.length=a0):(mP++xs.map (Lf.ev ρ))[n]?=some (x.ev ρ):=by
 simp only[lX,bB]at h
 have h1:=Nat.le_of_ble_eq_true h.1
 have h2:=h.2
 split at h2
 ·rename_i y hy
  rw[List.getElem?_append_right (by omega),hl,List.getElem?_map,hy,Lf.beq_eq h2]
  rfl
 ·cases h2
theorem Jw{s:St}{a0 i0:Nat}{xs:List Lf}{rn:lj}:∀{h:St},Bi s a0 i0 xs rn h=true->∀r v,(r,v)∈h->(∃j dp n,r=.o j∧v=.ob dp (.a n)∧
  ((∃id x,lO rn j=some (some id)∧s.get (.o id)=.ob dp x∧lX a0 xs n x=true)∨(lO rn j=some none∧lX a0 xs n .e=true)∨
   (∃x,lO rn j=none∧j<i0∧lz rn j=none∧s.get (.o j)=.ob dp x∧lX a0 xs n x=true)))∨
  ∃j x n m,r=.o j∧v=.tk x (.a n)∧j<i0∧lz rn j=none∧x.gu a0=true∧s.get (.o j)=.tk x m∧lX a0 xs n m=true
 | [],_,r,v,hm=>by simp at hm
 |(r0,v0)::h,hc,r,v,hm=>by
  have ln:Bi s a0 i0 xs rn h=true:=by
   unfold Bi at hc
   split at hc
   ·rename_i he;cases he
   ·rename_i j dp n ps he;cases he;simp only[bB]at hc;exact hc.2
   ·rename_i j x n ps he;cases he;rw[bB]at hc;exact hc.2
   ·cases hc
  rcases List.mem_cons.1 hm with hm|hm
  ·cases hm
   unfold Bi at hc
   split at hc
   ·rename_i he;cases he
   ·rename_i j dp n ps he
    cases he
    simp only[bB]at hc
    refine .inl ⟨j,dp,n,rfl,rfl,?_⟩
    have h1:=hc.1
    split at h1
    ·rename_i id j3
     simp only[bB]at h1
     have h2:=h1.2
     split at h2
     ·rename_i qE x hx
      simp only[bB,beq_iff_eq]at h2
      exact .inl ⟨id,x,j3,by rw[h2.1];exact hx,h2.2⟩
     ·cases h2
    ·rename_i j3
     simp only[bB]at h1
     exact .inr (.inl ⟨j3,h1.2⟩)
    ·rename_i j3
     simp only[bB]at h1
     obtain⟨⟨h2,h3⟩,h4⟩:=h1
     have Sd:lz rn j=none:=by
      split at h3
      ·rename_i hn;exact hn
      ·cases h3
     split at h4
     ·rename_i qE x hx
      simp only[bB,beq_iff_eq]at h4
      exact .inr (.inr ⟨x,j3,su h2,Sd,by rw[h4.1];exact hx,h4.2⟩)
     ·cases h4
   ·rename_i j x n ps he
    cases he
    rw[bB]at hc
    have h1:=hc.1
    simp only[bB]at h1
    obtain⟨⟨⟨h2,h3⟩,h4⟩,h5⟩:=h1
    have Sd:lz rn j=none:=by
     split at h3
     ·rename_i hn;exact hn
     ·cases h3
    split at h5
    ·rename_i y m hx
     simp only[bB]at h5
     exact .inr ⟨j,x,n,m,rfl,rfl,su h2,Sd,h4,by rw[Lf.beq_eq h5.1];exact hx,h5.2⟩
    ·cases h5
   ·cases hc
  ·exact Jw ln r v hm
theorem Jx{s:St}{a0 i0:Nat}{xs:List Lf}{rn:lj}:∀{h:St},ES s a0 i0 xs rn h=true->∀r v,(r,v)∈h->∃ag hs cs,v=.v ag hs∧s.get r=.v ag cs∧u9 s a0 i0 xs rn cs hs=true∧(∀j,r≠.o j)∧∀b,r=.x b->b<i0
 | [],_,r,v,hm=>by simp at hm
 |(r0,v0)::h,hc,r,v,hm=>by
  have ln:ES s a0 i0 xs rn h=true:=by
   unfold ES at hc
   split at hc
   ·rename_i he;cases he
   ·rename_i he;cases he;simp only[bB]at hc;exact hc.2
   ·cases hc
  rcases List.mem_cons.1 hm with hm|hm
  ·cases hm
   unfold ES at hc
   split at hc
   ·rename_i he;cases he
   ·rename_i r' ag hs ps he
    cases he
    simp only[bB]at hc
    obtain⟨⟨h1,h2⟩,_⟩:=hc
    split at h2
    ·rename_i r8 cs iR
     simp only[bB,beq_iff_eq]at h2
     refine⟨ag,hs,cs,rfl,by rw[h2.1];exact iR,h2.2,(λj he=>by subst he;cases h1),λb he=>by subst he;exact su h1⟩
    ·cases h2
   ·cases hc
  ·exact Jx ln r v hm
def Gh.eU(G:Gh)(i0:Nat)(rn:lj):Gh where
 ω:=λb=>match G.ω b with
  |some .f=>some .f
  |some (.x j)=>if j<i0 then some (.x j)else none
  |some (.o j p)=>match lz rn j with
   |some k=>some (.o k p)
   |none=>if j<i0 then some (.o j p)else none
  |none=>none
 β:=G.β
 H:=λj=>match lO rn j with
  |some (some id)=>G.H id
  |some none=>λ_=>.slice none 0 0
  |none=>G.H j
 hs:=λj p=>by
  rcases hr:lO rn j with _|(_|id)
  ·exact G.hs j p
  ·exact⟨_,_,_,rfl⟩
  ·exact G.hs _ p
section
variable {M:Nat->Prop} {B:dt} {d:Nat} {up:Nat->Nat->Value} {ρ:List T} {G:Gh} {a:Act} {w:World} {s:St}
def Gh.oD(G:Gh)(id tk:Nat):Gh where
 ω:=λb=>match G.ω b with
  |some (.o i p)=>if i=id then(match p with| []=>none|x::p=>some (.o tk (x::p)))else some (.o i p)
  |l=>l
 β:=G.β
 H:=λi=>if i=tk then G.H id else G.H i
 hs:=λi p=>by
  by_cases h:i=tk
  ·simp only[h,if_true];exact G.hs id p
  ·simp only[h,if_false];exact G.hs i p
theorem Se{id tk:Nat}(ht:tk%4=2){I:Lb->Prop}(hI:∀p,I (.o id p)):cB I (λi=>i=tk) G w (G.oD id tk) w:=by
 refine⟨Nat.le_refl _,λb _ hb=>⟨z_ hb (λh0=>by simp[Gh.oD,h0]) λl hl hq=>?_,rfl⟩,λb _ hb=>by simp[Gh.oD,hb],λb l hl hn=>⟨?_,rfl⟩,λi hi=>⟨rfl,λp _=>by simp[Gh.oD,hi]⟩⟩
 ·cases l with
  |o i p=>
   simp only[Gh.oD,hl]
   split
   ·cases p with
    |nil=>exact .inl rfl
    |cons x p=>exact .inr ⟨_,rfl,Bq ht⟩
   ·exact .inr ⟨_,rfl,hq⟩
  |_=>simp[qt]at hq
 ·cases l with
  |o i p=>
   have:i≠id:=λe=>hn (e▸hI p)
   simp[Gh.oD,hl,this]
  |_=>simp[Gh.oD,hl]
theorem Rel.Sf(h:Rel M B d up s ρ G a w){id tk:Nat}{x:Lf}(hx:s.get (.o id)=.ob true x)(ht:tk%4=2)(hM:¬M tk){M':Nat->Prop}(uv:∀i,M i∨i=tk->M' i):
  ∃G',Rel M' B d up ((s.set (.o id) (.fz (.w tk x (.k (.int .i64 0))) x)).set (.o tk) (.tk x x)) ρ G' a w:=by
 have qj:M id:=h.key id (.inr (by rw[hx];simp))
 have cP:id≠tk:=λe=>hM (e▸qj)
 obtain⟨t,lA,aT⟩:=(by simpa only[hx]using h.ob id:bZ G w ρ id (.ob true x))
 obtain⟨xs,rfl⟩:∃ys,t=.l ys:=by cases aT<;>exact⟨_,rfl⟩
 have ki:∀i j ys,cI xs i j=some (.l ys)->dh (G.oD id tk) w tk true [(i,j)] (.l ys):=by
  intro i j ys aR
  refine(aT.rows i j ys aR).move rfl (λb q hb=>⟨?_,rfl⟩) λq=>?_
  ·simp only[List.cons_append,List.nil_append]at hb⊢
   simp[Gh.oD,hb]
  ·simp[Gh.oD]
 have rB:∀p,lY [(aM.o tk,SV.tk x x),(aM.o id,SV.fz (.w tk x (.k (.int .i64 0))) x)] (.o id p):=by
  intro p
  show St.look _ (aM.o id)≠none
  simp only[St.look]
  cases(aM.o tk).beq (.o id)<;>simp[(aM.beq_iff (r:=aM.o id)).2 rfl]
 have CR:(G.oD id tk).H id []=G.H id []:=by simp[Gh.oD,cP]
 refine⟨G.oD id tk,(h.HW (M':=M') (N:=λi=>i=tk) (W:=[(.o tk,.tk x x),(.o id,.fz (.w tk x (.k (.int .i64 0))) x)]) (Se ht rB) (λi hi=>by subst hi;exact hM) (λi hi=>uv i (.inl hi)) (λr u hl=>?_) λb l hb=>?_).congr λr=>?_⟩
 ·rcases gh hl with⟨e1,e2⟩|hl
  ·subst e1 e2
   refine⟨tk,rfl,⟨ht,xs,xs,lA,lA,rfl,λi r hr _=>⟨hr,λj ys hy=>ki i j ys (by simp[cI,hr,hy])⟩⟩,uv tk (.inr rfl),λi hi=>by simp[cp]at hi⟩
  ·rcases gh hl with⟨e1,e2⟩|hl
   ·subst e1 e2
    refine⟨id,rfl,⟨.l xs,lA,?_,ht,xs,0,xs,lA,by simp[jT,Lf.ej,ib],rfl,λi r hr=>by rw[Nat.zero_add];exact hr,?_,λ_ b off k c hv=>?_⟩,uv id (.inl qj),λi hi=>by simp[cp]at hi;subst hi;exact uv _ (.inr rfl)⟩
    ·rw[CR]
     cases aT with
     |nil hH=>rw[hH];exact .nil
     | @l _ _ _ b wd cap aX elem cv g1 g2 g3 g4 g5 g6 g7 g8 g9 pD vk=>
      rw[g1]
      refine .l (cv:=cv) g6 g2.1 (s6 (by simp[Gh.oD,g3])) (z' g4) (λi j t ht=>by rw[rf g4,Nat.zero_add];exact g7 i j t ht) λi j t hY=>?_
      cases t with
      |c v=>obtain⟨hv,hs⟩:=g8 i j v hY;rw[hv];exact .c hs
      |l ys=>
       have e:=pD i j ys hY rfl
       simp only[List.nil_append]at e
       rw[e]
       have:=(ki i j ys hY).GZ (.inl ht) rfl
       rwa[show(G.oD id tk).H tk=G.H id by simp[Gh.oD]]at this
    ·rw[CR]
     intro b off k c hv
     cases aT with
     |nil hH=>rw[hH]at hv;cases hv
     | @l _ _ _ b0 wd cap aX elem cv g1 g2 g3 g4 g5 g6 g7 g8 g9 pD vk=>
      rw[g1]at hv
      cases hv
      refine⟨wd,g6,λi j ys aR=>?_⟩
      rw[rf g4,Nat.zero_add,g7 i j _ aR,pD i j ys aR rfl]
      simp[Gh.oD]
    ·rw[CR]at hv
     cases aT with
     |nil hH=>rw[hH]at hv;cases hv
     |l g1=>rw[g1]at hv;cases hv;rfl
   ·cases hl
 ·cases hg:G.ω b with
  |none=>simp[Gh.oD,hg]at hb
  |some l0=>
   have qe:=h.fg b l0 hg
   refine⟨?_,qe.2⟩
   cases l0 with
   |o i p=>
    simp only[Gh.oD,hg]at hb
    split at hb
    ·cases p with
     |nil=>cases hb
     |cons x p=>cases hb;exact uv tk (.inr rfl)
    ·cases hb;exact uv _ (.inl qe.1)
   |_=>simp[Gh.oD,hg]at hb;subst hb;exact uv _ (.inl qe.1)
 ·simp only[St.dT]
theorem Rel.fP:∀{js:List (Nat×Bool)} {cs:List Ce} {s:St} {ct:Ct} {G:Gh},Rel (λi=>i<ct.i) B d up s ρ G a w->
  (∃G',Rel (λi=>i<(Go.Proofs.YtbhplkilhknciaaC.fP s ct cs js).2.i) B d up (Go.Proofs.YtbhplkilhknciaaC.fP s ct cs js).1 ρ G' a w)∧(Go.Proofs.YtbhplkilhknciaaC.fP s ct cs js).2.a=ct.a∧ct.i<=(Go.Proofs.YtbhplkilhknciaaC.fP s ct cs js).2.i
 | [],cs,s,ct,G,h=>⟨⟨G,h⟩,rfl,Nat.le_refl _⟩
 |(j,b)::js,cs,s,ct,G,h=>by
  unfold Go.Proofs.YtbhplkilhknciaaC.fP
  split
  ·rename_i id _
   split
   ·rename_i x hx
    cases he:Nat.beq (id%2) 0 with
    |false=>exact Rel.fP h
    |true=>
     simp only[cond_true]
     have hle:=GJ ct.i
     obtain⟨G',h'⟩:=h.Sf hx (GK ct.i) (by omega) (M':=λi=>i<li ct.i+1) (λi hi=>by rcases hi with hi|hi<;>omega)
     obtain⟨g1,g2,g3⟩:=Rel.fP (js:=js) (cs:=cs) (ct:=⟨ct.a,li ct.i+1⟩) h'
     exact⟨g1,g2,Nat.le_trans (by show ct.i<=li ct.i+1;omega) g3⟩
   ·exact Rel.fP h
  ·exact Rel.fP h
theorem Rel.gW{d':Nat}:∀{js:Js} {s:St} {ct:Ct} {G:Gh},Rel (λi=>i<ct.i) B d up s ρ G a w->
  (∃G',Rel (λi=>i<(Go.Proofs.YtbhplkilhknciaaC.gW d' s ct js).2.i) B d up (Go.Proofs.YtbhplkilhknciaaC.gW d' s ct js).1 ρ G' a w)∧(Go.Proofs.YtbhplkilhknciaaC.gW d' s ct js).2.a=ct.a∧ct.i<=(Go.Proofs.YtbhplkilhknciaaC.gW d' s ct js).2.i
 | [],s,ct,G,h=>⟨⟨G,h⟩,rfl,Nat.le_refl _⟩
 |(n,bx,.rows rj)::l,s,ct,G,h=>by
  simp only[Go.Proofs.YtbhplkilhknciaaC.gW]
  obtain⟨⟨G',h'⟩,g2,g3⟩:=h.fP (js:=rj) (cs:=mT (s.get (u5 d' s n bx)))
  obtain⟨f1,f2,f3⟩:=Rel.gW (d':=d') (js:=l) h'
  exact⟨f1,f2.trans g2,Nat.le_trans g3 f3⟩
 |(n,bx,.drop)::l,s,ct,G,h=>Rel.gW (js:=l) h
 |(n,bx,.aO _ _)::l,s,ct,G,h=>Rel.gW (js:=l) h
theorem Rel.vY:∀{l:List (Nat×Bool)} {s:St} {G:Gh},Rel M B d up s ρ G a w->∃G',Rel M B d up (z7 s l) ρ G' a w∧fJ G G'
 | [],s,G,h=>⟨G,h,.refl _⟩
 |(id,all)::l,s,G,h=>by
  simp only[z7]
  split
  ·rename_i dp x hx
   cases all with
   |true=>obtain⟨G',h1,h2⟩:=Rel.vY (l:=l) (h.jY hx);exact⟨G',h1,(G.mc id true).trans h2⟩
   |false=>obtain⟨G',h1,h2⟩:=Rel.vY (l:=l) (h.flat hx);exact⟨G',h1,(G.mc id false).trans h2⟩
  ·exact Rel.vY (l:=l) h
theorem Rel.fF:∀{js:List (Nat×Bool)} {cs:List Ce} {s:St} {G:Gh},Rel M B d up s ρ G a w->∃G',Rel M B d up (Go.Proofs.YtbhplkilhknciaaC.fF s cs js) ρ G' a w
 | [],cs,s,G,h=>⟨G,h⟩
 |(j,all)::js,cs,s,G,h=>by
  simp only[Go.Proofs.YtbhplkilhknciaaC.fF]
  split
  ·split
   ·rename_i dp x hx
    cases all with
    |true=>exact Rel.fF (js:=js) (h.jY hx)
    |false=>exact Rel.fF (js:=js) (h.flat hx)
   ·exact Rel.fF (js:=js) h
  ·exact Rel.fF (js:=js) h
theorem Rel.gI{d':Nat}:∀{js:Js} {s:St} {G:Gh},Rel M B d up s ρ G a w->∃G',Rel M B d up (Go.Proofs.YtbhplkilhknciaaC.gI d' s js) ρ G' a w
 | [],s,G,h=>⟨G,h⟩
 |(n,bx,.rows js)::l,s,G,h=>by
  simp only[Go.Proofs.YtbhplkilhknciaaC.gI]
  obtain⟨G',h'⟩:=h.fF (js:=js) (cs:=mT (s.get (u5 d' s n bx)))
  exact Rel.gI (js:=l) h'
 |(n,bx,.drop)::l,s,G,h=>Rel.gI (js:=l) h
 |(n,bx,.aO _ _)::l,s,G,h=>Rel.gI (js:=l) h
theorem Jy{a0 i0 i1:Nat}{xs:List Lf}{rn:lj}(hi:∀j x,lO rn j=some x->j<i1)(Jz:i0<=i1):∀{cs hs:List Ce},u9 s a0 i0 xs rn cs hs=true->∀j∈cJ hs,j<i1
 | [],[],_,j,hj=>by simp[cJ]at hj
 |c::cs,h::hs,hc,j,hj=>by
  simp only[u9,bB]at hc
  rw[s7]at hj
  rcases List.mem_append.1 hj with hj|hj
  ·have h1:=hc.1
   unfold Bh at h1
   rw[Bool.or_eq_true]at h1
   rcases h1 with h1|h1
   ·simp only[bB]at h1
    exact Nat.lt_of_lt_of_le (AB (n:=a0) (i:=i0) (by simp[u7,h1.2]) j hj) Jz
   ·split at h1
    ·simp[cJ]at hj
    ·simp[cJ]at hj
    ·simp[cJ]at hj
    ·simp only[bB]at h1
     have h2:=h1.2
     split at h2
     ·rename_i qL;simp[cJ]at hj;subst hj;exact hi _ _ qL
     ·cases h2
    ·simp only[bB]at h1
     have h2:=h1.2
     split at h2
     ·rename_i qL;simp[cJ]at hj;subst hj;exact hi _ _ qL
     ·cases h2
    ·simp[cJ]at hj
    ·cases h1
  ·exact Jy hi Jz hc.2 j hj
 | [],_::_,hc,_,_=>by simp[u9]at hc
 |_::_,[],hc,_,_=>by simp[u9]at hc
theorem JA{G':Gh}{a0 i0:Nat}{xs:List Lf}{rn:lj}{mP e:List T}(hr:Rel M B d up s (mP++e) G a w)(hl:mP.length=a0)(k:cB (λl=>True) (λj=>¬j<i0) G w G' w)
  (hH:∀j x,lO rn j=some x->G'.H j=match x with|some id=>G.H id|none=>λ_=>.slice none 0 0):
  ∀{cs hs:List Ce} {vs:List Value},u9 s a0 i0 xs rn cs hs=true->aF G w (mP++e) cs vs->aF G' w (mP++xs.map (Lf.ev (mP++e))) hs vs
 | [],[],[],_,_=>trivial
 |c::cs,h::hs,v::vs,hc,gL=>by
  simp only[u9,bB]at hc
  refine⟨?_,JA hr hl k hH hc.2 gL.2⟩
  have tK:tJ a0 (mP++e) (mP++xs.map (Lf.ev (mP++e))):=λm hm=>by
   rw[List.getElem?_append_left (by omega),List.getElem?_append_left (by omega)]
  have h1:=hc.1
  have oC:=gL.1
  clear hc gL
  unfold Bh at h1
  rw[Bool.or_eq_true]at h1
  rcases h1 with h1|h1
  ·simp only[bB]at h1
   have:=Ce.beq_eq h1.1
   subst this
   have hb:∀j∈cJ [h],j<i0:=AB (n:=a0) (by simp[u7,h1.2])
   exact(oC.pa tK h1.2).aG k λj hj hn=>hn (hb j hj)
  ·split at h1
   ·rename_i n x
    obtain⟨t,ht,hd⟩:=oC
    exact⟨t,by rw[<-Lf.aZ ht];exact CQ h1 hl,hd.aG k.size k.free⟩
   ·rename_i n
    have hv:v=.slice none 0 0:=oC
    subst hv
    exact⟨.l [],CQ h1 hl,.nil⟩
   ·rename_i n id
    split at h1
    ·rename_i x hx
     have cS:=hr.ob id
     rw[hx]at cS
     obtain⟨t,ht,hd,_⟩:=cS
     obtain⟨p,hp,hv⟩:=oC
     simp only[ke,aJ]at hp
     subst hp
     rw[hv]
     exact⟨t,by rw[<-Lf.aZ ht];exact CQ h1 hl,hd.aG k.size k.free⟩
    ·cases h1
   ·rename_i j
    simp only[bB]at h1
    have h2:=h1.2
    split at h2
    ·rename_i qL
     have hv:v=.slice none 0 0:=oC
     subst hv
     exact⟨[],rfl,by rw[hH _ _ qL]⟩
    ·cases h2
   ·rename_i j id
    simp only[bB]at h1
    have h2:=h1.2
    split at h2
    ·rename_i qK qL
     have:=cK h2
     subst this
     obtain⟨p,hp,hv⟩:=oC
     simp only[ke,aJ]at hp
     subst hp
     exact⟨[],rfl,by rw[hH _ _ qL];exact hv⟩
    ·cases h2
   ·exact oC.one
   ·cases h1
 | [],_::_,_,hc,_=>by simp[u9]at hc
 |_::_,[],_,hc,_=>by simp[u9]at hc
 | [],[],_::_,_,h=>h.elim
 |_::_,_::_,[],_,h=>h.elim
theorem JB{h:Head}{xs:List Lf}{d':Nat}{mP e:List T}(hm:Go.Proofs.YtbhplkilhknciaaC.eU d' h s=some xs)(hr:Rel M B d up s (mP++e) G a w)(hl:mP.length=h.c0.a)(uw:∀i b,B.bt i=some b->i<h.c0.i):
  (mP++xs.map (Lf.ev (mP++e))).length=h.ct.a∧∃G',Rel (λi=>i<h.ct.i) B d up h.st (mP++xs.map (Lf.ev (mP++e))) G' a w:=by
 unfold Go.Proofs.YtbhplkilhknciaaC.eU at hm
 simp only[bQ]at hm
 obtain⟨⟨NT,rn⟩,_,hm⟩:=hm
 obtain⟨G1,hr,_⟩:=hr.vY (l:=Bg d' h.s0 s h.js)
 generalize z7 s (Bg d' h.s0 s h.js)=s1 at hm hr
 cases hc:Bj h s1 NT rn with
 |false=>simp[hc]at hm
 |true=>
  simp only[hc,cond_true,aJ]at hm
  subst hm
  unfold Bj at hc
  simp only[bB]at hc
  obtain⟨⟨⟨⟨⟨⟨c1,c2⟩,c3⟩,c4⟩,c5⟩,c6⟩,c7⟩:=hc
  have hlen:=cK c1
  have AC:=Nat.le_of_ble_eq_true c3
  have CN:=su c2
  have vZ:=Jr c4
  refine⟨by rw[List.length_append,List.length_map,hl,hlen],G1.eU h.c0.i rn,?_⟩
  have tK:tJ h.c0.a (mP++e) (mP++NT.map (Lf.ev (mP++e))):=λm hm=>by
   rw[List.getElem?_append_left (by omega),List.getElem?_append_left (by omega)]
  have rF:∀b,G1.ω b=none->(G1.eU h.c0.i rn).ω b=none:=λb hb=>by simp[Gh.eU,hb]
  have cd:∀b,G1.q b=none->(G1.eU h.c0.i rn).q b=none:=λb hb=>by
   refine z_ hb (rF b) λl hl hq=>?_
   cases l with
   |o j p=>
    simp only[Gh.eU,hl]
    cases qL:lz rn j with
    |some k=>
     refine .inr ⟨.o k p,rfl,pS (Jt c4 _ _ (Fa qL)) λe=>?_⟩
     subst e
     rw[xW (Ju c4 _ _ (Fa qL))]at hq
     cases hq
    |none=>
     by_cases hj:j<h.c0.i
     ·exact .inr ⟨.o j p,by simp[hj],hq⟩
     ·exact .inl (by simp[hj])
   |_=>simp[qt]at hq
  have kt:∀j,j<h.c0.i->(G1.eU h.c0.i rn).H j=G1.H j:=by
   intro j hj
   have:lO rn j=none:=by
    cases qL:lO rn j with
    |none=>rfl
    |some x=>have:=(vZ j x (Fb qL)).1;omega
   simp[Gh.eU,this]
  have Sg:∀j x,lO rn j=some x->(G1.eU h.c0.i rn).H j=match x with|some id=>G1.H id|none=>λ_=>.slice none 0 0:=by
   intro j x hj
   show(match lO rn j with|some (some id)=>G1.H id|some none=>_|none=>G1.H j)=_
   rw[hj]
   cases x<;>rfl
  have kI:cB (λl=>match l with| .f=>False| .x j=>¬j<h.c0.i| .o j _=>lz rn j≠none∨¬j<h.c0.i) (λj=>¬j<h.c0.i) G1 w (G1.eU h.c0.i rn) w:=by
   refine⟨Nat.le_refl _,λb _ hb=>⟨cd b hb,rfl⟩,λb _ hb=>rF b hb,λb l hb hl=>⟨?_,rfl⟩,λj hj=>⟨rfl,λp _=>by rw[kt j (Decidable.not_not.1 hj)]⟩⟩
   cases l with
   |f=>simp[Gh.eU,hb]
   |x j=>simp only[Gh.eU,hb];rw[if_pos (Decidable.not_not.1 hl)]
   |o j p=>
    have h1:lz rn j=none:=by
     cases qL:lz rn j with
     |none=>rfl
     |some k=>exact absurd (.inl (by rw[qL];simp)) hl
    have h2:j<h.c0.i:=Decidable.not_not.1 λhn=>hl (.inr hn)
    simp only[Gh.eU,hb,h1];rw[if_pos h2]
  have kT:=kI.mono (I':=λ_=>True) (λ_ _=>trivial) λ_ hn=>hn
  have aT:∀r v,(r,v)∈h.own->∃j,r=.o j∧j<h.ct.i∧bZ (G1.eU h.c0.i rn) w (mP++NT.map (Lf.ev (mP++e))) j v∧cp v=[]:=by
   intro r v hm
   rcases Jw c6 r v hm with⟨j,dp,n,rfl,rfl,lE⟩|⟨j,x,n,m,rfl,rfl,h1,h2,h3,h4,h5⟩
   case inr=>
    refine⟨j,rfl,by omega,?_,rfl⟩
    have cS:=hr.ob j
    rw[h4]at cS
    obtain⟨g0,F,u,g1,g2,g3,g4⟩:=cS
    refine⟨g0,F,u,by rw[<-Lf.eN tK h3];exact g1,by rw[<-Lf.aZ g2];exact CQ h5 hl,g3,λi r hi cP=>⟨(g4 i r hi cP).1,λc ys hy=>((g4 i r hi cP).2 c ys hy).aG kI (λp hp=>?_) λhn=>hn h1⟩⟩
    rcases hp with hp|hp
    ·exact hp h2
    ·exact hp h1
   rcases lE with⟨id,x,h1,h2,h3⟩|⟨h1,h3⟩|⟨x,h1,h2,h3,h4,h5⟩
   ·obtain⟨q1,q2,q3⟩:=vZ j (some id) (Fb h1)
    refine⟨j,rfl,q2,?_,rfl⟩
    have cS:=hr.ob id
    rw[h2]at cS
    obtain⟨t,ht,ho⟩:=cS
    refine⟨t,by rw[<-Lf.aZ ht];exact CQ h3 hl,?_⟩
    have nc:=q3 id rfl
    have eT:∀c p,G1.ω c=some (.o id p)->(G1.eU h.c0.i rn).ω c=some (.o j p):=λc p ss=>by simp[Gh.eU,ss,nc]
    have hHj:=Sg j _ h1
    cases dp with
    |true=>exact ho.move rfl (λc p ss=>⟨eT c p ss,rfl⟩) λp=>by rw[hHj]
    |false=>exact ho.nJ (λc ss=>eT c [] ss) (by rw[hHj]) cd
   ·obtain⟨q1,q2,_⟩:=vZ j none (Fb h1)
    exact⟨j,rfl,q2,⟨.l [],CQ h3 hl,.nil (by rw[Sg j _ h1])⟩,rfl⟩
   ·refine⟨j,rfl,by omega,?_,rfl⟩
    have cS:=hr.ob j
    rw[h4]at cS
    obtain⟨t,ht,ho⟩:=cS
    refine⟨t,by rw[<-Lf.aZ ht];exact CQ h5 hl,ho.aG kI (λp hp=>?_) λhn=>hn h2⟩
    rcases hp with hp|hp
    ·exact hp h3
    ·exact hp h2
  have iZ:∀r v,(r,v)∈h.new->∃ag hs cs,v=.v ag hs∧s1.get r=.v ag cs∧(∀vs,aF G1 w (mP++e) cs vs->aF (G1.eU h.c0.i rn) w (mP++NT.map (Lf.ev (mP++e))) hs vs)∧(∀j∈cp v,j<h.ct.i)∧(∀j,r≠.o j)∧∀b,r=.x b->b<h.c0.i:=by
   intro r v hm
   obtain⟨ag,hs,cs,rfl,h1,h2,h3,h4⟩:=Jx c7 r v hm
   exact⟨ag,hs,cs,rfl,h1,λvs hv=>JA hr hl kT Sg h2 hv,λj hj=>Jy (i1:=h.ct.i) (λj x hj=>(vZ j x (Fb hj)).2.1) AC h2 j hj,h3,h4⟩
  have cU:∀r,h.st.get r=.un∨(r,h.st.get r)∈h.kept∨(r,h.st.get r)∈h.own∨(r,h.st.get r)∈h.new:=by
   intro r
   rw[St.pT]
   cases BR:h.st.look r with
   |none=>exact .inl rfl
   |some v=>
    have:=yF BR
    simp only[Head.st,List.mem_append]at this
    exact .inr (by simpa[or_assoc]using this)
  have qo:=Jv c5
  refine⟨λx n hx=>?_,λb=>?_,λi=>?_,λr i hi=>?_,λi hi=>?_,λb l hb=>?_,hr.dn,?_,λi b hb=>⟨Nat.lt_of_lt_of_le (uw i b hb) AC,(hr.bt i b hb).2⟩⟩
  ·rcases cU (.t x n)with hu|hm|hm|hm
   ·rw[hu];trivial
   ·rcases qo _ _ hm with hu|⟨he,hb,_,_⟩
    ·rw[hu];trivial
    ·rw[he]
     rw[he]at hb
     exact((hr.tm x n hx).pa tK hb).aG kT λj hj hn=>hn (SV.nh hb j hj)
   ·obtain⟨j,e1,_⟩:=aT _ _ hm;cases e1
   ·obtain⟨ag,hs,cs,e1,e2,e3,_⟩:=iZ _ _ hm
    rw[e1]
    have:=hr.tm x n hx
    rw[e2]at this
    cases ag with
    |true=>obtain⟨vs,g1,g2⟩:=this;exact⟨vs,g1,e3 vs g2⟩
    |false=>
     obtain⟨c,rfl,g2,g3⟩:=this
     have:=e3 [mJ up d a x n] ⟨g2,trivial⟩
     match hs,this with
     | [c'],this=>exact⟨c',rfl,this.1,g3⟩
  ·rcases cU (.x b)with hu|hm|hm|hm
   ·rw[hu];trivial
   ·rcases qo _ _ hm with hu|⟨he,hb,_,JC⟩
    ·rw[hu];trivial
    ·rw[he]
     rw[he]at hb
     have bH:=JC b rfl
     exact((hr.bx b).pa tK hb).aG kI (λhf=>hf bH) (λhn=>hn bH) λj hj hn=>hn (SV.nh hb j hj)
   ·obtain⟨j,e1,_⟩:=aT _ _ hm;cases e1
   ·obtain⟨ag,hs,cs,e1,e2,e3,_,_,e4⟩:=iZ _ _ hm
    rw[e1]
    have:=hr.bx b
    rw[e2]at this
    obtain⟨g1,aX,elem,g2,g3⟩:=this
    refine⟨?_,aX,elem,g2,e3 _ g3⟩
    show(G1.eU h.c0.i rn).ω (G1.β b)=_
    simp only[Gh.eU,g1]
    rw[if_pos (e4 b rfl)]
  ·rcases cU (.o i)with hu|hm|hm|hm
   ·rw[hu];trivial
   ·rcases qo _ _ hm with hu|⟨he,hb,hoi,_⟩
    ·rw[hu];trivial
    ·rw[he]
     rw[he]at hb
     obtain⟨q1,q2⟩:=hoi i rfl
     refine((hr.ob i).pa tK hb).aG kI (λp hp=>?_) (λhn=>hn q1) λj hj hn=>hn (SV.nh hb j hj)
     rcases hp with hp|hp
     ·exact hp q2
     ·exact hp q1
   ·obtain⟨j,e1,_,e2,_⟩:=aT _ _ hm;cases e1;exact e2
   ·obtain⟨ag,hs,cs,e1,e2,e3,_,e4,_⟩:=iZ _ _ hm;exact absurd rfl (e4 i)
  ·rcases cU r with hu|hm|hm|hm
   ·rw[hu]at hi;simp[cp]at hi
   ·rcases qo _ _ hm with hu|⟨he,hb,_,_⟩
    ·rw[hu]at hi;simp[cp]at hi
    ·exact Nat.lt_of_lt_of_le (SV.nh hb i hi) AC
   ·obtain⟨j,_,_,_,e2⟩:=aT _ _ hm;rw[e2]at hi;cases hi
   ·obtain⟨ag,hs,cs,e1,e2,e3,e4,_⟩:=iZ _ _ hm;exact e4 i hi
  ·have key:∀r:aM,(r=.x i∨r=.o i)->h.st.get r≠.un->i<h.ct.i:=by
    intro r JD cP
    rcases cU r with hu|hm|hm|hm
    ·exact absurd hu cP
    ·rcases qo _ _ hm with hu|⟨he,hb,g1,g2⟩
     ·exact absurd hu cP
     ·rcases JD with rfl|rfl
      ·exact Nat.lt_of_lt_of_le (g2 i rfl) AC
      ·exact Nat.lt_of_lt_of_le (g1 i rfl).1 AC
    ·obtain⟨j,e1,e2,_⟩:=aT _ _ hm
     rcases JD with rfl|rfl
     ·cases e1
     ·cases e1;exact e2
    ·obtain⟨ag,hs,cs,e1,e2,e3,_,e4,e5⟩:=iZ _ _ hm
     rcases JD with rfl|rfl
     ·exact Nat.lt_of_lt_of_le (e5 i rfl) AC
     ·exact absurd rfl (e4 i)
   rcases hi with hi|hi
   ·exact key _ (.inl rfl) hi
   ·exact key _ (.inr rfl) hi
  ·cases nf:G1.ω b with
   |none=>simp[Gh.eU,nf]at hb
   |some l'=>
    have bH:=(hr.fg b l' nf).2
    refine⟨?_,bH⟩
    cases l' with
    |f=>simp[Gh.eU,nf]at hb;subst hb;exact CN
    |x j=>
     simp only[Gh.eU,nf]at hb
     split at hb
     ·rename_i hj;cases hb;exact Nat.lt_of_lt_of_le hj AC
     ·cases hb
    |o j p=>
     simp only[Gh.eU,nf]at hb
     split at hb
     ·rename_i k hk
      cases hb
      exact(vZ k _ (Fa hk)).2.1
     ·split at hb
      ·rename_i hj;cases hb;exact Nat.lt_of_lt_of_le hj AC
      ·cases hb
  ·obtain⟨b1,b2,b3,b4,b5,b6,b7⟩:=hr.base
   refine⟨b1,b2,b3,b4,λb hb h0=>⟨rF b (b5 b hb h0).1,(b5 b hb h0).2⟩,λb hb=>⟨by simp[Gh.eU,(b6 b hb).1],(b6 b hb).2⟩,b7⟩
end
def yV:Ex->Exit
 | .normal=>.normal
 | .exit id=>.exit id
 | .ret=>.ret
section
variable {B:dt} {f:Fr} {S:Nat->ay} {P:Program} {cx:Cx} {cn:lr} {bW dR:Nat} {R:Nat} {out:List T}
theorem tI.ext{Z Z':Zb}{k:KP}{Ψ:Act->World->Prop}(h:tI S R out B f Z k Ψ)(hK:∃pre,Z'.K=pre++Z.K)(lp:∃e,Z'.ρ=Z.ρ++e):tI S R out B f Z' k Ψ:=by
 rintro lv s ct fs p a w hk ⟨K,ρ,G,h1,h2,⟨pre,h3⟩,⟨e,h4⟩,h5⟩
 obtain⟨Sh,h6⟩:=hK
 obtain⟨e',h7⟩:=lp
 exact h lv s ct fs p a w hk ⟨K,ρ,G,h1,h2,⟨pre++Sh,by rw[h3,h6,List.append_assoc]⟩,⟨e'++e,by rw[h4,h7,List.append_assoc]⟩,h5⟩
theorem JE{K:List ay}{ρ:List T}{J:ay}{h:Head}{lv tag:Nat}{Ψ:Act->World->Prop}(hlv:K.length=lv)(hl:ρ.length=h.c0.a)(uw:∀i b,B.bt i=some b->i<h.c0.i)
  (hJ:∀ts a w G,J ts=some out->(ρ++ts).length=h.ct.a->Rel (λi=>i<h.ct.i) B f.d f.up h.st (ρ++ts) G a w->a.tmps.size=f.nt->Ψ a w):tI S R out B f ⟨J::K,ρ⟩ (GU f.d h lv tag) Ψ:=by
 rintro Nr s' ff gx p a w hk ⟨K2,yW,G,h1,h2,⟨pre,h3⟩,⟨e,h4⟩,h5,h6,h7,h8,_⟩
 unfold GU at hk
 split at hk
 ·rename_i xs hm
  cases hk
  simp only at h3 h4
  subst h4
  obtain⟨g1,G',g2⟩:=JB hm h7 hl uw
  simp only[PL.den]at h1
  have Si:K2[Nr-lv-1]?=some J:=by
   rw[h3]
   have:K2.length=pre.length+(K.length+1):=by rw[h3];simp
   rw[List.getElem?_append_right (by omega),show Nr-lv-1-pre.length=0 by omega]
   rfl
  rw[Si]at h1
  exact hJ _ a w G' h1 g1 g2 h8
 ·cases hk;cases h1
theorem CS{Z:Zb}{K0:KP}{h:Head}{lv:Nat}{fs:gV}{k b:PL}{a:Act}{w:World}{s:St}{ct:Ct}{js:Js}{Ψ:Act->World->Prop}(hh:h=wT f.d s ct js)(hk:K0 lv h.st h.ct fs=some k)(hS:tI S R out B f Z K0 Ψ)
  (aR:At S R out B f Z XT (.join k b) lv s ct fs a w):∃Z',(∃pre,Z'.K=pre++Z.K)∧(∃e,Z'.ρ=Z.ρ++e)∧At S R out B f Z' XT b (lv+1) s ct fs a w∧∀tag,tI S R out B f Z' (GU f.d h lv tag) Ψ:=by
 obtain⟨K,ρ,G,h1,h2,⟨pre,h3⟩,⟨e,h4⟩,h5,h6,h7,h8,_⟩:=aR
 simp only[PL.den]at h1
 have Ac:h.c0=ct:=by rw[hh];rfl
 refine⟨⟨(λts=>k.den S R K (ρ++ts))::K,ρ⟩,⟨_::pre,by simp[h3];rfl⟩,⟨e,h4⟩,⟨_,ρ,G,h1,by simp[h2],⟨[],rfl⟩,⟨[],by simp⟩,h5,h6,h7,h8,trivial⟩,λtag=>?_⟩
 refine JE h2 (by rw[Ac];exact h5) (λi b hb=>by rw[Ac];exact(h7.bt i b hb).1) λts a w G' hd hl hr hs=>?_
 exact hS lv h.st h.ct fs k a w hk ⟨K,ρ++ts,G',hd,h2,⟨pre,h3⟩,⟨e++ts,by rw[h4,List.append_assoc]⟩,hl,h6.ext,hr,hs,trivial⟩
theorem At.at{Z:Zb}{X:Gh->World->List T->Prop}{p:PL}{lv:Nat}{s:St}{ct:Ct}{fs:gV}{a:Act}{w:World}(h:At S R out B f Z X p lv s ct fs a w):True:=trivial
theorem JF{Z:Zb}{c:Operand}{x y:Code}{tag lv:Nat}{s:St}{ct:Ct}{fs:gV}{p:PL}{a:Act}{w:World}{Q:Exit->Act->World->Prop}{cx' cy':gV->Option PL}
  (h:xO tag (bz f.d s.get c) cx' cy' s fs=some p)(aR:At S R out B f Z XT p lv s ct fs a w)(hx:∀fs p,cx' fs=some p->At S R out B f Z XT p lv s ct fs a w->x.wp P Q a w)
  (hy:∀fs p,cy' fs=some p->At S R out B f Z XT p lv s ct fs a w->y.wp P Q a w):(Code.cond c x y).wp P Q a w:=by
 obtain⟨K,ρ,G,h1,h2,h3,h4,h5,h6,h7,h8,_⟩:=aR
 have gL:=(wW h7 c).1
 unfold xO at h
 split at h
 ·rename_i b hd
  have hc:=yK hd gL h6
  refine wp_cond hc ?_
  cases b with
  |true=>exact hx fs p h ⟨K,ρ,G,h1,h2,h3,h4,h5,h6,h7,h8,trivial⟩
  |false=>exact hy fs p h ⟨K,ρ,G,h1,h2,h3,h4,h5,h6,h7,h8,trivial⟩
 ·rename_i n hd
  simp only[bQ,aJ]at h
  obtain⟨px,hpx,py,hpy,rfl⟩:=h
  obtain⟨b,hb,hp⟩:=Cz h1
  have hc:=yK (yM (b:=b) hd) gL (h6.cons hb)
  refine wp_cond hc ?_
  cases b with
  |true=>exact hx _ px hpx ⟨K,ρ,G,hp,h2,h3,h4,h5,h6.cons hb,h7,h8,trivial⟩
  |false=>exact hy _ py hpy ⟨K,ρ,G,hp,h2,h3,h4,h5,h6.cons hb,h7,h8,trivial⟩
 ·cases h;cases h1
 ·cases h;cases h1
theorem JG(E:Env P cx S)(hI:vR P S R out B cn)(qi:P.follows .mixedOrders=true):∀(c:Code) (q9 lv:Nat) (s:St) (ct:Ct) (fs:gV) (KE:KE) (p:PL) (a:Act) (w:World) (Z:Zb) (Q:Exit->Act->World->Prop),
  r9 f.nt c=true->comp cx cn bW f.d c q9 lv s ct fs KE=some p->At S R out B f Z XT p lv s ct fs a w->(∀e,tI S R out B f Z (KE e) (Q (yV e)))->c.wp P Q a w:=by
 intro c
 induction c with
 |skip=>intro q9 lv s ct fs KE p a w Z Q _ h aR hK;exact wp_skip (hK .normal lv s ct fs p a w h aR)
 |label l=>intro q9 lv s ct fs KE p a w Z Q _ h aR hK;exact wp_label (hK .normal lv s ct fs p a w h aR)
 |seq x y NU NV=>
  intro q9 lv s ct fs KE p a w Z Q hd h aR hK
  simp only[r9,bB]at hd
  refine wp_seq (NU 0 lv s ct fs _ p a w Z _ hd.1 h aR λe=>?_)
  cases e with
  |normal=>exactλlv s ct fs p a w hk aR=>NV 0 lv s ct fs KE p a w Z Q hd.2 hk aR hK
  |exit id=>exact hK (.exit id)
  |ret=>exact hK .ret
 |region id ops draw=>
  intro q9 lv s ct fs KE p a w Z Q hd h aR hK
  have hn:∀o∈ops.toList,∀n,o.dst=some n->n<f.nt:=by
   intro o ho n hn
   have:=List.all_eq_true.1 hd o ho
   rw[hn]at this
   exact su this
  have Sj:∀p,At S R out B f Z XT p lv s ct fs a w->At S R out B f Z XT p lv (Bl cx bW f.d id s) ct fs a w:=by
   rintro p ⟨K,ρ,G,h1,h2,h3,h4,h5,h6,h7,h8,_⟩
   unfold Bl
   cases cx.n7 bW 4 id with
   |none=>exact⟨K,ρ,G,h1,h2,h3,h4,h5,h6,h7,h8,trivial⟩
   |some js=>
    obtain⟨G',Sk⟩:=h7.gI (js:=js) (d':=f.d)
    exact⟨K,ρ,G',h1,h2,h3,h4,h5,h6,Sk,h8,trivial⟩
  have JH:∀(s0:St) p,At S R out B f Z XT p lv s0 ct fs a w->At S R out B f Z XT p lv (xP cx bW f.d id s0 ct).1 (xP cx bW f.d id s0 ct).2 fs a w:=by
   rintro s0 p ⟨K,ρ,G,h1,h2,h3,h4,h5,h6,h7,h8,_⟩
   unfold xP
   cases cx.n7 bW 5 id with
   |none=>exact⟨K,ρ,G,h1,h2,h3,h4,h5,h6,h7,h8,trivial⟩
   |some js=>
    obtain⟨⟨G',Sk⟩,g2,_⟩:=h7.gW (js:=js) (d':=f.d)
    exact⟨K,ρ,G',h1,h2,h3,h4,h5.trans g2.symm,h6,Sk,h8,trivial⟩
  have jv:=JH _ p (Sj p aR)
  simp only[comp]at h
  split at h
  ·exact Jj E hI qi hn (hK .normal) h jv
  ·rename_i js hj
   simp only[bQ,aJ]at h
   obtain⟨k,hk,b,hb,rfl⟩:=h
   obtain⟨Z',z1,z2,rD,hS⟩:=CS rfl hk (hK .normal) jv
   exact Jj E hI qi hn (hS _) hb rD
 |cond c x y NU NV=>
  intro q9 lv s ct fs KE p a w Z Q hd h aR hK
  simp only[r9,bB]at hd
  simp only[comp]at h
  split at h
  ·exact JF h aR (λfs p hp aR=>NU 0 lv s ct fs KE p a w Z Q hd.1 hp aR hK) (λfs p hp aR=>NV 0 lv s ct fs KE p a w Z Q hd.2 hp aR hK)
  ·rename_i js hj
   simp only[bQ,aJ]at h
   obtain⟨k,hk,b,hb,rfl⟩:=h
   obtain⟨Z',z1,z2,rD,hS⟩:=CS rfl hk (hK .normal) aR
   have hKE:∀tag e,tI S R out B f Z' (u_ f.d (wT f.d s ct js) lv tag KE e) (Q (yV e)):=by
    intro tag e
    cases e with
    |normal=>exact hS tag
    |exit id=>exact(hK (.exit id)).ext z1 z2
    |ret=>exact(hK .ret).ext z1 z2
   exact JF hb rD (λfs p hp aR=>NU 0 (lv+1) s ct fs _ p a w Z' Q hd.1 hp aR (hKE _)) (λfs p hp aR=>NV 0 (lv+1) s ct fs _ p a w Z' Q hd.2 hp aR (hKE _))
 |block id body ih=>
  intro q9 lv s ct fs KE p a w Z Q hd h aR hK
  have sw:∀(Z:Zb) (Sl:Go.Proofs.YtbhplkilhknciaaC.KE),(∀e,tI S R out B f Z (Sl e) (Q (yV e)))->∀e,tI S R out B f Z (xL id Sl e) (Exit.inBlock id Q (yV e)):=by
   intro Z Sl hK e
   cases e with
   |normal=>exact hK .normal
   |ret=>exact hK .ret
   |exit i=>
    intro lv s ct fs p a w hk aR
    simp only[xL]at hk
    show(if i=id then Q .normal a w else Q (.exit i) a w)
    cases hb:Nat.beq i id with
    |true=>
     rw[hb]at hk
     rw[if_pos (cK hb)]
     exact hK .normal lv s ct fs p a w hk aR
    |false=>
     rw[hb]at hk
     rw[if_neg (λe=>by subst e;simp at hb)]
     exact hK (.exit i) lv s ct fs p a w hk aR
  simp only[comp]at h
  split at h
  ·exact wp_block (ih id lv s ct fs _ p a w Z _ hd h aR (sw Z KE hK))
  ·rename_i js hj
   simp only[bQ,aJ]at h
   obtain⟨k,hk,b,hb,rfl⟩:=h
   obtain⟨Z',z1,z2,rD,hS⟩:=CS rfl hk (hK .normal) aR
   refine wp_block (ih id (lv+1) s ct fs _ b a w Z' _ hd hb rD (sw Z' _ λe=>?_))
   cases e with
   |normal=>exact hS _
   |exit id=>exact(hK (.exit id)).ext z1 z2
   |ret=>exact(hK .ret).ext z1 z2
 |loop body ih=>
  intro q9 lv s ct fs KE p a w Z Q hd h aR hK
  simp only[comp]at h
  split at h
  ·cases h;obtain⟨K,ρ,G,h1,_⟩:=aR;cases h1
  ·rename_i js hj
   split at h
   ·cases h;obtain⟨K,ρ,G,h1,_⟩:=aR;cases h1
   ·rename_i xs hm
    simp only[bQ,aJ]at h
    obtain⟨b,hb,rfl⟩:=h
    obtain⟨K,ρ,G,h1,h2,⟨pre,h3⟩,⟨e,h4⟩,h5,h6,h7,h8,_⟩:=aR
    have uw:∀i b,B.bt i=some b->i<(wT f.d s ct js).c0.i:=λi b hb=>(h7.bt i b hb).1
    have key:∀(n:Nat) (ts:List T) (a:Act) (w:World) (G:Gh),iter (λself ts=>b.den S R (self::K) (ρ++ts)) n ts=some out->(ρ++ts).length=(wT f.d s ct js).ct.a->
      Rel (λi=>i<(wT f.d s ct js).ct.i) B f.d f.up (wT f.d s ct js).st (ρ++ts) G a w->a.tmps.size=f.nt->Code.rounds P body Q n a w:=by
     intro n
     induction n with
     |zero=>intro ts a w G hi;cases hi
     |succ n ihn=>
      intro ts a w G hi hl hr hs
      rw[rounds_succ]
      refine ih 0 (lv+1) _ _ fs _ b a w ⟨iter (λself ts=>b.den S R (self::K) (ρ++ts)) n::K,ρ⟩ _ hd hb ⟨_,ρ++ts,G,hi,by simp[h2],⟨[],rfl⟩,⟨ts,rfl⟩,hl,h6.ext,hr,hs,trivial⟩ λe'=>?_
      cases e' with
      |normal=>exact JE h2 h5 uw λts a w G hJ hl hr hs=>ihn ts a w G hJ hl hr hs
      |exit id=>exact(hK (.exit id)).ext ⟨_::pre,by simp[h3];rfl⟩ ⟨e,h4⟩
      |ret=>exact(hK .ret).ext ⟨_::pre,by simp[h3];rfl⟩ ⟨e,h4⟩
    simp only[PL.den]at h1
    obtain⟨g1,G',g2⟩:=JB (e:=[]) hm (by rw[List.append_nil];exact h7) h5 uw
    rw[List.append_nil]at g1 g2
    exact wp_loop_rounds R (key R _ a w G' h1 g1 g2 h8)
 |exit id=>intro q9 lv s ct fs KE p a w Z Q _ h aR hK;exact wp_exit (hK (.exit id) lv s ct fs p a w h aR)
 |ret=>intro q9 lv s ct fs KE p a w Z Q _ h aR hK;exact wp_ret (hK .ret lv s ct fs p a w h aR)
 |_=>intros;rename_i h aR _;simp only[comp,aJ]at h;subst h;obtain⟨K,ρ,G,h1,_⟩:=aR;cases h1
end
section
variable {M:Nat->Prop} {B:dt} {d:Nat} {up:Nat->Nat->Value} {ρ:List T} {G:Gh} {a:Act} {w:World} {s:St} {S:Nat->ay} {P:Program} {cx:Cx} {R:Nat} {out:List T}
theorem Sm{t:Nat}{ti:TI}(hT:pV P t ti){b off:Nat}{vs:List Value}(hl:vs.length=ti.sz)(hc:∀j v,vs[j]?=some v->w.cell? ⟨b,off+j,none⟩=some v):
  (loadVar t ⟨b,off,none⟩).run P w=.ok (if ti.ag then .agg vs.toArray else vs.getD 0 undef) w:=by
 have:=G_ (P:=P) hT hl hc
 simpa[Instr.loadAt,Instr.sureAddr]using this
def tL(tmps:Array Value):ResultVar->Sem Value
 | .tmp t=>pure (tmps.getD t undef)
 | .cell a t=>do loadVar t (<-asAddr (tmps.getD a undef))
theorem yX(cN:cW P cx)(hr:Rel M B d up s ρ G a w):∀{NW:List ResultVar} {rs:List SV},Go.Proofs.YtbhplkilhknciaaC.results cx d s NW=some rs->
  ∃us:List Value,(NW.mapM (tL a.tmps)).run P w=.ok us w∧cm G w ρ rs us∧∀v∈rs,∀i∈cp v,M i
 | [],rs,h=>by
  simp[Go.Proofs.YtbhplkilhknciaaC.results]at h
  subst h
  exact⟨[],rfl,trivial,λv hv=>by cases hv⟩
 | .tmp t::NW,rs,h=>by
  simp only[Go.Proofs.YtbhplkilhknciaaC.results,bQ,aJ]at h
  obtain⟨vs,mW,rfl⟩:=h
  obtain⟨us,g1,g2,g3⟩:=yX cN hr mW
  have ht:=hr.tm d t (Nat.le_refl _)
  simp only[mJ,if_true]at ht
  refine⟨a.tmps.getD t undef::us,?_,⟨ht,g2⟩,λv hv=>?_⟩
  ·rw[List.mapM_cons,Sem.run_bind]
   simp only[tL,Sem.run_pure,Result.andThen_ok,Sem.run_bind,g1]
  ·rcases List.mem_cons.1 hv with rfl|hv
   ·exact hr.eD _
   ·exact g3 v hv
 | .cell ad t::NW,rs,h=>by
  simp only[Go.Proofs.YtbhplkilhknciaaC.results,bQ]at h
  obtain⟨ti,ed,h⟩:=h
  have ht:=hr.tm d ad (Nat.le_refl _)
  simp only[mJ,if_true]at ht
  split at h
  ·rename_i bx off hpt
   split at h
   ·rename_i ag cs qI
    cases hb:Nat.ble (off+ti.sz) cs.length with
    |false=>simp[hb]at h
    |true=>
     simp only[hb,cond_true,bQ,aJ]at h
     obtain⟨vs,mW,rfl⟩:=h
     obtain⟨us,g1,g2,g3⟩:=yX cN hr mW
     rw[hpt]at ht
     have nI:=hr.bx bx
     rw[qI]at nI
     obtain⟨_,aX,elem,hh,iR⟩:=nI
     have hle:=Nat.le_of_ble_eq_true hb
     have hlen:=iR.length
     simp only[Array.length_toList]at hlen
     have hT:=cN.ty _ _ ed
     have mL:=aF.take ti.sz (aF.drop off iR)
     have lR:((aX.toList.drop off).take ti.sz).length=ti.sz:=by simp;omega
     have c_:=Sm (P:=P) (w:=w) (b:=G.β bx) (off:=off) hT lR (λj v hj=>by
      rw[rf hh]
      have bH:=(List.getElem?_eq_some_iff.1 hj).1
      rw[List.getElem?_take,if_pos (by omega),List.getElem?_drop]at hj
      simpa using hj)
     refine⟨_::us,?_,⟨Ha hT mL lR,g2⟩,λv hv=>?_⟩
     ·rw[List.mapM_cons,Sem.run_bind]
      simp only[tL,Sem.run_bind]
      rw[show a.tmps.getD ad undef=.pointer (some ⟨G.β bx,off,none⟩) from ht]
      simp only[asAddr,Sem.run_pure,Result.andThen_ok,c_,g1]
     ·rcases List.mem_cons.1 hv with rfl|hv
      ·intro i hi
       have hm:=hr.eD (.x bx)
       rw[qI]at hm
       exact hm i (Bw _ _ i (Bx _ _ i hi))
      ·exact g3 v hv
   ·cases h
  ·cases h
theorem JI{fn:Func}{us:List Value}(h:(fn.results.toList.mapM (tL a.tmps)).run P w=.ok us w):(Go.results fn a.tmps).run P w=.ok (lH us) w:=by
 have h2:(fn.results.mapM (tL a.tmps)).run P w=.ok us.toArray w:=by
  rw[Array.mapM_eq_mapM_toList,Sem.run_map,h]
  rfl
 have h3:Go.results fn a.tmps=(do let vs <-fn.results.mapM (tL a.tmps);pure (if h:vs.size=1 then vs[0]else .tuple vs)):=by
  unfold Go.results
  congr 1
 rw[h3,Sem.run_bind,h2]
 simp only[Result.andThen_ok,Sem.run_pure,lH,List.size_toArray]
 by_cases hl:us.length=1
 ·simp[hl]
 ·simp[hl]
theorem yY(d e n:Nat):∀s:St,(oJ d s).get (.t e n)=if d<=e then .un else s.get (.t e n)
 | []=>by simp[oJ,St.get]
 |(.t e' n',v)::s=>by
  simp only[oJ]
  cases hb:Nat.ble d e' with
  |true=>
   have:=Nat.le_of_ble_eq_true hb
   simp only[cond_true]
   rw[yY d e n s]
   split
   ·rfl
   ·simp only[St.get]
    have:(aM.t e' n').beq (.t e n)=false:=by
     cases hq:(aM.t e' n').beq (.t e n)with
     |false=>rfl
     |true=>have:=aM.beq_iff.1 hq;cases this;omega
    rw[this];rfl
  |false=>
   have bH:¬d<=e':=λh=>by rw[Nat.ble_eq_true_of_le h]at hb;cases hb
   simp only[cond_false,St.get]
   cases hq:(aM.t e' n').beq (.t e n)with
   |true=>have:=aM.beq_iff.1 hq;cases this;simp[bH]
   |false=>simp only[cond_false];exact yY d e n s
 |(.x b,v)::s=>by
  simp only[oJ,St.get]
  rw[show(aM.x b).beq (.t e n)=false from rfl]
  exact yY d e n s
 |(.o b,v)::s=>by
  simp only[oJ,St.get]
  rw[show(aM.o b).beq (.t e n)=false from rfl]
  exact yY d e n s
theorem yZ(d:Nat)(r:aM)(hr:∀e n,r≠.t e n):∀s:St,(oJ d s).get r=s.get r
 | []=>rfl
 |(.t e' n',v)::s=>by
  have hb:(aM.t e' n').beq r=false:=by
   cases hq:(aM.t e' n').beq r with
   |false=>rfl
   |true=>exact absurd (aM.beq_iff.1 hq).symm (hr e' n')
  simp only[oJ]
  cases Nat.ble d e' with
  |true=>simp only[cond_true,St.get,hb,cond_false];exact yZ d r hr s
  |false=>simp only[cond_false,St.get,hb];exact yZ d r hr s
 |(.x b,v)::s=>by
  simp only[oJ,St.get]
  rw[yZ d r hr s]
 |(.o b,v)::s=>by
  simp only[oJ,St.get]
  rw[yZ d r hr s]
theorem NX(d:Nat):∀(vs:List SV) (s:St) (i:Nat) (r:aM),(Bm d s i vs).get r=match r with
  | .t e n=>if e=d∧i<=n∧n<i+vs.length then vs.getD (n-i) .un else s.get (.t e n)
  |r=>s.get r
 | [],s,i,r=>by
  cases r with
  |t e n=>simp only[Bm,List.length_nil];rw[if_neg (by omega)]
  |_=>rfl
 |v::vs,s,i,r=>by
  simp only[Bm]
  rw[NX d vs (s.set (.t d i) v) (i+1) r]
  cases r with
  |t e n=>
   simp only[List.length_cons]
   by_cases h1:e=d∧i+1<=n∧n<i+1+vs.length
   ·rw[if_pos h1,if_pos ⟨h1.1,by omega,by omega⟩]
    rw[show n-i=(n-(i+1))+1 by omega]
    simp
   ·rw[if_neg h1]
    by_cases h2:e=d∧n=i
    ·obtain⟨rfl,rfl⟩:=h2
     rw[if_pos ⟨rfl,by omega,by omega⟩,St.bg]
     simp
    ·rw[if_neg (by omega),St.c9 _ _ (λh=>by cases h;exact h2 ⟨rfl,rfl⟩)]
  |x b=>exact St.c9 _ _ (by simp)
  |o b=>exact St.c9 _ _ (by simp)
theorem cm.get{vs:List SV}{us:List Value}(h:cm G w ρ vs us):∀(i:Nat) (v:SV),vs[i]?=some v->∃u,us[i]?=some u∧bY G w ρ v u:=by
 induction vs generalizing us with
 |nil=>intro i v hi;simp at hi
 |cons x vs ih=>
  cases us with
  |nil=>exact h.elim
  |cons u us=>
   intro i v hi
   cases i with
   |zero=>simp at hi;subst hi;exact⟨u,rfl,h.1⟩
   |succ i=>simpa using ih h.2 i v (by simpa using hi)
theorem Rel.enter{vs:List SV}{args:List Value}{nt:Nat}(hr:Rel M B d up s ρ G a w)(hv:cm G w ρ vs args)(hm:∀v∈vs,∀i∈cp v,M i)(hn:vs.length<=nt):
  Rel M B (d+1) (mJ up d a) (Bm (d+1) (oJ (d+1) s) 0 vs) ρ G {tmps:=args.toArray++Array.replicate (nt-args.toArray.size) undef,defers:=[]} w∧
   (args.toArray++Array.replicate (nt-args.toArray.size) undef:Array Value).size=nt:=by
 have hl:=hv.length
 have hg:∀r,(∀e n,r≠.t e n)->(Bm (d+1) (oJ (d+1) s) 0 vs).get r=s.get r:=by
  intro r hr
  rw[NX]
  cases r with
  |t e n=>exact absurd rfl (hr e n)
  |x b=>exact yZ _ _ hr s
  |o b=>exact yZ _ _ hr s
 refine⟨⟨λe n he=>?_,λb=>?_,λi=>?_,λr i hi=>?_,λi hi=>?_,hr.fg,rfl,hr.base,hr.bt⟩,by simp;omega⟩
 ·rw[NX]
  simp only[Nat.zero_le,true_and,Nat.zero_add,Nat.sub_zero]
  by_cases Fi:e=d+1
  ·subst Fi
   by_cases Sn:n<vs.length
   ·rw[if_pos ⟨rfl,Sn⟩]
    obtain⟨u,hu,nZ⟩:=hv.get n vs[n] (List.getElem?_eq_getElem Sn)
    rw[List.getD_eq_getElem?_getD,List.getElem?_eq_getElem Sn]
    have:mJ (mJ up d a) (d+1) {tmps:=args.toArray++Array.replicate (nt-args.toArray.size) undef,defers:=[]} (d+1) n=u:=by
     simp only[mJ,if_true]
     rw[Array.getD_eq_getD_getElem?,Array.getElem?_append_left (by simp;omega),List.getElem?_toArray,hu]
     rfl
    rw[this]
    exact nZ
   ·rw[if_neg (by omega),yY,if_pos (Nat.le_refl _)]
    trivial
  ·rw[if_neg (by omega),yY,if_neg (by omega)]
   have:mJ (mJ up d a) (d+1) {tmps:=args.toArray++Array.replicate (nt-args.toArray.size) undef,defers:=[]} e n=mJ up d a e n:=by
    show(if e=d+1 then _ else _)=_
    rw[if_neg Fi]
   rw[this]
   exact hr.tm e n (by omega)
 ·rw[hg _ (by simp)];exact hr.bx b
 ·rw[hg _ (by simp)];exact hr.ob i
 ·rw[NX]at hi
  cases r with
  |t e n=>
   simp only[Nat.zero_le,true_and,Nat.zero_add,Nat.sub_zero]at hi
   split at hi
   ·rename_i hc
    rw[List.getD_eq_getElem?_getD,List.getElem?_eq_getElem hc.2]at hi
    exact hm _ (List.getElem_mem hc.2) i hi
   ·rw[yY]at hi
    split at hi
    ·simp[cp]at hi
    ·exact hr.eD _ i hi
  |x b=>
   simp only at hi
   exact hr.eD (.x b) i (by rwa[yZ _ _ (by simp) s]at hi)
  |o b=>
   simp only at hi
   exact hr.eD (.o b) i (by rwa[yZ _ _ (by simp) s]at hi)
 ·rw[hg _ (by simp),hg _ (by simp)]at hi;exact hr.key i hi
theorem Rel.JJ{a2:Act}{w2:World}{G2:Gh}{s2:St}{yW:List T}(hd:a.defers=[])(hr:Rel M B (d+1) (mJ up d a) s2 yW G2 a2 w2):Rel M B d up (oJ (d+1) s2) yW G2 a w2:=by
 have hg:∀r,(∀e n,r≠.t e n)->(oJ (d+1) s2).get r=s2.get r:=λr hr=>yZ _ _ hr s2
 refine⟨λe n he=>?_,λb=>?_,λi=>?_,λr i hi=>?_,λi hi=>?_,hr.fg,hd,hr.base,hr.bt⟩
 ·rw[yY,if_neg (by omega)]
  have:=hr.tm e n (by omega)
  have e1:mJ (mJ up d a) (d+1) a2 e n=mJ up d a e n:=by
   show(if e=d+1 then _ else _)=_
   rw[if_neg (by omega)]
  rw[e1]at this
  exact this
 ·rw[hg _ (by simp)];exact hr.bx b
 ·rw[hg _ (by simp)];exact hr.ob i
 ·cases r with
  |t e n=>
   rw[yY]at hi
   split at hi
   ·simp[cp]at hi
   ·exact hr.eD _ i hi
  |x b=>exact hr.eD (.x b) i (by rwa[hg _ (by simp)]at hi)
  |o b=>exact hr.eD (.o b) i (by rwa[hg _ (by simp)]at hi)
 ·rw[hg _ (by simp),hg _ (by simp)]at hi;exact hr.key i hi
theorem JK(E:Env P cx S)(qi:P.follows .mixedOrders=true):∀n,vR P S R out B (xQ cx n)
 |0=>by intro f g vs lv s ct fs kk p K0 a w args Ψ h;cases h
 |n+1=>by
  intro f g vs lv s ct fs kk p Z a w args Ψ h aR hk
  simp only[xQ,bQ]at h
  obtain⟨fn,IQ,c,hc,h⟩:=h
  obtain⟨hf,n9⟩:=E.cn g fn IQ
  refine⟨n9,?_⟩
  cases hb:(Nat.ble vs.length fn.ntmps&&r9 fn.ntmps c)with
  |false=>simp[hb]at h
  |true=>
   simp only[hb,cond_true]at h
   simp only[bB]at hb
   obtain⟨K,ρ,G,h1,h2,h3,h4,h5,h6,h7,h8,h9,kf⟩:=aR
   have hle:=Nat.le_of_ble_eq_true hb.1
   obtain⟨q1,q2⟩:=h7.enter h9 kf hle
   refine calls_of_wp hf hc ?_
   refine JG (f:=⟨f.d+1,mJ f.up f.d a,fn.ntmps⟩) E (JK E qi n) qi c 0 lv _ ct fs _ p _ w Z _ hb.2 h ⟨K,ρ,G,h1,h2,h3,h4,h5,h6,q1,q2,trivial⟩ λe=>?_
   have fin:∀(n3:Nat) (s':St) (ff:Ct) (gx:gV) (p':PL) (a2:Act) (w2:World),(Go.Proofs.YtbhplkilhknciaaC.results cx (f.d+1) s' fn.results.toList).bind (λrs=>kk rs n3 (oJ (f.d+1) s') ff gx)=some p'->
     At S R out B ⟨f.d+1,mJ f.up f.d a,fn.ntmps⟩ Z XT p' n3 s' ff gx a2 w2->a2.defers=[]∧∃v,(Go.results fn a2.tmps).run P w2=.ok v w2∧∃v',Ending.returned v=.returned v'∧Ψ v' w2:=by
    rintro n3 s' ff gx p' a2 w2 dN ⟨K2,yW,G2,g1,g2,g3,g4,g5,g6,g7,g8,_⟩
    rw[bQ]at dN
    obtain⟨rs,tG,dN⟩:=dN
    obtain⟨us,u1,u2,u3⟩:=yX E.cN g7 tG
    refine⟨g7.dn,lH us,JI u1,lH us,rfl,?_⟩
    exact hk rs n3 _ ff gx p' w2 us dN ⟨K2,yW,G2,g1,g2,g3,g4,g5,g6,g7.JJ h7.dn,h8,u2,u3⟩
   cases e with
   |normal=>intro n3 s' ff gx p' a2 w2 dN jv;exact fin n3 s' ff gx p' a2 w2 dN jv
   |ret=>intro n3 s' ff gx p' a2 w2 dN jv;exact fin n3 s' ff gx p' a2 w2 dN jv
   |exit id=>intro n3 s' ff gx p' a2 w2 dN jv;cases dN
theorem JL{k:Wk}{c:Ce}{x:Lf}{v:Value}(hk:∀id,bZ G w ρ id (k.get (.o id)))(h:k.plain c=some x)(hr:eF G w ρ c v):∃t,x.ev ρ=t∧du G.q w t v:=by
 unfold Wk.plain at h
 split at h
 ·cases h;obtain⟨t,h1,h2⟩:=hr;exact⟨t,Lf.aZ h1,h2⟩
 ·cases h
  have hv:v=.slice none 0 0:=hr
  subst hv
  exact⟨_,rfl,.nil⟩
 ·rename_i id
  split at h
  ·rename_i y hy
   cases h
   have cS:=hk id
   rw[hy]at cS
   obtain⟨t,h1,h2,_⟩:=cS
   obtain⟨p,hp,hv⟩:=hr
   simp only[ke,aJ]at hp
   subst hp
   exact⟨t,Lf.aZ h1,by rw[hv];exact h2⟩
  ·cases h
 ·cases h
theorem JM{k:Wk}(hk:∀id,bZ G w ρ id (k.get (.o id))):∀{cs:List Ce} {xs:List Lf} {vs:List Value},k.nu cs=some xs->aF G w ρ cs vs->dm G.q w (xs.map (Lf.ev ρ)) vs∧xs.length=cs.length
 | [],xs,vs,h,hr=>by
  simp[Wk.nu]at h
  subst h
  cases vs with
  |nil=>exact⟨trivial,rfl⟩
  |cons _ _=>exact hr.elim
 |c::cs,xs,[],h,hr=>hr.elim
 |c::cs,xs,v::vs,h,hr=>by
  simp only[Wk.nu,bQ,aJ]at h
  obtain⟨x,hx,ys,H_,rfl⟩:=h
  obtain⟨t,ht,hd⟩:=JL hk hx hr.1
  obtain⟨g1,g2⟩:=JM hk H_ hr.2
  exact⟨⟨by rw[ht];exact hd,g1⟩,by simp[g2]⟩
theorem JN:∀{cs:List Ce} {ks:List Ck} {k k1:Wk} {xs:List Lf} {ids:List Nat} {vs:List Value},j1 k cs ks=some (k1,xs,ids)->(∀id,bZ G w ρ id (k.get (.o id)))->aF G w ρ cs vs->k1.aP S ρ->
  k.aP S ρ∧k.dE k1∧∃is,bq G w ks vs (xs.map (Lf.ev ρ)) is∧is.filterMap id=ids∧∀j,some j∈is->j%4≠2
 | [],[],k,k1,xs,ids,vs,h,hk,hr,hd=>by
  simp only[j1,aJ,Prod.mk.injEq]at h
  obtain⟨rfl,rfl,rfl⟩:=h
  cases vs with
  |nil=>exact⟨hd,.refl _,[],trivial,rfl,λj hj=>by cases hj⟩
  |cons _ _=>exact hr.elim
 |c::cs,ck::ks,k,k1,xs,ids,[],h,hk,hr,hd=>hr.elim
 |c::cs,.p::ks,k,k1,xs,ids,v::vs,h,hk,hr,hd=>by
  have h':(k.plain c).bind (λx=>(j1 k cs ks).bind λr=>some (r.1,x::r.2.1,r.2.2))=some (k1,xs,ids):=by
   cases c with
   |o id q=>cases q<;>exact h
   |p x=>exact h
   |n=>exact h
   |d=>exact h
  simp only[bQ,aJ,Prod.mk.injEq]at h'
  obtain⟨x,hx,⟨k2,ys,od⟩,h2,rfl,rfl,rfl⟩:=h'
  obtain⟨g1,g2,is,g3,g4,g5⟩:=JN h2 hk hr.2 hd
  obtain⟨t,ht,cT⟩:=JL hk hx hr.1
  exact⟨g1,g2,none::is,⟨rfl,by rw[ht];exact cT,g3⟩,by simpa using g4,λj hj=>g5 j (by simpa using hj)⟩
 | .p x::cs,.s::ks,k,k1,xs,ids,v::vs,h,hk,hr,hd=>by
  simp only[j1,bQ,aJ,Prod.mk.injEq]at h
  obtain⟨⟨k2,ys,od⟩,h2,rfl,rfl,rfl⟩:=h
  obtain⟨oq,r,nY,jk⟩:=Wk.be hd
  obtain⟨g1,g2,is,g3,g4,g5⟩:=JN h2 hk hr.2 oq
  obtain⟨t,ht,cT⟩:=hr.1
  simp only[List.map_cons,List.map_nil,Lf.aZ ht,Prim.ev]at nY
  split at nY
  ·rename_i kh
   cases nY
   refine⟨g1,g2.trans (Wk.aS _ _ _),none::is,⟨rfl,?_,?_,g3⟩,by simpa using g4,λj hj=>g5 j (by simpa using hj)⟩
   ·rw[Lf.aZ jk];exact cT
   ·rw[Lf.aZ jk];exact kh
  ·cases nY
 | .n::cs,.o dp::ks,k,k1,xs,ids,v::vs,h,hk,hr,hd=>by
  simp only[j1,bQ,aJ,Prod.mk.injEq]at h
  obtain⟨⟨k2,ys,od⟩,h2,rfl,rfl,rfl⟩:=h
  obtain⟨g1,g2,is,g3,g4,g5⟩:=JN h2 hk hr.2 hd
  exact⟨g1,g2,none::is,⟨hr.1,rfl,g3⟩,by simpa using g4,λj hj=>g5 j (by simpa using hj)⟩
 | .o id []::cs,.o dp::ks,k,k1,xs,ids,v::vs,h,hk,hr,hd=>by
  simp only[j1]at h
  split at h
  ·rename_i qE x hx
   cases eA:(qE==dp&& !Nat.beq (id%4) 2)with
   |false=>simp[eA]at h
   |true=>
    simp only[eA,cond_true,bQ,aJ,Prod.mk.injEq]at h
    simp only[bB,beq_iff_eq,Bool.not_eq_true']at eA
    obtain⟨eA,vA⟩:=eA
    subst eA
    obtain⟨⟨k2,ys,od⟩,h2,rfl,rfl,rfl⟩:=h
    obtain⟨g1,g2,is,g3,g4,g5⟩:=JN h2 hk hr.2 hd
    have cS:=hk id
    rw[hx]at cS
    obtain⟨t,ht,aT⟩:=cS
    obtain⟨p,hp,hv⟩:=hr.1
    simp only[ke,aJ]at hp
    subst hp
    refine⟨g1,g2,some id::is,⟨hv,by rw[Lf.aZ ht];exact aT,g3⟩,by simpa using g4,λj hj=>?_⟩
    rcases List.mem_cons.1 hj with hj|hj
    ·cases hj;intro e;rw[e]at vA;cases vA
    ·exact g5 j hj
  ·cases h
 | [],_::_,k,k1,xs,ids,vs,h,_,_,_=>by simp[j1]at h
 |c::_,[],k,k1,xs,ids,vs,h,_,_,_=>by simp[j1]at h
 | .p _::_,.o _::_,k,k1,xs,ids,_::_,h,_,_,_=>by simp[j1]at h
 | .n::_,.s::_,k,k1,xs,ids,_::_,h,_,_,_=>by simp[j1]at h
 | .d::_,.s::_,k,k1,xs,ids,_::_,h,_,_,_=>by simp[j1]at h
 | .d::_,.o _::_,k,k1,xs,ids,_::_,h,_,_,_=>by simp[j1]at h
 | .o _ _::_,.s::_,k,k1,xs,ids,_::_,h,_,_,_=>by simp[j1]at h
 | .o _ (_::_)::_,.o _::_,k,k1,xs,ids,_::_,h,_,_,_=>by simp[j1]at h
theorem JO:∀{cs:List Ce} {ks:List Ck} {k k1:Wk} {xs:List Lf} {ids:List Nat},j1 k cs ks=some (k1,xs,ids)->k.dE k1
 | [],[],k,k1,xs,ids,h=>by
  simp only[j1,aJ,Prod.mk.injEq]at h
  obtain⟨rfl,rfl,rfl⟩:=h
  exact .refl _
 |c::cs,.p::ks,k,k1,xs,ids,h=>by
  have h':(k.plain c).bind (λx=>(j1 k cs ks).bind λr=>some (r.1,x::r.2.1,r.2.2))=some (k1,xs,ids):=by
   cases c with
   |o id q=>cases q<;>exact h
   |p x=>exact h
   |n=>exact h
   |d=>exact h
  simp only[bQ,aJ,Prod.mk.injEq]at h'
  obtain⟨x,hx,⟨k2,ys,od⟩,h2,rfl,rfl,rfl⟩:=h'
  exact JO h2
 | .p x::cs,.s::ks,k,k1,xs,ids,h=>by
  simp only[j1,bQ,aJ,Prod.mk.injEq]at h
  obtain⟨⟨k2,ys,od⟩,h2,rfl,rfl,rfl⟩:=h
  exact(JO h2).trans (Wk.aS _ _ _)
 | .n::cs,.o dp::ks,k,k1,xs,ids,h=>by
  simp only[j1,bQ,aJ,Prod.mk.injEq]at h
  obtain⟨⟨k2,ys,od⟩,h2,rfl,rfl,rfl⟩:=h
  exact JO h2
 | .o id []::cs,.o dp::ks,k,k1,xs,ids,h=>by
  simp only[j1]at h
  split at h
  ·rename_i qE x hx
   cases eA:(qE==dp&& !Nat.beq (id%4) 2)with
   |false=>simp[eA]at h
   |true=>
    simp only[eA,cond_true,bQ,aJ,Prod.mk.injEq]at h
    obtain⟨⟨k2,ys,od⟩,h2,rfl,rfl,rfl⟩:=h
    exact JO h2
  ·cases h
 | [],_::_,k,k1,xs,ids,h=>by simp[j1]at h
 |c::_,[],k,k1,xs,ids,h=>by simp[j1]at h
 | .p _::_,.o _::_,k,k1,xs,ids,h=>by simp[j1]at h
 | .n::_,.s::_,k,k1,xs,ids,h=>by simp[j1]at h
 | .d::_,.s::_,k,k1,xs,ids,h=>by simp[j1]at h
 | .d::_,.o _::_,k,k1,xs,ids,h=>by simp[j1]at h
 | .o _ _::_,.s::_,k,k1,xs,ids,h=>by simp[j1]at h
 | .o _ (_::_)::_,.o _::_,k,k1,xs,ids,h=>by simp[j1]at h
theorem CT:∀{vs:List SV} {rs:List (Bool×List Ck)} {k k1:Wk} {xs:List Lf} {ids:List Nat},jS k vs rs=some (k1,xs,ids)->k.dE k1
 | [],[],k,k1,xs,ids,h=>by
  simp only[jS,aJ,Prod.mk.injEq]at h
  obtain⟨rfl,rfl,rfl⟩:=h
  exact .refl _
 | .v ag cs::vs,(r8,ks)::rs,k,k1,xs,ids,h=>by
  simp only[jS]at h
  cases lQ:(ag==r8)with
  |false=>simp[lQ]at h
  |true=>
   simp only[lQ,cond_true,bQ,aJ,Prod.mk.injEq]at h
   obtain⟨⟨k2,ys,od⟩,h2,⟨k3,zs,JP⟩,h3,rfl,rfl,rfl⟩:=h
   exact(CT h2).trans (JO h3)
 | [],_::_,k,k1,xs,ids,h=>by simp[jS]at h
 |v::_,[],k,k1,xs,ids,h=>by cases v<;>simp[jS]at h
 | .un::_,_::_,k,k1,xs,ids,h=>by simp[jS]at h
 | .pt _ _::_,_::_,k,k1,xs,ids,h=>by simp[jS]at h
 | .ep _ _ _ _ _::_,_::_,k,k1,xs,ids,h=>by simp[jS]at h
 | .fp _ _ _ _::_,_::_,k,k1,xs,ids,h=>by simp[jS]at h
 | .tp _::_,_::_,k,k1,xs,ids,h=>by simp[jS]at h
 | .cl _ _::_,_::_,k,k1,xs,ids,h=>by simp[jS]at h
 | .ob _ _::_,_::_,k,k1,xs,ids,h=>by simp[jS]at h
 | .fz _ _::_,_::_,k,k1,xs,ids,h=>by simp[jS]at h
 | .tk _ _::_,_::_,k,k1,xs,ids,h=>by simp[jS]at h
 | .fl _::_,_::_,k,k1,xs,ids,h=>by simp[jS]at h
 | .fr _::_,_::_,k,k1,xs,ids,h=>by simp[jS]at h
theorem JQ:∀{vs:List SV} {rs:List (Bool×List Ck)} {k k1:Wk} {xs:List Lf} {ids:List Nat} {us:List Value},jS k vs rs=some (k1,xs,ids)->(∀id,bZ G w ρ id (k.get (.o id)))->cm G w ρ vs us->k1.aP S ρ->
  k.aP S ρ∧k.dE k1∧∃is,gi G w rs us (xs.map (Lf.ev ρ)) is∧is.filterMap id=ids∧∀j,some j∈is->j%4≠2
 | [],[],k,k1,xs,ids,us,h,hk,hr,hd=>by
  simp only[jS,aJ,Prod.mk.injEq]at h
  obtain⟨rfl,rfl,rfl⟩:=h
  cases us with
  |nil=>exact⟨hd,.refl _,[],trivial,rfl,λj hj=>by cases hj⟩
  |cons _ _=>exact hr.elim
 | .v ag cs::vs,(r8,ks)::rs,k,k1,xs,ids,[],h,hk,hr,hd=>hr.elim
 | .v ag cs::vs,(r8,ks)::rs,k,k1,xs,ids,u::us,h,hk,hr,hd=>by
  simp only[jS]at h
  cases lQ:(ag==r8)with
  |false=>simp[lQ]at h
  |true=>
   simp only[lQ,cond_true,bQ,aJ,Prod.mk.injEq]at h
   simp only[beq_iff_eq]at lQ
   subst lQ
   obtain⟨⟨k2,ys,od⟩,h2,⟨k3,zs,JP⟩,h3,rfl,rfl,rfl⟩:=h
   have h0:=hr.1
   have key:∀ws:List Value,aF G w ρ cs ws->(∀is,bq G w ks ws (zs.map (Lf.ev ρ)) is->Ip G w (ag,ks) u (zs.map (Lf.ev ρ)) is)->
     k.aP S ρ∧k.dE k3∧∃is,gi G w ((ag,ks)::rs) (u::us) ((zs++ys).map (Lf.ev ρ)) is∧is.filterMap id=JP++od∧∀j,some j∈is->j%4≠2:=by
    intro ws So Sp
    have p9:∀{k':Wk},k.dE k'->∀id,bZ G w ρ id (k'.get (.o id)):=λhs id=>by rw[hs.get];exact hk id
    have pre:k.dE k2:=CT h2
    obtain⟨g1,g2,is,g3,g4,g5⟩:=JN h3 (p9 pre) So hd
    obtain⟨f1,f2,is2,f3,f4,f5⟩:=JQ h2 hk hr.2 g1
    exact⟨f1,f2.trans g2,is++is2,⟨_,_,is,is2,List.map_append,rfl,Sp is g3,f3⟩,by rw[List.filterMap_append,g4,f4],λj hj=>(List.mem_append.1 hj).elim (g5 j) (f5 j)⟩
   cases ag with
   |true=>obtain⟨ws,rfl,So⟩:=h0;exact key ws So λis ho=>⟨ws,rfl,ho⟩
   |false=>obtain⟨c,rfl,hc,ye⟩:=h0;exact key [u] ⟨hc,trivial⟩ λis ho=>⟨ho,ye⟩
 | [],_::_,k,k1,xs,ids,us,h,_,_,_=>by simp[jS]at h
 |v::_,[],k,k1,xs,ids,us,h,_,_,_=>by cases v<;>simp[jS]at h
 | .un::_,_::_,k,k1,xs,ids,us,h,_,_,_=>by simp[jS]at h
 | .pt _ _::_,_::_,k,k1,xs,ids,us,h,_,_,_=>by simp[jS]at h
 | .ep _ _ _ _ _::_,_::_,k,k1,xs,ids,us,h,_,_,_=>by simp[jS]at h
 | .fp _ _ _ _::_,_::_,k,k1,xs,ids,us,h,_,_,_=>by simp[jS]at h
 | .tp _::_,_::_,k,k1,xs,ids,us,h,_,_,_=>by simp[jS]at h
 | .cl _ _::_,_::_,k,k1,xs,ids,us,h,_,_,_=>by simp[jS]at h
 | .ob _ _::_,_::_,k,k1,xs,ids,us,h,_,_,_=>by simp[jS]at h
 | .fz _ _::_,_::_,k,k1,xs,ids,us,h,_,_,_=>by simp[jS]at h
 | .tk _ _::_,_::_,k,k1,xs,ids,us,h,_,_,_=>by simp[jS]at h
 | .fl _::_,_::_,k,k1,xs,ids,us,h,_,_,_=>by simp[jS]at h
 | .fr _::_,_::_,k,k1,xs,ids,us,h,_,_,_=>by simp[jS]at h
end
section
variable {ρ:List T} {w:World} {S:Nat->ay} {P:Program} {cx:Cx} {R:Nat} {out:List T}
def Gh.AD(ω:Nat->Option Lb)(bl:Nat->Option Nat):Gh where
 ω:=ω
 β:=λi=>(bl i).getD 0
 H:=λ_ _=>.slice none 0 0
 hs:=λ_ _=>⟨_,_,_,rfl⟩
theorem CU{lP:Nat->Option Lb}{bl:Nat->Option Nat}:∀{ps:List PS} {args:List Value} {ts:List T} {i a:Nat},tE lP w bl i ps args ts->(∀j t,ts[j]?=some t->ρ[a+j]?=some t)->
  (qG a i ps).1=a+ts.length∧args.length=ps.length∧(∀n,(∃m,ps[n]?=some (.x m))->bl (i+n)≠none)∧
  ∀r v,(r,v)∈(qG a i ps).2->(∃n c,r=.t 0 (i+n)∧n<ps.length∧args[n]?=some c∧bY (Gh.AD lP bl) w ρ v c∧∀j∈cp v,j<i+ps.length)∨
   (∃b,r=.x b∧b<i+ps.length∧eC (Gh.AD lP bl) w ρ b v∧cp v=[])
 | [],args,ts,i,a,h,lp=>by
  obtain⟨rfl,rfl⟩:=h
  exact⟨rfl,rfl,λn ⟨m,hm⟩=>by simp at hm,λr v hm=>by simp[qG]at hm⟩
 | .v ag n::ps,args,ts,i,a,h,lp=>by
  obtain⟨c,dM,vs,t1,t2,rfl,rfl,hl,lQ,hd,h⟩:=h
  obtain⟨g1,g2,g3,g4⟩:=CU (i:=i+1) (a:=a+n) h (λj t hj=>by
   have:=lp (n+j) t (by rw[List.getElem?_append_right (by omega),hl];simpa using hj)
   rw[<-this];congr 1;omega)
  obtain⟨r1,r2⟩:=NI (a:=a) (G:=Gh.AD lP bl) hl (hd.aG (Nat.le_refl _) λb _ hb=>⟨s6 hb,rfl⟩) (λj t hj=>lp j t (by rw[List.getElem?_append_left (List.getElem?_eq_some_iff.1 hj).1];exact hj))
  refine⟨by simp only[qG,List.length_append];omega,by simp[g2],λn' ⟨m,hm⟩=>?_,λr v hm=>?_⟩
  ·cases n' with
   |zero=>simp at hm
   |succ n'=>have:=g3 n' ⟨m,by simpa using hm⟩;rwa[show i+1+n'=i+(n'+1) by omega]at this
  ·simp only[qG,List.mem_cons,Prod.mk.injEq]at hm
   simp only[List.length_cons]
   rcases hm with⟨rfl,rfl⟩|hm
   ·left
    refine⟨0,c,by simp,by omega,rfl,?_,λj hj=>by rw[show cp (.v ag (wS a n))=cJ (wS a n) from rfl,r2]at hj;cases hj⟩
    cases ag with
    |true=>exact⟨vs,lQ,r1⟩
    |false=>
     obtain⟨rfl,ye⟩:=lQ
     match h0:wS a n,r1 with
     | [x],r1=>exact⟨x,h0.symm▸h0,r1.1,ye⟩
   ·rcases g4 r v hm with⟨n',c',e1,e2,e3,e4,e5⟩|⟨b,e1,e2,e3,e4⟩
    ·exact .inl ⟨n'+1,c',by rw[e1];congr 1;omega,by omega,by simpa using e3,e4,λj hj=>by have:=e5 j hj;omega⟩
    ·exact .inr ⟨b,e1,by omega,e3,e4⟩
 | .x n::ps,args,ts,i,a,h,lp=>by
  obtain⟨c,dM,b,aX,elem,t1,t2,rfl,hc,hb,eT,hh,rfl,hl,hd,h⟩:=h
  obtain⟨g1,g2,g3,g4⟩:=CU (i:=i+1) (a:=a+n) h (λj t hj=>by
   have:=lp (n+j) t (by rw[List.getElem?_append_right (by omega),hl];simpa using hj)
   rw[<-this];congr 1;omega)
  obtain⟨r1,r2⟩:=NI (a:=a) (G:=Gh.AD lP bl) hl (hd.aG (Nat.le_refl _) λb _ hb=>⟨s6 hb,rfl⟩) (λj t hj=>lp j t (by rw[List.getElem?_append_left (List.getElem?_eq_some_iff.1 hj).1];exact hj))
  have xZ:(Gh.AD lP bl).β i=b:=by simp[Gh.AD,hb]
  refine⟨by simp only[qG,List.length_append];omega,by simp[g2],λn' ⟨m,hm⟩=>?_,λr v hm=>?_⟩
  ·cases n' with
   |zero=>rw[Nat.add_zero,hb];simp
   |succ n'=>have:=g3 n' ⟨m,by simpa using hm⟩;rwa[show i+1+n'=i+(n'+1) by omega]at this
  ·simp only[qG,List.mem_cons,Prod.mk.injEq]at hm
   simp only[List.length_cons]
   rcases hm with⟨rfl,rfl⟩|⟨rfl,rfl⟩|hm
   ·exact .inl ⟨0,c,by simp,by omega,rfl,by rw[bY,xZ];exact hc,λj hj=>by simp[cp]at hj;omega⟩
   ·exact .inr ⟨i,rfl,by omega,⟨by rw[xZ];exact eT,aX,elem,by rw[xZ];exact hh,r1⟩,r2⟩
   ·rcases g4 r v hm with⟨n',c',e1,e2,e3,e4,e5⟩|⟨b,e1,e2,e3,e4⟩
    ·exact .inl ⟨n'+1,c',by rw[e1];congr 1;omega,by omega,by simpa using e3,e4,λj hj=>by have:=e5 j hj;omega⟩
    ·exact .inr ⟨b,e1,by omega,e3,e4⟩
theorem CV{G:Gh}{bl:Nat->Option Nat}{k:Wk}(hk:∀id,bZ G w ρ id (k.get (.o id)))(hx:∀b,eC G w ρ b (k.get (.x b)))(tH:∀i b,bl i=some b->G.β i=b):
  ∀{ps:List PS} {i:Nat} {xs:List Lf},s5 k i ps=some xs->(∀n,(∃m,ps[n]?=some (.x m))->bl (i+n)≠none)->fI G w bl i ps (xs.map (Lf.ev ρ))
 | [],i,xs,h,_=>by simp[s5]at h;subst h;rfl
 | .v _ _::ps,i,xs,h,hn=>CV (ps:=ps) (i:=i+1) hk hx tH h λn ⟨m,hm⟩=>by have:=hn (n+1) ⟨m,by simpa using hm⟩;rwa[show i+1+n=i+(n+1) by omega]
 | .x n::ps,i,xs,h,hn=>by
  simp only[s5]at h
  split at h
  ·rename_i ag cs iR
   cases hb:Nat.beq cs.length n with
   |false=>simp[hb]at h
   |true=>
    simp only[hb,cond_true,bQ,aJ]at h
    obtain⟨x1,h1,x2,h2,rfl⟩:=h
    have nI:=hx i
    rw[iR]at nI
    obtain⟨g1,aX,elem,g2,g3⟩:=nI
    obtain⟨f1,f2⟩:=JM hk h1 g3
    cases Sq:bl i with
    |none=>exact absurd Sq (by have:=hn 0 ⟨n,rfl⟩;simpa using this)
    |some b=>
     have xZ:=tH i b Sq
     rw[xZ]at g1 g2
     exact⟨b,aX,elem,_,_,Sq,g1,g2,List.map_append,by rw[List.length_map,f2];exact cK hb,f1,
      CV hk hx tH h2 λn ⟨m,hm⟩=>by have:=hn (n+1) ⟨m,by simpa using hm⟩;rwa[show i+1+n=i+(n+1) by omega]⟩
  ·cases h
theorem gi.len{G':Gh}{w':World}:∀{rs:List (Bool×List Ck)} {vs:List Value} {ts:List T} {is:List (Option Nat)},gi G' w' rs vs ts is->rs.length=vs.length
 | [],[],[],[],_=>rfl
 |r::rs,v::vs,ts,is,h=>by
  obtain⟨t1,t2,i1,i2,rfl,rfl,h1,h2⟩:=h
  simp[gi.len h2]
 | [],[],_::_,_,h=>h.elim
 | [],[],[],_::_,h=>h.elim
 | [],_::_,_,_,h=>h.elim
 |_::_,[],_,_,h=>h.elim
theorem JR{G':Gh}{w':World}{rs:List (Bool×List Ck)}{vs:List Value}{ts:List T}{is:List (Option Nat)}(h:gi G' w' rs vs ts is):Ch G' w' rs (lH vs) ts is:=by
 have hl:=h.len
 match rs,vs,h,hl with
 | [],[],h,_=>
  cases ts with
  |nil=>cases is with
   |nil=>exact⟨rfl,rfl⟩
   |cons _ _=>exact h.elim
  |cons _ _=>exact h.elim
 | [r],[v],h,_=>exact h
 |r::r'::rs,v::v'::vs,h,_=>
  refine⟨v::v'::vs,?_,h⟩
  unfold lH
  rw[dif_neg (by simp)]
theorem cm.ext{G:Gh}{e:List T}:∀{vs:List SV} {us:List Value},cm G w ρ vs us->cm G w (ρ++e) vs us
 | [],[],_=>trivial
 |_::_,_::_,h=>⟨h.1.ext,cm.ext h.2⟩
 | [],_::_,h=>h.elim
 |_::_,[],h=>h.elim
def Gh.eO(G:Gh):Gh:={G with ω:=G.q}
theorem Gh.lI(G:Gh):G.eO.q=G.q:=by
 funext b
 show qf (qf G.ω) b=qf G.ω b
 unfold qf
 cases hb:G.ω b with
 |none=>rfl
 |some l=>cases hq:qt l<;>simp[hq]
theorem Sr{sg:lV}(h:xT sg=true)(hp:nr sg=true):∀r∈sg.rs,∀k∈r.2,k≠.o true:=by
 intro r hr k hk e
 subst e
 simp only[xT,hp,Bool.true_and,Bool.not_eq_true']at h
 have h1:=List.any_eq_false.1 h r hr
 exact absurd (List.any_eq_true.2 ⟨Ck.o true,hk,rfl⟩) h1
theorem bq.eO{G:Gh}:∀{ks:List Ck} {vs:List Value} {ts:List T} {is:List (Option Nat)},bq G w ks vs ts is->(∀k∈ks,k≠.o true)->(∀j,some j∈is->j%4≠2)->bq G.eO w ks vs ts is
 | [],[],[],[],_,_,_=>trivial
 | .s::ks,v::vs,t::ts,x::is,h,hk,h2=>⟨h.1,by rw[Gh.lI];exact h.2.1,h.2.2.1,bq.eO h.2.2.2 (λk hm=>hk k (by simp[hm])) λj hj=>h2 j (by simp[hj])⟩
 | .p::ks,v::vs,t::ts,x::is,h,hk,h2=>⟨h.1,by rw[Gh.lI];exact h.2.1,bq.eO h.2.2 (λk hm=>hk k (by simp[hm])) λj hj=>h2 j (by simp[hj])⟩
 | .o dp::ks,v::vs,t::ts,none::is,h,hk,h2=>⟨h.1,h.2.1,bq.eO h.2.2 (λk hm=>hk k (by simp[hm])) λj hj=>h2 j (by simp[hj])⟩
 | .o true::ks,v::vs,t::ts,some id::is,h,hk,h2=>absurd rfl (hk _ (by simp))
 | .o false::ks,v::vs,t::ts,some id::is,h,hk,h2=>
  ⟨h.1,h.2.1.nJ (λc hc=>ve hc (xW (h2 id (by simp)))) rfl (λb hb=>by rw[Gh.lI];exact hb),bq.eO h.2.2 (λk hm=>hk k (by simp[hm])) λj hj=>h2 j (by simp[hj])⟩
 | [],[],[],_::_,h,_,_=>h.elim
 | [],[],_::_,_,h,_,_=>h.elim
 | [],_::_,_,_,h,_,_=>h.elim
 |k::_,[],_,_,h,_,_=>by cases k<;>exact h.elim
 |k::_,_::_,[],_,h,_,_=>by cases k<;>exact h.elim
 |k::_,_::_,_::_,[],h,_,_=>by cases k<;>exact h.elim
theorem gi.eO{G:Gh}:∀{rs:List (Bool×List Ck)} {vs:List Value} {ts:List T} {is:List (Option Nat)},gi G w rs vs ts is->(∀r∈rs,∀k∈r.2,k≠.o true)->(∀j,some j∈is->j%4≠2)->gi G.eO w rs vs ts is
 | [],[],[],[],_,_,_=>trivial
 |(ag,ks)::rs,v::vs,ts,is,h,hk,h2=>by
  obtain⟨t1,t2,i1,i2,rfl,rfl,h1,h3⟩:=h
  refine⟨t1,t2,i1,i2,rfl,rfl,?_,gi.eO h3 (λr hr=>hk r (by simp[hr])) λj hj=>h2 j (by simp[hj])⟩
  have h20:∀j,some j∈i1->j%4≠2:=λj hj=>h2 j (by simp[hj])
  have h0:=hk (ag,ks) (by simp)
  cases ag with
  |true=>obtain⟨us,e,h3⟩:=h1;exact⟨us,e,h3.eO h0 h20⟩
  |false=>exact⟨h1.1.eO h0 h20,h1.2⟩
 | [],[],_::_,_,h,_,_=>h.elim
 | [],[],[],_::_,h,_,_=>h.elim
 | [],_::_,_,_,h,_,_=>h.elim
 |_::_,[],_,_,h,_,_=>h.elim
theorem fI.eO{G:Gh}{bl:Nat->Option Nat}:∀{ps:List PS} {i:Nat} {ts:List T},fI G w bl i ps ts->fI G.eO w bl i ps ts
 | [],i,ts,h=>h
 | .v _ _::ps,i,ts,h=>fI.eO (ps:=ps) (i:=i+1) h
 | .x n::ps,i,ts,h=>by
  obtain⟨b,aX,elem,t1,t2,h1,h2,h3,h4,h5,h6,h7⟩:=h
  exact⟨b,aX,elem,t1,t2,h1,ve h2 rfl,h3,h4,h5,by rw[Gh.lI];exact h6,fI.eO h7⟩
theorem JS{n bW:Nat}{fn:Func}{sg:lV}{pl:PL}(E:Env P cx S)(qi:P.follows .mixedOrders=true)(hf:P.funcs[bW]?=some fn)(h:xU cx n bW fn sg=some pl):
  yE P sg bW λts=>pl.den S R [] ts:=by
 intro w lP bl args ts outs hF cU n9
 unfold xU at h
 simp only[bQ]at h
 obtain⟨c,hc,h⟩:=h
 cases hb:(r9 fn.ntmps c&&Nat.ble sg.ps.length fn.ntmps&&xT sg)with
 |false=>simp[hb]at h
 |true=>
  simp only[hb,cond_true]at h
  simp only[bB]at hb
  obtain⟨hb,Ss⟩:=hb
  have lS:=Nat.le_of_ble_eq_true hb.2
  obtain⟨g1,g2,g3,g4⟩:=CU (ρ:=ts) (i:=0) (a:=0) n9 (λj t hj=>by rw[Nat.zero_add];exact hj)
  simp only[Nat.zero_add]at g1 g3 g4
  have oE:∀r,(qG 0 0 sg.ps).2.get r=.un∨(r,(qG 0 0 sg.ps).2.get r)∈(qG 0 0 sg.ps).2:=by
   intro r
   rw[St.pT]
   cases hl:(qG 0 0 sg.ps).2.look r with
   |none=>exact .inl rfl
   |some v=>exact .inr (yF hl)
  refine calls_of_wp hf hc ?_
  have eY:(args.toArray++Array.replicate (fn.ntmps-args.toArray.size) undef:Array Value).size=fn.ntmps:=by simp;omega
  have gL:Rel (λi=>i<sg.ps.length+1) ⟨w,lP,bl⟩ 0 (λ_ _=>undef) (qG 0 0 sg.ps).2 ts (Gh.AD lP bl) {tmps:=args.toArray++Array.replicate (fn.ntmps-args.toArray.size) undef,defers:=[]} w:=by
   refine⟨λe m he=>?_,λb=>?_,λi=>?_,λr i hi=>?_,λi hi=>?_,λb l hb=>?_,rfl,⟨rfl,rfl,rfl,Nat.le_refl _,λb _ hb=>⟨hb,rfl⟩,λb hb=>⟨hb,rfl⟩,cU.gl⟩,λi b hb=>⟨by have:=(cU.bl i b hb).1;omega,by show(bl i).getD 0=b;rw[show bl i=some b from hb];rfl⟩⟩
   ·obtain rfl:e=0:=by omega
    rcases oE (.t 0 m)with hu|hm
    ·rw[hu];trivial
    ·rcases g4 _ _ hm with⟨k,c',e1,e2,e3,e4,_⟩|⟨b,e1,_⟩
     ·cases e1
      simp only[mJ,if_true]
      rw[Array.getD_eq_getD_getElem?,Array.getElem?_append_left (by simp;omega),List.getElem?_toArray,e3]
      exact e4
     ·cases e1
   ·rcases oE (.x b)with hu|hm
    ·rw[hu];trivial
    ·rcases g4 _ _ hm with⟨k,c',e1,_⟩|⟨b',e1,_,e2,_⟩
     ·cases e1
     ·cases e1;exact e2
   ·rcases oE (.o i)with hu|hm
    ·rw[hu];trivial
    ·rcases g4 _ _ hm with⟨k,c',e1,_⟩|⟨b',e1,_⟩<;>cases e1
   ·rcases oE r with hu|hm
    ·rw[hu]at hi;simp[cp]at hi
    ·rcases g4 _ _ hm with⟨k,c',_,_,_,_,e5⟩|⟨b',_,_,_,e4⟩
     ·have:=e5 i hi;omega
     ·rw[e4]at hi;cases hi
   ·rcases hi with hi|hi
    ·rcases oE (.x i)with hu|hm
     ·exact absurd hu hi
     ·rcases g4 _ _ hm with⟨k,c',e1,_⟩|⟨b',e1,e2,_⟩
      ·cases e1
      ·cases e1;omega
    ·rcases oE (.o i)with hu|hm
     ·exact absurd hu hi
     ·rcases g4 _ _ hm with⟨k,c',e1,_⟩|⟨b',e1,_⟩<;>cases e1
   ·obtain⟨q1,q2⟩:=cU.fg b l hb
    refine⟨?_,q1⟩
    rcases q2 with rfl|⟨i,rfl,hi⟩
    ·show 0<sg.ps.length+1;omega
    ·have:=(cU.bl i b hi).1;show i<_;omega
  refine JG (f:=⟨0,λ_ _=>undef,fn.ntmps⟩) (R:=R) (out:=outs) (B:=⟨w,lP,bl⟩) E (JK E qi n) qi c 0 0 _ ⟨(qG 0 0 sg.ps).1,sg.ps.length+1⟩ [] _ pl _ w ⟨[],ts⟩ _ hb.1 h
   ⟨[],ts,Gh.AD lP bl,hF,rfl,⟨[],rfl⟩,⟨[],by simp⟩,g1.symm,λn b hn=>by simp[fact]at hn,gL,eY,trivial⟩ λe=>?_
  have fin:∀(n3:Nat) (s':St) (ff:Ct) (gx:gV) (p':PL) (a2:Act) (w2:World),Bn cx fn sg n3 s' ff gx=some p'->At S R outs ⟨w,lP,bl⟩ ⟨0,λ_ _=>undef,fn.ntmps⟩ ⟨[],ts⟩ XT p' n3 s' ff gx a2 w2->
    a2.defers=[]∧∃v,(Go.results fn a2.tmps).run P w2=.ok v w2∧∃v' G is o1 o2,Ending.returned v=.returned v'∧mb sg w lP bl outs v' w2 G is o1 o2:=by
   rintro n3 s' ff gx p' a2 w2 hk ⟨K2,yW,G2,d1,d2,d3,d4,d5,d6,d7,d8,_⟩
   unfold Bn at hk
   rw[bQ]at hk
   obtain⟨vs,mW,hk⟩:=hk
   obtain⟨us,u1,u2,u3⟩:=yX E.cN d7 mW
   refine⟨d7.dn,lH us,JI u1,?_⟩
   simp only at hk
   split at hk
   ·cases hk;cases d1
   ·rename_i k xs ids B6
    split at hk
    ·cases hk;cases d1
    ·rename_i ys H_
     cases xf:A7 ids with
     |false=>rw[xf]at hk;simp only[cond_false,aJ]at hk;subst hk;cases d1
     |true=>
      rw[xf]at hk
      simp only[cond_true]at hk
      cases JT:(Nat.beq k.ct.a (ff.a+nX k.is)&&xB k.ct.a k.is)with
      |false=>rw[JT]at hk;cases hk
      |true=>
       rw[JT]at hk
       simp only[cond_true,aJ]at hk
       subst hk
       simp only[bB]at JT
       have NC:=cK JT.1
       obtain⟨tz,w1,w3,w4⟩:=yJ (S:=S) (R:=R) (K:=K2) (out:=outs) (ρ:=yW) (by rw[d5,<-NC];exact JT.2) d1
       have JU:k.aP S (yW++tz):=by
        have:=w4 []
        rw[List.append_nil,d5,<-NC]at this
        exact this
       obtain⟨G3,d9,JV⟩:=(d7.ext (e:=tz)).vY (l:=xS vs sg.rs++vd s' 0 sg.ps)
       have JW:cm G3 w2 (yW++tz) vs us:=cm.aG (JV.aG w2) (cm.ext u2)
       have hg:∀r,k.get r=(z7 s' (xS vs sg.rs++vd s' 0 sg.ps)).get r:=λr=>(CT B6).get r
       obtain⟨_,_,is,v3,v4,v5⟩:=JQ B6 (λid=>d9.ob id) JW JU
       simp only[PL.den,aJ,List.map_append]at w3
       have hbo:=CV (k:=k) (λid=>by rw[hg];exact d9.ob id) (λb=>by rw[hg];exact d9.bx b) (λi b hb=>(d9.bt i b hb).2) H_ λn hn=>by rw[Nat.zero_add];exact g3 n hn
       have JX:(is.filterMap id).Nodup:=by rw[v4];exact Cn xf
       cases hp:nr sg with
       |false=>exact⟨lH us,G3,is,_,_,rfl,⟨⟨d9.base.os,d9.base.tape,d9.base.output⟩,d9.base.size,d9.base.free,d9.base.wU,λb l hb=>(d9.fg b l hb).2,λhq=>absurd (hp.symm.trans hq) (by simp),w3.symm,JX,JR v3,hbo⟩⟩
       |true=>
        refine⟨lH us,G3.eO,is,_,_,rfl,⟨⟨d9.base.os,d9.base.tape,d9.base.output⟩,d9.base.size,λb hb h0=>⟨s6 (d9.base.free b hb h0).1,(d9.base.free b hb h0).2⟩,λb hb=>⟨ve (d9.base.wU b hb).1 rfl,(d9.base.wU b hb).2⟩,
         λb l hb=>(d9.fg b l (Bp hb)).2,λ_ b hb=>by rw[Gh.lI]at hb;exact hb,w3.symm,JX,JR (v3.eO (Sr Ss hp) v5),hbo.eO⟩⟩
  cases e with
  |normal=>intro n3 s' ff gx p' a2 w2 dN jv;exact fin n3 s' ff gx p' a2 w2 dN jv
  |ret=>intro n3 s' ff gx p' a2 w2 dN jv;exact fin n3 s' ff gx p' a2 w2 dN jv
  |exit id=>intro n3 s' ff gx p' a2 w2 dN jv;cases dN
end
def pick(l:List (Nat×ay))(g:Nat):ay:=
 match l with
 | []=>λ_=>none
 |e::l=>bif Nat.beq e.1 g then e.2 else pick l g
def Q(p:Prim)(l:List Lf)(r:PL):PL:=.ins (.pr p l) r
def I(n:Int):Lf:=.k (.int .i64 n)
instance Lfn {n:Nat}:OfNat Lf n:=⟨.a n⟩
def Qc(w i:Nat)(l:List Lf)(r:PL):PL:=.ins (.pr (.cell w i) l) r
def Qz(l:List Lf)(r:PL):PL:=.ins (.pr (.pQ) l) r
def Qa(l:List Lf)(r:PL):PL:=.ins (.pr (.bin .add) l) r
def Qb(l:List Lf)(r:PL):PL:=.ins (.pr (.ia) l) r
def Ql(l:List Lf)(r:PL):PL:=.ins (.pr (.bin .lss) l) r
def Qe(l:List Lf)(r:PL):PL:=.ins (.pr (.bin .eql) l) r
def Qn(l:List Lf)(r:PL):PL:=.ins (.pr (.len) l) r
def Qt(l:List Lf)(r:PL):PL:=.ins (.pr (.un .not) l) r
def Qp(l:List Lf)(r:PL):PL:=.ins (.pr (.app true 1) l) r
def Qo(l:List Lf)(r:PL):PL:=.ins (.pr (.app false 3) l) r
def Qu(l:List Lf)(r:PL):PL:=.ins (.pr (.bin .neq) l) r
def Qg(l:List Lf)(r:PL):PL:=.ins (.pr (.bin .gtr) l) r
def Qm(l:List Lf)(r:PL):PL:=.ins (.pr (.bin .leq) l) r
def Qh(l:List Lf)(r:PL):PL:=.ins (.pr (.bin .geq) l) r
def Qs(l:List Lf)(r:PL):PL:=.ins (.pr (.bin .sub) l) r
def Qx(l:List Lf)(r:PL):PL:=.ins (.pr (.lit 1 [true]) l) r
def Qy(l:List Lf)(r:PL):PL:=.ins (.pr (.app false 8) l) r
def Qq(l:List Lf)(r:PL):PL:=.ins (.pr .ia l)<| .ins (.pr (.bN 1 0) l) r
def Q1(l:List Lf)(r:PL):PL:=.ins (.pr .ia l)<| .ins (.pr (.cell 1 0) l)<|r
def Q2(l:List Lf)(r:PL):PL:=.ins (.pr .ia l)<| .ins (.pr (.cell 2 0) l)<| .ins (.pr (.cell 2 1) l)<|r
def Q3(l:List Lf)(r:PL):PL:=.ins (.pr .ia l)<| .ins (.pr (.cell 3 0) l)<| .ins (.pr (.cell 3 1) l)<| .ins (.pr (.cell 3 2) l)<|r
def Q4(l:List Lf)(r:PL):PL:=.ins (.pr .ia l)<| .ins (.pr (.cell 4 0) l)<| .ins (.pr (.cell 4 1) l)<| .ins (.pr (.cell 4 2) l)<| .ins (.pr (.cell 4 3) l)<|r
def Q6(l:List Lf)(r:PL):PL:=.ins (.pr .ia l)<| .ins (.pr (.cell 6 0) l)<| .ins (.pr (.cell 6 1) l)<| .ins (.pr (.cell 6 2) l)<| .ins (.pr (.cell 6 3) l)<| .ins (.pr (.cell 6 4) l)<| .ins (.pr (.cell 6 5) l)<|r
def Q8(l:List Lf)(r:PL):PL:=.ins (.pr .ia l)<| .ins (.pr (.cell 8 0) l)<| .ins (.pr (.cell 8 1) l)<| .ins (.pr (.cell 8 2) l)<| .ins (.pr (.cell 8 3) l)<| .ins (.pr (.cell 8 4) l)<| .ins (.pr (.cell 8 5) l)<| .ins (.pr (.cell 8 6) l)<| .ins (.pr (.cell 8 7) l)<|r
def Qi(g:Nat)(l:List Lf)(m:Nat)(r:PL):PL:=.ins (.cl g l m) r
def Fs(p:PL)(l:List (Nat×ay)):ay:=λts=>p.den (pick l) rounds [] ts
inductive Ty where
 |i (k:IntKind)
 |b
 |s
 |sl (fs:List Ty)
mutual
def WT:Ty->T->Prop
 | .i k,t=>∃n,t=.c (.int k n)∧(Lit.int k n).wf=true
 | .b,t=>∃b,t=.c (.bool b)
 | .s,t=>∃s:ByteArray,t=.c (.string s)∧s.size<=maxLen
 | .sl fs,t=>∃xs,t=.l xs∧xs.length<=maxLen∧∀r∈xs,fQ fs r
def fQ:List Ty->List T->Prop
 | [],ts=>ts=[]
 |f::fs,ts=>∃t nj,ts=t::nj∧WT f t∧fQ fs nj
end
def JY:List Ty->List T->Prop
 | [],ts=>ts=[]
 |f::fs,ts=>∃t nj,ts=t::nj∧(match f with
  | .i k=>∃n,t=.c (.int k n)∧(Lit.int k n).wf=true
  | .b=>∃b,t=.c (.bool b)
  | .s=>∃s:ByteArray,t=.c (.string s)∧s.size<=maxLen
  | .sl gs=>WT (.sl gs) t)∧JY fs nj
theorem CW:∀{fs:List Ty} {ts:List T},fQ fs ts->JY fs ts
 | [],ts,h=>by unfold fQ at h;exact h
 |f::fs,ts,h=>by
  unfold fQ at h
  obtain⟨t,nj,rfl,h1,h2⟩:=h
  refine⟨t,nj,rfl,?_,CW h2⟩
  cases f with
  |i k=>unfold WT at h1;exact h1
  |b=>unfold WT at h1;exact h1
  |s=>unfold WT at h1;exact h1
  |sl gs=>exact h1
theorem fQ.append:∀{fs gs:List Ty} {ts us:List T},fQ fs ts->fQ gs us->fQ (fs++gs) (ts++us)
 | [],gs,ts,us,h,h'=>by
  unfold fQ at h
  subst h
  exact h'
 |f::fs,gs,ts,us,h,h'=>by
  unfold fQ at h
  obtain⟨t,nj,rfl,h1,h2⟩:=h
  show fQ (f::(fs++gs)) (t::(nj++us))
  unfold fQ
  exact⟨t,_,rfl,h1,h2.append h'⟩
theorem fQ.length:∀{fs:List Ty} {ts:List T},fQ fs ts->ts.length=fs.length
 | [],ts,h=>by
  unfold fQ at h
  subst h
  rfl
 |f::fs,ts,h=>by
  unfold fQ at h
  obtain⟨t,nj,rfl,h1,h2⟩:=h
  simp[h2.length]
mutual
def bulk:T->Nat
 | .c (.string s)=>s.size
 | .c _=>0
 | .l xs=>kj xs
def sx:List T->Nat
 | []=>0
 |t::ts=>bulk t+sx ts
def kj:List (List T)->Nat
 | []=>0
 |r::rs=>1+(sx r+kj rs)
end
theorem JZ:∀(xs:List (List T)),xs.length<=kj xs
 | []=>by simp[kj]
 |r::rs=>by have:=JZ rs;simp[kj];omega
theorem J0:∀{xs:List (List T)} {i:Nat} {r:List T},xs[i]?=some r->sx r+1<=kj xs
 | [],_,_,h=>by simp at h
 |r'::rs,0,r,h=>by simp at h;subst h;simp[kj];omega
 |r'::rs,i+1,r,h=>by
  have:=J0 (xs:=rs) (i:=i) (r:=r) (by simpa using h)
  simp[kj];omega
theorem jO_:∀{xs:List (List T)} {i:Nat} {r:List T},xs[i]?=some r->kj (xs.take (i+1))=kj (xs.take i)+(sx r+1)
 | [],_,_,h=>by simp at h
 |r'::rs,0,r,h=>by simp at h;subst h;simp[kj];omega
 |r'::rs,i+1,r,h=>by
  have:=jO_ (xs:=rs) (i:=i) (r:=r) (by simpa using h)
  simp only[List.take_succ_cons,kj,this];omega
theorem Su(xs ys:List (List T)):kj (xs++ys)=kj xs+kj ys:=by
 induction xs with
 |nil=>simp[kj]
 |cons r rs ih=>simp[kj,ih];omega
theorem v8(xs:List (List T)):bulk (.l xs)=kj xs:=by simp only[bulk]
theorem J1(k:IntKind)(n:Int):bulk (.c (.int k n))=0:=by simp only[bulk]
theorem J2(b:Bool):bulk (.c (.bool b))=0:=by simp only[bulk]
theorem J3(t:T)(ts:List T):sx (t::ts)=bulk t+sx ts:=by simp only[sx]
theorem oe{α β:Type}(a:α)(f:α->Option β):(some a).bind f=f a:=rfl
theorem tM{n:Int}(h:-9223372036854775808<=n)(h':n<9223372036854775808):IntKind.i64.wrap n=n:=by
 simp[IntKind.wrap,IntKind.bits,IntKind.signed]
 omega
theorem CX(xs:List (List T)):Prim.ev .len [.l xs]=some (.c (.int .i64 xs.length)):=rfl
theorem Sv(s:ByteArray):Prim.ev .lens [.c (.string s)]=some (.c (.int .i64 s.size)):=rfl
theorem Sw(k:IntKind)(n:Int):Prim.ev .pQ [.c (.int k n)]=some (.c (.int k n)):=rfl
theorem Sx(b:Bool):Prim.ev .pQ [.c (.bool b)]=some (.c (.bool b)):=rfl
theorem Sy(s:ByteArray):Prim.ev .pQ [.c (.string s)]=some (.c (.string s)):=rfl
theorem CY(k:IntKind)(a b:Int):Prim.ev (.bin .lss) [.c (.int k a),.c (.int k b)]=some (.c (.bool (decide (a<b)))):=by simp[Prim.ev,T.val,gH]
theorem Sz(k:IntKind)(a b:Int):Prim.ev (.bin .leq) [.c (.int k a),.c (.int k b)]=some (.c (.bool (decide (a<=b)))):=by simp[Prim.ev,T.val,gH]
theorem SA(k:IntKind)(a b:Int):Prim.ev (.bin .gtr) [.c (.int k a),.c (.int k b)]=some (.c (.bool (decide (a>b)))):=by simp[Prim.ev,T.val,gH]
theorem SB(k:IntKind)(a b:Int):Prim.ev (.bin .geq) [.c (.int k a),.c (.int k b)]=some (.c (.bool (decide (a>=b)))):=by simp[Prim.ev,T.val,gH]
theorem J4(k:IntKind)(a b:Int):Prim.ev (.bin .eql) [.c (.int k a),.c (.int k b)]=some (.c (.bool (a==b))):=by simp[Prim.ev,T.val,gH]
theorem SC(k:IntKind)(a b:Int):Prim.ev (.bin .neq) [.c (.int k a),.c (.int k b)]=some (.c (.bool (a !=b))):=by simp[Prim.ev,T.val,gH]
theorem CZ(k:IntKind)(a b:Int):Prim.ev (.bin .add) [.c (.int k a),.c (.int k b)]=some (.c (.int k (k.wrap (a+b)))):=by simp[Prim.ev,T.val,gH]
theorem SD(k:IntKind)(a b:Int):Prim.ev (.bin .sub) [.c (.int k a),.c (.int k b)]=some (.c (.int k (k.wrap (a-b)))):=by simp[Prim.ev,T.val,gH]
theorem C0(k:IntKind)(a b:Int):Prim.ev (.bin .mul) [.c (.int k a),.c (.int k b)]=some (.c (.int k (k.wrap (a*b)))):=by simp[Prim.ev,T.val,gH]
theorem SE(a b:ByteArray):Prim.ev (.bin .eql) [.c (.string a),.c (.string b)]=some (.c (.bool (a.toList==b.toList))):=by simp[Prim.ev,T.val,gH]
theorem SF(a b:ByteArray):Prim.ev (.bin .neq) [.c (.string a),.c (.string b)]=some (.c (.bool !(a.toList==b.toList))):=by simp[Prim.ev,T.val,gH]
theorem SG(a b:Bool):Prim.ev (.bb .neq) [.c (.bool a),.c (.bool b)]=some (.c (.bool (a !=b))):=by cases a<;>cases b<;>rfl
theorem SH(a b:Bool):Prim.ev (.bb .eql) [.c (.bool a),.c (.bool b)]=some (.c (.bool (a==b))):=by cases a<;>cases b<;>rfl
theorem SI(a:Bool):Prim.ev (.un .not) [.c (.bool a)]=some (.c (.bool !a)):=by cases a<;>rfl
theorem y4{xs:List (List T)}{i:Nat}{r:List T}{k:IntKind}(h:xs[i]?=some r):qW (.l xs) (.c (.int k (i:Int)))=some r:=by
 simp[qW,T.rows,T.int,h]
theorem J5{xs:List (List T)}{i:Nat}{r:List T}{k:IntKind}(h:xs[i]?=some r):Prim.ev .ia [.l xs,.c (.int k (i:Int))]=some (.c (.bool true)):=by
 simp[Prim.ev,y4 h]
theorem J6{sc:Bool}{xs:List (List T)}{i w off n:Nat}{r vs:List T}{k:IntKind}(h:xs[i]?=some r)(hw:r.length=w)(ho:off+n<=w)(hv:vs.length=n)(hs:(!sc||vs.all dr)=true):
  Prim.ev (.put sc w off n) (.l xs:: .c (.int k (i:Int))::vs)=some (.l (setRow xs i off vs)):=by
 simp only[Prim.ev,y4 h,hw,ho,hv,hs,T.rows,T.int,Option.bind_some,if_true,Int.toNat_natCast]
theorem SJ{k k':IntKind}{n:Nat}{ts:List T}(h:n<qD):Prim.ev .mk (.c (.int k (n:Int)):: .c (.int k' (n:Int))::ts)=some (.l (List.replicate n ts)):=by
 unfold qD at h
 simp[Prim.ev,qD,show(n:Int)<4294967296 by omega]
theorem sy{S:Nat->ay}{R:Nat}{K:List ay}{ρ:List T}(p:Prim)(xs:List Lf)(k:PL):PL.den S R K ρ (.ins (.pr p xs) k)=(p.ev (xs.map (Lf.ev ρ))).bind λt=>k.den S R K (ρ++[t]):=by simp only[PL.den]
def aB(t:T)(x y:Option (List T)):Option (List T):=match t with
 | .c (.bool b)=>bif b then x else y
 |_=>none
theorem J7(b:Bool)(x y:Option (List T)):aB (.c (.bool b)) x y=bif b then x else y:=rfl
theorem C1{S:Nat->ay}{R:Nat}{K:List ay}{ρ:List T}(c:Nat)(x y:PL):PL.den S R K ρ (.ite c x y)=aB (ρ.getD c T.bX) (x.den S R K ρ) (y.den S R K ρ):=by
 simp only[PL.den,aB]
 generalize ρ.getD c T.bX=t
 cases t with
 |c v=>cases v<;>rfl
 |l xs=>rfl
theorem SK{S:Nat->ay}{R:Nat}{K:List ay}{ρ:List T}(xs:List Lf)(b:PL):PL.den S R K ρ (.loop xs b)=iter (λself ts=>b.den S R (self::K) (ρ++ts)) R (xs.map (Lf.ev ρ)):=by simp only[PL.den]
theorem SL{S:Nat->ay}{R:Nat}{f:ay}{K:List ay}{ρ:List T}(xs:List Lf):PL.den S R (f::K) ρ (.go 0 xs)=f (xs.map (Lf.ev ρ)):=by simp[PL.den]
theorem SM{S:Nat->ay}{R j:Nat}{f:ay}{K:List ay}{ρ:List T}(xs:List Lf):PL.den S R (f::K) ρ (.go (j+1) xs)=PL.den S R K ρ (.go j xs):=by simp[PL.den]
theorem tN(ρ:List T)(v:Value):Lf.ev ρ (.k v)=.c v:=rfl
theorem jx(ρ:List T)(n:Nat):Lf.ev ρ (.a n)=ρ.getD n T.bX:=rfl
set_option linter.unusedSimpArgs false
theorem fQ.one{f:Ty}{ts:List T}(h:fQ [f] ts):∃t,ts=[t]∧WT f t:=by
 unfold fQ at h
 obtain⟨t,nj,rfl,h1,h2⟩:=h
 unfold fQ at h2
 subst h2
 exact⟨t,rfl,h1⟩
theorem SN{α:Type}{xs:List α}{i:Nat}{r:α}(h:xs[i]?=some r):r∈xs:=List.mem_of_getElem? h
theorem SO{α:Type}{xs:List α}{i:Nat}(h:i<xs.length):∃r,xs[i]?=some r:=⟨xs[i],List.getElem?_eq_getElem h⟩
def SP:Nat->Nat->List Lf
 |_,0=>[]
 |b,n+1=>.a b::SP (b+1) n
theorem vP{ρ B:List T}{n:Nat}(h:n<ρ.length):Lf.ev (ρ++B) (.a n)=Lf.ev ρ (.a n):=by
 simp[Lf.ev,List.getD,List.getElem?_append_left h]
set_option linter.unusedSimpArgs false
theorem SQ{α:Type}{xs:List α}{i:Nat}{r:α}(h:xs[i]?=some r):xs.take (i+1)=xs.take i++[r]:=by
 rw[List.take_add_one,h];rfl
set_option linter.unusedSimpArgs false
theorem SR{α β:Type}{F:(α->Option β)->α->Option β}{n:Nat}(Inv:Nat->α->Prop){Q:Option β->Prop}
  (step:∀i x,i<n->Inv i x->∀s,(∃x',Inv (i+1) x'∧F s x=s x')∨Q (F s x))(fin:∀x,Inv n x->∀s,Q (F s x)){x:α}(hx:Inv 0 x){R:Nat}(hR:n<R):Q (iter F R x):=by
 have:∀d i x,i+d=n->Inv i x->∀R,d<R->Q (iter F R x):=by
  intro d
  induction d with
  |zero=>
   intro i x hi hx R hR
   cases R with
   |zero=>omega
   |succ R=>rw[Nat.add_zero]at hi;subst hi;exact fin x hx _
  |succ d ih=>
   intro i x hi hx R hR
   cases R with
   |zero=>omega
   |succ R=>
    unfold iter
    rcases step i x (by omega) hx (iter F R)with⟨x',h1,h2⟩|h
    ·rw[h2];exact ih (i+1) x' (by omega) h1 R (by omega)
    ·exact h
 exact this n 0 x (by omega) hx R hR
def af1(o o':Option (List T)):Prop:=∃b,o=some [.c (.bool b)]∧o'=some [.c (.bool b)]
theorem SS(a b c d:Int):Prim.ev (.qV [1,1]) [.c (.int .i64 a),.c (.int .i64 b),.c (.int .i64 c),.c (.int .i64 d)]=some (.c (.bool (a==c&&(b==d)))):=by
 simp[Prim.ev,r7,EQ]
set_option linter.unusedSimpArgs false
def eP(g:Nat->List T->Nat×List T):Nat->List (List T)->Nat×List (List T)
 |n,[]=>(n,[])
 |n,r::rs=>((eP g (g n r).1 rs).1,(g n r).2::(eP g (g n r).1 rs).2)
mutual
def nM:Ty->Nat->T->Nat×T
 | .i k,n,_=>(n+1,.c (.int k (n:Int)))
 | .b,n,_=>(n+1,.c (.bool (n%3==0)))
 | .s,n,t=>(n,t)
 | .sl fs,n,t=>match t with
  | .l xs=>((eP (fb fs) n xs).1,.l (eP (fb fs) n xs).2)
  |t=>(n,t)
def fb:List Ty->Nat->List T->Nat×List T
 | [],n,_=>(n,[])
 |f::fs,n,ts=>match ts with
  |t::ts=>((fb fs (nM f n t).1 ts).1,(nM f n t).2::(fb fs (nM f n t).1 ts).2)
  | []=>(n,[])
end
theorem y6(n:Nat)(ts:List T):fb [] n ts=(n,[]):=by simp only[fb]
theorem y7(f:Ty)(fs:List Ty)(n:Nat)(t:T)(ts:List T):fb (f::fs) n (t::ts)=((fb fs (nM f n t).1 ts).1,(nM f n t).2::(fb fs (nM f n t).1 ts).2):=by simp only[fb]
theorem C2(k:IntKind)(n:Nat)(t:T):nM (.i k) n t=(n+1,.c (.int k (n:Int))):=by simp only[nM]
theorem C3(n:Nat)(t:T):nM .b n t=(n+1,.c (.bool (n%3==0))):=by simp only[nM]
theorem C4(fs:List Ty)(n:Nat)(xs:List (List T)):nM (.sl fs) n (.l xs)=((eP (fb fs) n xs).1,.l (eP (fb fs) n xs).2):=by simp only[nM]
theorem J8{g:Nat->List T->Nat×List T}:∀(xs:List (List T)) (n:Nat) (r:List T),eP g n (xs++[r])=((g (eP g n xs).1 r).1,(eP g n xs).2++[(g (eP g n xs).1 r).2])
 | [],n,r=>rfl
 |x::xs,n,r=>by
  show((eP g (g n x).1 (xs++[r])).1,(g n x).2::(eP g (g n x).1 (xs++[r])).2)=_
  rw[J8 xs]
  rfl
theorem NY{g:Nat->List T->Nat×List T}:∀(xs:List (List T)) (n:Nat),(eP g n xs).2.length=xs.length
 | [],n=>rfl
 |x::xs,n=>by simp[eP,NY xs]
theorem SU{g:Nat->List T->Nat×List T}{xs:List (List T)}{i:Nat}{r:List T}(h:xs[i]?=some r)(n:Nat):eP g n (xs.take (i+1))=((g (eP g n (xs.take i)).1 r).1,(eP g n (xs.take i)).2++[(g (eP g n (xs.take i)).1 r).2]):=by
 rw[SQ h,J8]
mutual
def ux:Ty->Bool
 | .i .i64=>true
 | .i _=>false
 | .b=>true
 | .s=>false
 | .sl fs=>Nat.ble fs.length 64&&mZ fs
def mZ:List Ty->Bool
 | []=>true
 |f::fs=>ux f&&mZ fs
end
theorem C5{f:Ty}{fs:List Ty}(h:mZ (f::fs)=true):ux f=true∧mZ fs=true:=by
 unfold mZ at h
 simpa using h
theorem v9{fs:List Ty}(h:ux (.sl fs)=true):fs.length<=64∧mZ fs=true:=by
 unfold ux at h
 simp only[bB]at h
 exact⟨Nat.le_of_ble_eq_true h.1,h.2⟩
theorem J9{g:Nat->List T->Nat×List T}{xs:List (List T)}(hg:∀n,∀r∈xs,n<=(g n r).1∧(g n r).1<=n+64*(1+sx r)):∀(n:Nat),n<=(eP g n xs).1∧(eP g n xs).1<=n+64*kj xs:=by
 induction xs with
 |nil=>intro n;simp[eP,kj]
 |cons x xs ih=>
  intro n
  have h1:=hg n x (.head _)
  have h2:=ih (λn r hr=>hg n r (.tail _ hr)) (g n x).1
  simp only[eP,kj]
  omega
mutual
theorem C6:∀(f:Ty) (n:Nat) (t:T),ux f=true->WT f t->n<=(nM f n t).1∧(nM f n t).1<=n+1+64*bulk t
 | .i k,n,t,_,_=>by simp only[C2];omega
 | .b,n,t,_,_=>by simp only[C3];omega
 | .s,n,t,h,_=>by simp[ux]at h
 | .sl fs,n,t,h,ht=>by
  unfold WT at ht
  obtain⟨xs,rfl,_,hx⟩:=ht
  have hm:=v9 h
  rw[C4,v8]
  have:=J9 (g:=fb fs) (xs:=xs) (λn r hr=>by
   have:=y8 fs n r hm.2 (hx r hr)
   omega) n
  simp only
  omega
theorem y8:∀(fs:List Ty) (n:Nat) (ts:List T),mZ fs=true->fQ fs ts->n<=(fb fs n ts).1∧(fb fs n ts).1<=n+fs.length+64*sx ts
 | [],n,ts,_,_=>by simp only[y6,List.length_nil];omega
 |f::fs,n,ts,h,ht=>by
  unfold fQ at ht
  obtain⟨t,nj,rfl,h1,h2⟩:=ht
  have hm:=C5 h
  have g1:=C6 f n t hm.1 h1
  have g2:=y8 fs (nM f n t).1 nj hm.2 h2
  rw[y7,J3]
  simp only[List.length_cons]
  omega
end
mutual
theorem SW:∀(f:Ty) (n:Nat) (t:T),ux f=true->WT f t->n+1+64*bulk t<4611686018427387904->WT f (nM f n t).2∧bulk (nM f n t).2=bulk t
 | .i k,n,t,hk,ht,hn=>by
  unfold WT at ht
  obtain⟨m,rfl,_⟩:=ht
  rw[C2,J1,J1]
  refine⟨?_,rfl⟩
  unfold WT
  cases k with
  |i64=>exact⟨n,rfl,by simp[Lit.wf,IntKind.min,IntKind.max,IntKind.signed,IntKind.bits];omega⟩
  |_=>simp[ux]at hk
 | .b,n,t,_,ht,_=>by
  unfold WT at ht
  obtain⟨m,rfl⟩:=ht
  rw[C3,J2,J2]
  refine⟨?_,rfl⟩
  unfold WT
  exact⟨_,rfl⟩
 | .s,n,t,h,_,_=>by simp[ux]at h
 | .sl fs,n,t,h,ht,hn=>by
  unfold WT at ht
  obtain⟨xs,rfl,hl,hx⟩:=ht
  have hm:=v9 h
  rw[C4,v8,v8]
  rw[v8]at hn
  have:∀(xs:List (List T)) (n:Nat),(∀r∈xs,fQ fs r)->n+1+64*kj xs<4611686018427387904->(∀r∈(eP (fb fs) n xs).2,fQ fs r)∧kj (eP (fb fs) n xs).2=kj xs:=by
   intro xs
   induction xs with
   |nil=>intro n _ _;simp[eP]
   |cons x xs ih=>
    intro n hx hn
    simp only[kj]at hn
    have g0:=y8 fs n x hm.2 (hx x (.head _))
    have g1:=J_ fs n x hm.2 (hx x (.head _)) (by omega)
    have g2:=ih (fb fs n x).1 (λr hr=>hx r (.tail _ hr)) (by omega)
    simp only[eP,kj,List.mem_cons]
    refine⟨?_,by rw[g1.2,g2.2]⟩
    rintro r (rfl|hr)
    ·exact g1.1
    ·exact g2.1 r hr
  have:=this xs n hx hn
  refine⟨?_,this.2⟩
  unfold WT
  exact⟨_,rfl,by rw[NY];exact hl,this.1⟩
theorem J_:∀(fs:List Ty) (n:Nat) (ts:List T),mZ fs=true->fQ fs ts->n+fs.length+64*sx ts<4611686018427387904->fQ fs (fb fs n ts).2∧sx (fb fs n ts).2=sx ts
 | [],n,ts,_,ht,_=>by
  unfold fQ at ht
  subst ht
  rw[y6]
  refine⟨?_,rfl⟩
  unfold fQ
  rfl
 |f::fs,n,ts,h,ht,hn=>by
  unfold fQ at ht
  obtain⟨t,nj,rfl,h1,h2⟩:=ht
  have hm:=C5 h
  simp only[J3,List.length_cons]at hn
  have g0:=C6 f n t hm.1 h1
  have g1:=SW f n t hm.1 h1 (by omega)
  have g2:=J_ fs (nM f n t).1 nj hm.2 h2 (by omega)
  rw[y7,J3,J3,g1.2,g2.2]
  refine⟨?_,rfl⟩
  unfold fQ
  exact⟨_,_,rfl,g1.1,g2.1⟩
end
theorem nk{ρ:List T}{n:Nat}{t:T}(h:ρ.getD n T.bX=t)(hn:n<ρ.length)(B:List T):(ρ++B).getD n T.bX=t:=by
 rw[<-h]
 simp[List.getD,List.getElem?_append_left hn]
theorem AE{ρ B:List T}{t:T}:(ρ++t::B).getD ρ.length T.bX=t:=by
 simp[List.getD]
theorem SX(n:Nat):Prim.ev (.bin .rem) [.c (.int .i64 (n:Int)),.c (.int .i64 3)]=some (.c (.int .i64 ((n%3:Nat):Int))):=by
 simp only[Prim.ev,T.val,gH,Option.bind_some,if_true]
 rw[if_neg (by decide)]
 simp only[Option.bind_some]
 congr 3
theorem SY(a b:Nat):(((a:Int))==(b:Int))=(a==b):=by
 rw[Bool.eq_iff_iff]
 simp only[beq_iff_eq]
 omega
set_option linter.unusedSimpArgs false
theorem qO{ρ:List T}{p:Nat}(hp:ρ.length=p)(m:Nat)(B:List T):(ρ++B).getD (p+m) T.bX=B.getD m T.bX:=by
 subst hp
 simp only[List.getD,List.getElem?_append_right (Nat.le_add_right _ _),Nat.add_sub_cancel_left]
set_option linter.unusedSimpArgs false
abbrev Pt:=List (Nat×Nat×Nat)
def d_:Pt->T->Option T
 | [],t=>some t
 |(i,w,j)::P,.l xs=>(xs[i]?).bind λr=>if r.length=w then(r[j]?).bind λt=>t.rows.bind λys=>d_ P (.l ys)else none
 |_::_,.c _=>none
def cq:Pt->T->T->T
 | [],_,v=>v
 |(i,w,j)::P,.l xs,v=>.l (setRow xs i j [cq P (((xs[i]?).bind (·[j]?)).getD T.bX) v])
 |_::_,t,_=>t
theorem C7{i w j:Nat}{P:Pt}{t d:T}(h:d_ ((i,w,j)::P) t=some d):∃xs r ys,t=.l xs∧xs[i]?=some r∧r.length=w∧r[j]?=some (.l ys)∧d_ P (.l ys)=some d:=by
 cases t with
 |c v=>simp[d_]at h
 |l xs=>
  simp only[d_,bQ]at h
  obtain⟨r,hr,h⟩:=h
  split at h
  ·rename_i hw
   rw[bQ]at h
   obtain⟨u,hu,h⟩:=h
   cases u with
   |c v=>simp[T.rows]at h
   |l ys=>exact⟨xs,r,ys,rfl,hr,hw,hu,by simpa[T.rows]using h⟩
  ·cases h
theorem C8{i w j:Nat}{P:Pt}{xs:List (List T)}{r:List T}{ys:List (List T)}{d:T}(h1:xs[i]?=some r)(h2:r.length=w)(h3:r[j]?=some (.l ys))(h4:d_ P (.l ys)=some d):d_ ((i,w,j)::P) (.l xs)=some d:=by
 simp[d_,h1,h2,h3,T.rows,h4]
theorem y9{xs:List (List T)}{i:Nat}{a b:List T}{t v:T}{j:Nat}(h:xs[i]?=some (a++t::b))(hj:a.length=j):setRow xs i j [v]=xs.set i (a++v::b):=by
 subst hj
 unfold setRow
 apply List.ext_getElem?
 intro k
 rw[List.getElem?_modify,List.getElem?_set]
 by_cases hk:i=k
 ·subst hk
  have hi:i<xs.length:=(List.getElem?_eq_some_iff.1 h).1
  rw[h]
  simp[hi]
 ·simp[hk]
theorem C9{r:List T}{j:Nat}{t:T}(h:r[j]?=some t):∃a b,r=a++t::b∧a.length=j:=by
 obtain⟨hj,he⟩:=List.getElem?_eq_some_iff.1 h
 refine⟨r.take j,r.drop (j+1),?_,by simp;omega⟩
 rw[<-he,<-List.drop_eq_getElem_cons hj,List.take_append_drop]
theorem SZ{xs:List (List T)}{i:Nat}{r:List T}{t v:T}{j:Nat}(h:xs[i]?=some r)(hj:r[j]?=some t):∃r',(setRow xs i j [v])[i]?=some r'∧r'.length=r.length∧r'[j]?=some v:=by
 obtain⟨a,b,rfl,ha⟩:=C9 hj
 have hi:i<xs.length:=(List.getElem?_eq_some_iff.1 h).1
 rw[y9 h ha]
 refine⟨a++v::b,by simp[hi],by simp,?_⟩
 subst ha
 simp
theorem J':∀{P:Pt} {t d:T} {v:List (List T)},d_ P t=some d->d_ P (cq P t (.l v))=some (.l v)
 | [],t,d,v,_=>rfl
 |(i,w,j)::P,t,d,v,h=>by
  obtain⟨xs,r,ys,rfl,h1,h2,h3,h4⟩:=C7 h
  have ih:=J' (v:=v) h4
  have e:((xs[i]?).bind (·[j]?)).getD T.bX=.l ys:=by simp[h1,h3]
  simp only[cq,e]
  cases hs:cq P (.l ys) (.l v)with
  |c u=>rw[hs]at ih;cases P with
   |nil=>simp[d_]at ih
   |cons q P=>obtain⟨q1,q2,q3⟩:=q;simp[d_]at ih
  |l zs=>
   obtain⟨r',g1,g2,g3⟩:=SZ (v:=.l zs) h1 h3
   rw[hs]at ih
   exact C8 g1 (by rw[g2,h2]) g3 ih
theorem C_:∀{P:Pt} {t d:T} {v:List (List T)} {v':T},d_ P t=some d->cq P (cq P t (.l v)) v'=cq P t v'
 | [],t,d,v,v',_=>rfl
 |(i,w,j)::P,t,d,v,v',h=>by
  obtain⟨xs,r,ys,rfl,h1,h2,h3,h4⟩:=C7 h
  have ih:=C_ (v:=v) (v':=v') h4
  have e:((xs[i]?).bind (·[j]?)).getD T.bX=.l ys:=by simp[h1,h3]
  obtain⟨a,b,rfl,ha⟩:=C9 h3
  have hi:i<xs.length:=(List.getElem?_eq_some_iff.1 h1).1
  have e2:∀u:T,(((setRow xs i j [u])[i]?).bind (·[j]?)).getD T.bX=u:=by
   intro u
   rw[y9 h1 ha]
   subst ha
   simp[hi]
  simp only[cq,e,e2,ih]
  congr 1
  have g1:(xs.set i (a++cq P (.l ys) (.l v)::b))[i]?=some (a++cq P (.l ys) (.l v)::b):=by simp[hi]
  rw[y9 h1 ha,y9 h1 ha,y9 g1 ha,List.set_set]
theorem Ka{xs:List (List T)}{i:Nat}{r:List T}(h:xs[i]?=some r):xs.set i r=xs:=by
 apply List.ext_getElem?
 intro k
 rw[List.getElem?_set]
 by_cases hk:i=k
 ·subst hk
  have hi:i<xs.length:=(List.getElem?_eq_some_iff.1 h).1
  simp[hi,h.symm]
 ·simp[hk]
theorem C':∀{P:Pt} {t d:T},d_ P t=some d->cq P t d=t
 | [],t,d,h=>by simp only[d_,aJ]at h;exact h.symm
 |(i,w,j)::P,t,d,h=>by
  obtain⟨xs,r,ys,rfl,h1,h2,h3,h4⟩:=C7 h
  have ih:=C' h4
  have e:((xs[i]?).bind (·[j]?)).getD T.bX=.l ys:=by simp[h1,h3]
  obtain⟨a,b,rfl,ha⟩:=C9 h3
  simp only[cq,e,ih]
  rw[y9 h1 ha,Ka h1]
theorem Kb:∀{P Q:Pt} {t:T},d_ (P++Q) t=(d_ P t).bind (d_ Q)
 | [],Q,t=>rfl
 |(i,w,j)::P,Q,.c v=>by simp[d_]
 |(i,w,j)::P,Q,.l xs=>by
  simp only[List.cons_append,d_]
  cases xs[i]? with
  |none=>rfl
  |some r=>
   simp only[Option.bind_some]
   split
   ·cases r[j]? with
    |none=>rfl
    |some u=>
     simp only[Option.bind_some]
     cases u with
     |c v=>rfl
     |l ys=>simp only[T.rows,Option.bind_some];exact Kb
   ·rfl
theorem Kc:∀{P Q:Pt} {t d v:T},d_ P t=some d->cq (P++Q) t v=cq P t (cq Q d v)
 | [],Q,t,d,v,h=>by simp only[d_,aJ]at h;subst h;rfl
 |(i,w,j)::P,Q,t,d,v,h=>by
  obtain⟨xs,r,ys,rfl,h1,h2,h3,h4⟩:=C7 h
  have e:((xs[i]?).bind (·[j]?)).getD T.bX=.l ys:=by simp[h1,h3]
  simp only[List.cons_append,cq,e,Kc h4]
def cb(ρ:List T):Pt->Pt->Prop
 | [],[]=>True
 |(a,w,j)::P,(i,w',j')::Q=>w=w'∧j=j'∧a<ρ.length∧ρ.getD a T.bX=.c (.int .i64 (i:Int))∧cb ρ P Q
 |_,_=>False
theorem cb.ext{ρ:List T}(B:List T):∀{P Q:Pt},cb ρ P Q->cb (ρ++B) P Q
 | [],[],_=>trivial
 |(a,w,j)::P,(i,w',j')::Q,⟨h1,h2,h3,h4,h5⟩=>⟨h1,h2,by simp;omega,nk h4 h3 B,cb.ext B h5⟩
 | [],_::_,h=>h.elim
 |(_,_,_)::_,[],h=>h.elim
theorem cb.snoc{ρ:List T}{a i w j:Nat}(h1:a<ρ.length)(h2:ρ.getD a T.bX=.c (.int .i64 (i:Int))):∀{P Q:Pt},cb ρ P Q->cb ρ (P++[(a,w,j)]) (Q++[(i,w,j)])
 | [],[],_=>⟨rfl,rfl,h1,h2,trivial⟩
 |(a',w',j')::P,(i',O4,j'')::Q,⟨g1,g2,g3,g4,g5⟩=>⟨g1,g2,g3,g4,cb.snoc h1 h2 g5⟩
 | [],_::_,h=>h.elim
 |(_,_,_)::_,[],h=>h.elim
def xg:Pt->Nat->Nat->(Nat->Nat->PL)->PL
 | [],s,p,k=>k s p
 |(a,w,j)::P,s,p,k=>.ins (.pr (.jj w j) [.a s,.a a]) (xg P p (p+1) k)
def Fl:Pt->Nat->Nat->Nat->Nat->(Nat->Nat->PL)->PL
 | [],_,_,v,p,k=>k v p
 |(a,w,j)::P,e,e',v,p,k=>Fl P e' (e'+1) v p λv' p'=>.ins (.pr (.sR w j) [.a e,.a a,.a v']) (k p' (p'+1))
theorem Kd{xs:List (List T)}{i w j:Nat}{r:List T}{ys:List (List T)}(h:xs[i]?=some r)(hw:r.length=w)(hj:r[j]?=some (.l ys)):Prim.ev (.jj w j) [.l xs,.c (.int .i64 (i:Int))]=some (.l ys):=by
 simp[Prim.ev,y4 h,hw,hj,T.rows]
theorem S0{xs:List (List T)}{i w j:Nat}{r:List T}{v:T}(h:xs[i]?=some r)(hw:r.length=w)(hj:j<w):Prim.ev (.sR w j) [.l xs,.c (.int .i64 (i:Int)),v]=some (.l (setRow xs i j [v])):=by
 simp[Prim.ev,y4 h,hw,hj,T.rows,T.int]
def iV:Pt->T->List T
 | [],_=>[]
 |(i,w,j)::P,t=>match d_ [(i,w,j)] t with
  |some u=>u::iV P u
  |none=>[]
theorem Da{i w j:Nat}{P:Pt}{xs:List (List T)}{r:List T}{ys:List (List T)}(h1:xs[i]?=some r)(h2:r.length=w)(h3:r[j]?=some (.l ys)):iV ((i,w,j)::P) (.l xs)=.l ys::iV P (.l ys):=by
 simp only[iV,C8 h1 h2 h3 (P:=[]) rfl]
section
variable {S:Nat->ay} {R:Nat} {K:List ay} {out:Option (List T)}
theorem AF:∀{P Q:Pt} {s p:Nat} {k:Nat->Nat->PL} {ρ:List T} {t d:T},cb ρ P Q->d_ Q t=some d->ρ.length=p->s<p->ρ.getD s T.bX=t->
  (∀e,(iV Q t).length=P.length->e<p+P.length->(ρ++iV Q t).getD e T.bX=d->PL.den S R K (ρ++iV Q t) (k e (p+P.length))=out)->PL.den S R K ρ (xg P s p k)=out
 | [],[],s,p,k,ρ,t,d,_,hg,hp,hs,ht,hk=>by
  simp only[d_,aJ]at hg
  subst hg
  have:=hk s rfl (by simpa using hs) (by simpa[iV]using ht)
  simpa[iV,xg]using this
 |(a,w,j)::P,(i,w',j')::Q,s,p,k,ρ,t,d,⟨z1,z2,h3,h4,h5⟩,hg,hp,hs,ht,hk=>by
  subst z1 z2
  obtain⟨xs,r,ys,rfl,g1,g2,g3,g4⟩:=C7 hg
  rw[Da g1 g2 g3]at hk
  simp only[xg,sy,List.map_cons,List.map_nil,jx,ht,h4,Kd g1 g2 g3,oe]
  refine AF (cb.ext _ h5) g4 (by simp[hp]) (by omega) (by rw[<-hp];exact AE) λe Pk he2 he3=>?_
  rw[List.append_assoc]at he3⊢
  have:=hk e (by simp[Pk]) (by simp;omega) he3
  simpa[Nat.add_assoc,Nat.add_comm 1]using this
 | [],_::_,_,_,_,_,_,_,h,_,_,_,_,_=>h.elim
 |(_,_,_)::_,[],_,_,_,_,_,_,h,_,_,_,_,_=>h.elim
theorem Ke:∀{P Q:Pt} {e e' v p:Nat} {k:Nat->Nat->PL} {ρ:List T} {t d vv:T},cb ρ P Q->d_ Q t=some d->ρ.length=p->e<p->ρ.getD e T.bX=t->(∀m x,(iV Q t)[m]?=some x->e'+m<p∧ρ.getD (e'+m) T.bX=x)->v<p->ρ.getD v T.bX=vv->
  (∀(B:List T) (v' p':Nat),(ρ++B).length=p'->v'<p'->(ρ++B).getD v' T.bX=cq Q t vv->PL.den S R K (ρ++B) (k v' p')=out)->PL.den S R K ρ (Fl P e e' v p k)=out
 | [],[],e,e',v,p,k,ρ,t,d,vv,_,hg,hp,he,ht,hc,hv,pB,hk=>by
  have:=hk [] v p (by simpa using hp) hv (by simpa[cq]using pB)
  simpa[Fl]using this
 |(a,w,j)::P,(i,w',j')::Q,e,e',v,p,k,ρ,t,d,vv,⟨z1,z2,h3,h4,h5⟩,hg,hp,he,ht,hc,hv,pB,hk=>by
  subst z1 z2
  obtain⟨xs,r,ys,rfl,g1,g2,g3,g4⟩:=C7 hg
  rw[Da g1 g2 g3]at hc
  have c0:=hc 0 _ rfl
  have hjw:j<w:=by rw[<-g2];exact(List.getElem?_eq_some_iff.1 g3).1
  rw[show Fl ((a,w,j)::P) e e' v p k=Fl P e' (e'+1) v p (λv' p'=>.ins (.pr (.sR w j) [.a e,.a a,.a v']) (k p' (p'+1))) from rfl]
  refine Ke h5 g4 hp c0.1 c0.2 (λm x hm=>?_) hv pB λB v' p' q1 q2 q3=>?_
  ·have:=hc (m+1) x (by simpa using hm)
   rw[show e'+1+m=e'+(m+1) by omega]
   exact this
  ·have x1:=nk ht (by omega) B
   have x2:=nk h4 h3 B
   simp only[sy,List.map_cons,List.map_nil,jx,x1,x2,q3,S0 g1 g2 hjw,oe]
   rw[List.append_assoc]
   have e0:((xs[i]?).bind (·[j]?)).getD T.bX=.l ys:=by simp[g1,g3]
   refine hk _ p' (p'+1) (by simp at q1⊢;omega) (by omega) ?_
   rw[<-List.append_assoc,<-q1,AE]
   simp only[cq,e0]
 | [],_::_,_,_,_,_,_,_,_,_,_,h,_,_,_,_,_,_,_,_=>h.elim
 |(_,_,_)::_,[],_,_,_,_,_,_,_,_,_,h,_,_,_,_,_,_,_,_=>h.elim
def y_(P:Pt)(k w j s v p:Nat)(cont:Nat->Nat->PL):PL:=
 xg P s p λd p1=>.ins (.pr .ia [.a d,.a k])<|xg P s (p1+1) λd2 p2=>.ins (.pr (.put true w j 1) [.a d2,.a k,.a v])<|
  match P with
  | []=>cont p2 (p2+1)
  |_::_=>xg P s (p2+1) λ_ p3=>Fl P s (p2+1) p2 p3 cont
theorem Kf{P Q:Pt}{k w j s v p kv:Nat}{cont:Nat->Nat->PL}{ρ:List T}{t vv:T}{xs:List (List T)}{r:List T}(hP:cb ρ P Q)(hg:d_ Q t=some (.l xs))(hp:ρ.length=p)(hs:s<p)(ht:ρ.getD s T.bX=t)
  (hkp:k<p)(hk:ρ.getD k T.bX=.c (.int .i64 (kv:Int)))(hv:v<p)(pB:ρ.getD v T.bX=vv)(kh:dr vv=true)(hr:xs[kv]?=some r)(hw:r.length=w)(hj:j<w)
  (hc:∀(B:List T) (s' p':Nat),(ρ++B).length=p'->s'<p'->(ρ++B).getD s' T.bX=cq Q t (.l (setRow xs kv j [vv]))->PL.den S R K (ρ++B) (cont s' p')=out):PL.den S R K ρ (y_ P k w j s v p cont)=out:=by
 have j4:=J6 (sc:=true) (k:=.i64) (off:=j) (n:=1) (vs:=[vv]) hr hw (by omega) rfl (by simp[kh])
 unfold y_
 refine AF hP hg hp hs ht λe a1 a2 a3=>?_
 have l1:(ρ++iV Q t).length=p+P.length:=by simp[hp,a1]
 simp only[sy,List.map_cons,List.map_nil,jx,a3,nk hk (by omega) _,J5 hr,oe,List.append_assoc]
 refine AF (cb.ext _ hP) hg (by simp[hp,a1];omega) (by omega) (nk ht (by omega) _) λe2 b1 b2 b3=>?_
 simp only[List.append_assoc]at b3⊢
 simp only[sy,List.map_cons,List.map_nil,jx,b3,nk hk (by omega) _,nk pB (by omega) _,j4,oe,List.append_assoc]
 cases P with
 |nil=>
  cases Q with
  |cons _ _=>exact hP.elim
  |nil=>
   simp only[d_,aJ]at hg
   refine hc _ _ _ (by simp[hp,iV]) (by simp) ?_
   simp only[iV,List.nil_append,List.length_nil,Nat.add_zero,List.cons_append]
   rw[show p+1=p+1 from rfl,qO hp]
   rfl
 |cons q P=>
  simp only
  refine AF (cb.ext _ hP) hg (by simp[hp,a1];omega) (by omega) (nk ht (by omega) _) λe3 c1 c2 c3=>?_
  simp only[List.append_assoc]at c3⊢
  have l3:(ρ++(iV Q t++([T.c (.bool true)]++(iV Q t++([T.l (setRow xs kv j [vv])]++iV Q t))))).length=p+(q::P).length+1+(q::P).length+1+(q::P).length:=by simp[hp,a1];omega
  refine Ke (cb.ext _ hP) hg l3 (by omega) (nk ht (by omega) _) (λm x hm=>?_) (by omega) (vv:=.l (setRow xs kv j [vv])) ?_ λB s' p' d1 d2 d3=>?_
  ·have hml:m<(iV Q t).length:=(List.getElem?_eq_some_iff.1 hm).1
   refine⟨by omega,?_⟩
   have:=qO (ρ:=ρ++(iV Q t++([T.c (.bool true)]++(iV Q t++[T.l (setRow xs kv j [vv])])))) (p:=p+(q::P).length+1+(q::P).length+1) (by simp[hp,a1];omega) m (iV Q t)
   simp only[List.append_assoc]at this
   rw[this]
   simp[List.getD,hm]
  ·have:=qO (ρ:=ρ++(iV Q t++([T.c (.bool true)]++iV Q t))) (p:=p+(q::P).length+1+(q::P).length) (by simp[hp,a1];omega) 0 ([T.l (setRow xs kv j [vv])]++iV Q t)
   simp only[List.append_assoc,Nat.add_zero]at this
   rw[this]
   rfl
  ·rw[List.append_assoc]at d1 d3⊢
   exact hc _ s' p' d1 d2 d3
end
set_option linter.unusedSimpArgs false
abbrev tO:=Pt->Nat->Nat->Nat->Nat->Nat->(Nat->Nat->Nat->Nat->PL)->PL
def NZ(pb:tO)(P:Pt)(cl:Lf)(s p:Nat)(cont:Nat->Nat->Nat->PL):PL:=
 .loop [cl,.k (.int .i64 0),.a s] (xg P (p+2) (p+3) λd p1=>.ins (.pr .len [.a d])<| .ins (.pr (.bin .lss) [.a (p+1),.a p1])<|
  .ite (p1+1) (pb P (p+1) (p+2) p (p1+2) 0 λs c p' q=>.ins (.pr (.bin .add) [.a (p+1),.k (.int .i64 1)])<| .go q [.a c,.a p',.a s]) (cont p (p+2) (p1+2)))
mutual
def v_:Ty->Nat->Nat->tO
 | .i _,w,j,P,k,s,c,p,q,cont=>y_ P k w j s c p λs' p'=>.ins (.pr (.bin .add) [.a c,.k (.int .i64 1)]) (cont s' p' (p'+1) q)
 | .b,w,j,P,k,s,c,p,q,cont=>.ins (.pr (.bin .rem) [.a c,.k (.int .i64 3)])<| .ins (.pr (.bin .eql) [.a p,.k (.int .i64 0)])<|
   y_ P k w j s (p+1) (p+2) λs' p'=>.ins (.pr (.bin .add) [.a c,.k (.int .i64 1)]) (cont s' p' (p'+1) q)
 | .s,w,j,P,k,s,c,p,q,cont=>cont s c p q
 | .sl es,w,j,P,k,s,c,p,q,cont=>xg P s p λd p1=>.ins (.pr .ia [.a d,.a k])<|xg P s (p1+1) λd2 p2=>.ins (.pr (.jj w j) [.a d2,.a k])<|
   NZ (tP es es.length 0) (P++[(k,w,j)]) (.a c) s (p2+1) λc' s' p'=>cont s' c' p' (q+1)
def tP:List Ty->Nat->Nat->tO
 | [],w,j,P,k,s,c,p,q,cont=>cont s c p q
 |f::fs,w,j,P,k,s,c,p,q,cont=>v_ f w j P k s c p q λs' c' p' q'=>tP fs w (j+1) P k s' c' p' q' cont
end
def N0(S:Nat->ay)(w:Nat)(fs:List Ty)(j:Nat)(pb:tO):Prop:=
 ∀(out:Option (List T)) (K:List ay) (P Q:Pt) (k s c p q kv n:Nat) (cont:Nat->Nat->Nat->Nat->PL) (ρ:List T) (t:T) (xs:List (List T)) (dn ts:List T),cb ρ P Q->d_ Q t=some (.l xs)->ρ.length=p->s<p->ρ.getD s T.bX=t->
  k<p->ρ.getD k T.bX=.c (.int .i64 (kv:Int))->c<p->ρ.getD c T.bX=.c (.int .i64 (n:Int))->xs[kv]?=some (dn++ts)->dn.length=j->(dn++ts).length=w->fQ fs ts->sx ts<=1048576->n+fs.length+64*sx ts<=1099511627776->
  (∀(Ks:List ay) (B:List T) (s' c' p':Nat),(ρ++B).length=p'->s'<p'->c'<p'->(ρ++B).getD c' T.bX=.c (.int .i64 ((fb fs n ts).1:Int))->(ρ++B).getD s' T.bX=cq Q t (.l (xs.set kv (dn++(fb fs n ts).2)))->
   PL.den S rounds (Ks++K) (ρ++B) (cont s' c' p' (q+Ks.length))=out)->PL.den S rounds K ρ (pb P k s c p q cont)=out
theorem Kg{S:Nat->ay}{R:Nat}{f:ay}{K:List ay}{ρ:List T}(xs:List Lf):∀Ks:List ay,PL.den S R (Ks++f::K) ρ (.go Ks.length xs)=f (xs.map (Lf.ev ρ))
 | []=>by simp only[List.nil_append,List.length_nil,SL]
 |g::Ks=>by simp only[List.cons_append,List.length_cons,SM];exact Kg xs Ks
theorem S1{S:Nat->ay}{out:Option (List T)}{K:List ay}{es:List Ty}{pb:tO}(hF:N0 S es.length es 0 pb)(hl:es.length<=64)(hm:mZ es=true){P Q:Pt}{cl:Lf}{s p n:Nat}{cont:Nat->Nat->Nat->PL}{ρ:List T}{t:T}{xs:List (List T)}
  (hP:cb ρ P Q)(hg:d_ Q t=some (.l xs))(hp:ρ.length=p)(hs:s<p)(ht:ρ.getD s T.bX=t)(hc:Lf.ev ρ cl=.c (.int .i64 (n:Int)))(hw:∀r∈xs,fQ es r)(hb:kj xs<=1048576)(hn:n+64*kj xs<=1099511627776)
  (hk:∀f:ay,PL.den S rounds (f::K) (ρ++([T.c (.int .i64 ((eP (fb es) n xs).1:Int)),T.c (.int .i64 (xs.length:Int)),cq Q t (.l (eP (fb es) n xs).2)]++(iV Q (cq Q t (.l (eP (fb es) n xs).2))++[T.c (.int .i64 (xs.length:Int)),T.c (.bool false)])))
   (cont p (p+2) (p+3+P.length+2))=out):PL.den S rounds K ρ (NZ pb P cl s p cont)=out:=by
 have hlen:=JZ xs
 have uw:∀i,kj (xs.take i)<=kj xs:=by
  intro i
  have:=Su (xs.take i) (xs.drop i)
  rw[List.take_append_drop]at this
  omega
 have Kh:=λi=>J9 (g:=fb es) (xs:=xs.take i) (λm r hr=>by
  have:=y8 es m r hm (hw r (List.mem_of_mem_take hr))
  omega) n
 unfold NZ
 rw[SK]
 simp only[List.map_cons,List.map_nil,hc,tN,jx,ht]
 have Ki:∀i,(eP (fb es) n (xs.take i)).2.length=(xs.take i).length:=λi=>NY _ _
 refine SR (n:=xs.length) (Inv:=λi x=>x=[T.c (.int .i64 ((eP (fb es) n (xs.take i)).1:Int)),T.c (.int .i64 (i:Int)),cq Q t (.l ((eP (fb es) n (xs.take i)).2++xs.drop i))]) (Q:=λo=>o=out) ?_ ?_ ?_ (by unfold rounds;omega)
 ·rintro i x hi rfl self
  left
  refine⟨_,rfl,?_⟩
  obtain⟨r,hr⟩:=SO hi
  have hwr:=hw r (SN hr)
  have hbr:=J0 hr
  have lC:=uw (i+1)
  have mU:=jO_ hr
  have hm1:=Kh i
  have yz:=SU (g:=fb es) hr n
  have G8:=Ki i
  have hil:(xs.take i).length=i:=by simp;omega
  have bH:(i:Int)<xs.length:=by omega
  have e3:IntKind.i64.wrap ((i:Int)+1)=((i+1:Nat):Int):=by rw[tM (by omega) (by omega)];simp
  generalize hN:(eP (fb es) n (xs.take i)).1=N at*
  generalize hA:(eP (fb es) n (xs.take i)).2=A at*
  have hdr:xs.drop i=r::xs.drop (i+1):=by
   rw[List.drop_eq_getElem_cons hi]
   rw[List.getElem?_eq_getElem hi]at hr
   cases hr
   rfl
  have N1:=J' (v:=A++xs.drop i) hg
  have JD:(A++xs.drop i)[i]?=some r:=by
   rw[List.getElem?_append_right (by omega),hdr,G8,hil,Nat.sub_self]
   rfl
  have hll:(A++xs.drop i).length=xs.length:=by simp;omega
  refine AF (cb.ext _ hP) N1 (s:=p+2) (p:=p+3) (by simp[hp]) (by omega) (by rw[qO hp];rfl) λd a1 a2 a3=>?_
  have qp:(ρ++[T.c (.int .i64 (N:Int)),T.c (.int .i64 (i:Int)),cq Q t (.l (A++xs.drop i))]++iV Q (cq Q t (.l (A++xs.drop i)))).length=p+3+P.length:=by simp[hp,a1];omega
  have x1:∀B,(ρ++[T.c (.int .i64 (N:Int)),T.c (.int .i64 (i:Int)),cq Q t (.l (A++xs.drop i))]++iV Q (cq Q t (.l (A++xs.drop i)))++B).getD (p+1) T.bX=.c (.int .i64 (i:Int)):=λB=>by
   rw[List.append_assoc,List.append_assoc,qO hp];rfl
  have x0:∀B,(ρ++[T.c (.int .i64 (N:Int)),T.c (.int .i64 (i:Int)),cq Q t (.l (A++xs.drop i))]++iV Q (cq Q t (.l (A++xs.drop i)))++B).getD p T.bX=.c (.int .i64 (N:Int)):=λB=>by
   have:=qO hp 0 ([T.c (.int .i64 (N:Int)),T.c (.int .i64 (i:Int)),cq Q t (.l (A++xs.drop i))]++(iV Q (cq Q t (.l (A++xs.drop i)))++B))
   rw[List.append_assoc,List.append_assoc];exact this
  have x2:∀B,(ρ++[T.c (.int .i64 (N:Int)),T.c (.int .i64 (i:Int)),cq Q t (.l (A++xs.drop i))]++iV Q (cq Q t (.l (A++xs.drop i)))++B).getD (p+2) T.bX=cq Q t (.l (A++xs.drop i)):=λB=>by
   rw[List.append_assoc,List.append_assoc,qO hp];rfl
  have hPx:∀B,cb (ρ++[T.c (.int .i64 (N:Int)),T.c (.int .i64 (i:Int)),cq Q t (.l (A++xs.drop i))]++iV Q (cq Q t (.l (A++xs.drop i)))++B) P Q:=λB=>by
   rw[List.append_assoc,List.append_assoc];exact cb.ext _ hP
  generalize lp:ρ++[T.c (.int .i64 (N:Int)),T.c (.int .i64 (i:Int)),cq Q t (.l (A++xs.drop i))]++iV Q (cq Q t (.l (A++xs.drop i)))=N2 at*
  have y1:=x1 [T.c (.int .i64 (xs.length:Int))]
  have y2:(N2++[T.c (.int .i64 (xs.length:Int))]).getD (p+3+P.length) T.bX=.c (.int .i64 (xs.length:Int)):=by rw[<-qp];exact AE
  have y3:(N2++[T.c (.int .i64 (xs.length:Int)),T.c (.bool true)]).getD (p+3+P.length+1) T.bX=.c (.bool true):=by rw[qO qp];rfl
  simp only[sy,C1,List.map_cons,List.map_nil,jx,a3,CX,hll,oe,y1,y2,CY,bH,decide_true,List.append_assoc,List.cons_append,List.nil_append,y3,J7,cond_true]
  refine hF _ (self::K) P Q (p+1) (p+2) p (p+3+P.length+2) 0 i N _ _ _ (A++xs.drop i) [] r (hPx _) N1 (by simp only[List.length_append,qp,List.length_cons,List.length_nil]) (by omega) (x2 _) (by omega) (x1 _) (by omega) (x0 _) JD rfl hwr.length hwr (by omega) (by omega) ?_
  intro Ks B s' c' p' q1 q2 q3 q4 q5
  have z1:(N2++([T.c (.int .i64 (xs.length:Int)),T.c (.bool true)]++B)).getD (p+1) T.bX=.c (.int .i64 (i:Int)):=x1 _
  rw[List.append_assoc]at q1 q4 q5⊢
  have z2:((N2++([T.c (.int .i64 (xs.length:Int)),T.c (.bool true)]++B))++[T.c (.int .i64 ((i+1:Nat):Int))]).getD p' T.bX=.c (.int .i64 ((i+1:Nat):Int)):=by rw[<-q1];exact AE
  have z3:=nk q4 (by rw[q1];exact q3) [T.c (.int .i64 ((i+1:Nat):Int))]
  have z4:=nk q5 (by rw[q1];exact q2) [T.c (.int .i64 ((i+1:Nat):Int))]
  rw[sy]
  simp only[List.map_cons,List.map_nil,jx,tN,z1,CZ,e3,oe,Nat.zero_add]
  rw[Kg]
  simp only[List.map_cons,List.map_nil,jx,z2,z3,z4]
  rw[yz]
  congr 4
  rw[C_ hg]
  congr 2
  rw[hdr,List.set_append_right _ _ (by omega),G8,hil,Nat.sub_self]
  simp
 ·rintro x rfl self
  rw[show xs.take xs.length=xs from List.take_length,show xs.drop xs.length=[] from List.drop_length,List.append_nil]
  have N1:=J' (v:=(eP (fb es) n xs).2) hg
  refine AF (cb.ext _ hP) N1 (s:=p+2) (p:=p+3) (by simp[hp]) (by omega) (by rw[qO hp];rfl) λd a1 a2 a3=>?_
  have qp:(ρ++[T.c (.int .i64 ((eP (fb es) n xs).1:Int)),T.c (.int .i64 (xs.length:Int)),cq Q t (.l (eP (fb es) n xs).2)]++iV Q (cq Q t (.l (eP (fb es) n xs).2))).length=p+3+P.length:=by simp[hp,a1];omega
  have x1:∀B,(ρ++[T.c (.int .i64 ((eP (fb es) n xs).1:Int)),T.c (.int .i64 (xs.length:Int)),cq Q t (.l (eP (fb es) n xs).2)]++iV Q (cq Q t (.l (eP (fb es) n xs).2))++B).getD (p+1) T.bX=.c (.int .i64 (xs.length:Int)):=λB=>by
   rw[List.append_assoc,List.append_assoc,qO hp];rfl
  have x0:∀B,(ρ++([T.c (.int .i64 ((eP (fb es) n xs).1:Int)),T.c (.int .i64 (xs.length:Int)),cq Q t (.l (eP (fb es) n xs).2)]++(iV Q (cq Q t (.l (eP (fb es) n xs).2))++B))).getD p T.bX=.c (.int .i64 ((eP (fb es) n xs).1:Int)):=λB=>qO hp 0 _
  have x2:∀B,(ρ++([T.c (.int .i64 ((eP (fb es) n xs).1:Int)),T.c (.int .i64 (xs.length:Int)),cq Q t (.l (eP (fb es) n xs).2)]++(iV Q (cq Q t (.l (eP (fb es) n xs).2))++B))).getD (p+2) T.bX=cq Q t (.l (eP (fb es) n xs).2):=λB=>by
   rw[qO hp];rfl
  have y1:=x1 [T.c (.int .i64 (xs.length:Int))]
  have y2:(ρ++[T.c (.int .i64 ((eP (fb es) n xs).1:Int)),T.c (.int .i64 (xs.length:Int)),cq Q t (.l (eP (fb es) n xs).2)]++iV Q (cq Q t (.l (eP (fb es) n xs).2))++[T.c (.int .i64 (xs.length:Int))]).getD (p+3+P.length) T.bX=.c (.int .i64 (xs.length:Int)):=by rw[<-qp];exact AE
  have y3:(ρ++[T.c (.int .i64 ((eP (fb es) n xs).1:Int)),T.c (.int .i64 (xs.length:Int)),cq Q t (.l (eP (fb es) n xs).2)]++iV Q (cq Q t (.l (eP (fb es) n xs).2))++[T.c (.int .i64 (xs.length:Int)),T.c (.bool false)]).getD (p+3+P.length+1) T.bX=.c (.bool false):=by rw[qO qp];rfl
  rw[sy]
  simp only[List.map_cons,List.map_nil,jx,a3,CX,NY,oe]
  rw[sy]
  simp only[List.map_cons,List.map_nil,jx,y1,y2,CY,Int.lt_irrefl,decide_false,oe]
  rw[C1,List.append_assoc _ [_] [_]]
  simp only[List.cons_append,List.nil_append]at y3⊢
  rw[y3]
  simp only[J7,cond_false]
  have:=hk self
  simpa using this
 ·rw[List.take_zero,List.drop_zero]
  simp only[eP,List.nil_append,C' hg]
  rfl
theorem S2{S:Nat->ay}{out:Option (List T)}{K:List ay}{es:List Ty}{pb:tO}(hF:N0 S es.length es 0 pb)(hl:es.length<=64)(hm:mZ es=true){P Q:Pt}{cl:Lf}{s p n:Nat}{cont:Nat->Nat->Nat->PL}{ρ:List T}{t:T}{xs:List (List T)}
  (hP:cb ρ P Q)(hg:d_ Q t=some (.l xs))(hp:ρ.length=p)(hs:s<p)(ht:ρ.getD s T.bX=t)(hc:Lf.ev ρ cl=.c (.int .i64 (n:Int)))(hw:∀r∈xs,fQ es r)(hb:kj xs<=1048576)(hn:n+64*kj xs<=1099511627776)
  (hk:∀(f:ay) (B:List T) (c' s' p':Nat),(ρ++B).length=p'->c'<p'->s'<p'->(ρ++B).getD c' T.bX=.c (.int .i64 ((eP (fb es) n xs).1:Int))->(ρ++B).getD s' T.bX=cq Q t (.l (eP (fb es) n xs).2)->
   PL.den S rounds (f::K) (ρ++B) (cont c' s' p')=out):PL.den S rounds K ρ (NZ pb P cl s p cont)=out:=by
 refine S1 hF hl hm hP hg hp hs ht hc hw hb hn λf=>?_
 have hPQ:∀{P Q:Pt} {t d:T},cb ρ P Q->d_ Q t=some d->(iV Q t).length=P.length:=by
  intro P
  induction P with
  |nil=>intro Q t d hP hg;cases Q with
   |nil=>rfl
   |cons _ _=>exact hP.elim
  |cons q P ih=>
   intro Q t d hP hg
   obtain⟨a,w,j⟩:=q
   cases Q with
   |nil=>exact hP.elim
   |cons q Q=>
    obtain⟨i,w',j'⟩:=q
    obtain⟨_,_,_,_,h5⟩:=hP
    obtain⟨xs,r,ys,rfl,g1,g2,g3,g4⟩:=C7 hg
    rw[Da g1 g2 g3,List.length_cons,List.length_cons,ih h5 g4]
 have pK:=hPQ hP (J' (v:=(eP (fb es) n xs).2) hg)
 refine hk f _ _ _ _ (by simp[hp,pK];omega) (by omega) (by omega) ?_ ?_
 ·exact qO hp 0 _
 ·rw[qO hp];rfl
set_option linter.unusedSimpArgs false
def N3(S:Nat->ay)(f:Ty):Prop:=
 ∀(w j:Nat) (out:Option (List T)) (K:List ay) (P Q:Pt) (k s c p q kv n:Nat) (cont:Nat->Nat->Nat->Nat->PL) (ρ:List T) (t:T) (xs:List (List T)) (dn ts:List T) (u:T),cb ρ P Q->d_ Q t=some (.l xs)->ρ.length=p->s<p->ρ.getD s T.bX=t->
  k<p->ρ.getD k T.bX=.c (.int .i64 (kv:Int))->c<p->ρ.getD c T.bX=.c (.int .i64 (n:Int))->xs[kv]?=some (dn++u::ts)->dn.length=j->(dn++u::ts).length=w->WT f u->bulk u<=1048576->n+1+64*bulk u<=1099511627776->
  (∀(Ks:List ay) (B:List T) (s' c' p':Nat),(ρ++B).length=p'->s'<p'->c'<p'->(ρ++B).getD c' T.bX=.c (.int .i64 ((nM f n u).1:Int))->(ρ++B).getD s' T.bX=cq Q t (.l (xs.set kv (dn++(nM f n u).2::ts)))->
   PL.den S rounds (Ks++K) (ρ++B) (cont s' c' p' (q+Ks.length))=out)->PL.den S rounds K ρ (v_ f w j P k s c p q cont)=out
theorem S3{S:Nat->ay}:N3 S (.i .i64):=by
 intro w j out K P Q k s c p q kv n cont ρ t xs dn ts u hP hg hp hs ht hk tD hc hn hr hj hw hu hb za gB
 rw[C2]at gB
 have e3:IntKind.i64.wrap ((n:Int)+1)=((n+1:Nat):Int):=by rw[tM (by omega) (by omega)];simp
 simp only[v_]
 refine Kf hP hg hp hs ht hk tD hc hn rfl hr hw (by simp at hw;omega) λB s' p' q1 q2 q3=>?_
 have x:=nk hn (by omega) B
 rw[sy]
 simp only[List.map_cons,List.map_nil,jx,tN,x,CZ,e3,oe,List.append_assoc]
 rw[y9 hr hj]at q3
 refine gB [] _ s' p' (p'+1) (by simp at q1⊢;omega) (by omega) (by omega) ?_ ?_
 ·rw[<-List.append_assoc,<-q1];exact AE
 ·rw[<-List.append_assoc];exact nk q3 (by rw[q1];exact q2) _
theorem S4{S:Nat->ay}:N3 S .b:=by
 intro w j out K P Q k s c p q kv n cont ρ t xs dn ts u hP hg hp hs ht hk tD hc hn hr hj hw hu hb za gB
 rw[C3]at gB
 have e3:IntKind.i64.wrap ((n:Int)+1)=((n+1:Nat):Int):=by rw[tM (by omega) (by omega)];simp
 have S5:(((n%3:Nat):Int)==(0:Int))=(n%3==0):=SY (n%3) 0
 have y1:(ρ++[T.c (.int .i64 ((n%3:Nat):Int))]).getD p T.bX=.c (.int .i64 ((n%3:Nat):Int)):=by rw[<-hp];exact AE
 simp only[v_]
 rw[sy]
 simp only[List.map_cons,List.map_nil,jx,tN,hn,SX,oe]
 rw[sy]
 simp only[List.map_cons,List.map_nil,jx,tN,y1,J4,S5,oe,List.append_assoc,List.cons_append,List.nil_append]
 have y2:(ρ++[T.c (.int .i64 ((n%3:Nat):Int)),T.c (.bool (n%3==0))]).getD (p+1) T.bX=T.c (.bool (n%3==0)):=by rw[qO hp];rfl
 refine Kf (cb.ext _ hP) hg (by simp[hp]) (by omega) (nk ht (by omega) _) (by omega) (nk tD (by omega) _) (by omega) y2 rfl hr hw (by simp at hw;omega) λB s' p' q1 q2 q3=>?_
 simp only[List.append_assoc]at q1 q3⊢
 have x:=nk hn (by omega) ([T.c (.int .i64 ((n%3:Nat):Int)),T.c (.bool (n%3==0))]++B)
 rw[sy]
 simp only[List.map_cons,List.map_nil,jx,tN,x,CZ,e3,oe]
 rw[y9 hr hj]at q3
 rw[List.append_assoc]
 refine gB [] _ s' p' (p'+1) (by simp at q1⊢;omega) (by omega) (by omega) ?_ ?_
 ·rw[<-List.append_assoc,<-q1];exact AE
 ·rw[<-List.append_assoc];exact nk q3 (by rw[q1];exact q2) _
theorem S6{S:Nat->ay}{es:List Ty}(hF:N0 S es.length es 0 (tP es es.length 0))(hl:es.length<=64)(hm:mZ es=true):N3 S (.sl es):=by
 intro w j out K P Q k s c p q kv n cont ρ t xs dn ts u hP hg hp hs ht hk tD hc hn hr hj hw hu hb za gB
 unfold WT at hu
 obtain⟨ys,rfl,_,hy⟩:=hu
 rw[C4]at gB
 rw[v8]at hb za
 have Ai:(dn++T.l ys::ts)[j]?=some (.l ys):=by subst hj;simp
 have Hf:d_ (Q++[(kv,w,j)]) t=some (.l ys):=by rw[Kb,hg];exact C8 hr hw Ai rfl
 simp only[v_]
 refine AF hP hg hp hs ht λe a1 a2 a3=>?_
 rw[sy]
 simp only[List.map_cons,List.map_nil,jx,a3,nk tD (by omega) _,J5 hr,oe,List.append_assoc]
 refine AF (cb.ext _ hP) hg (by simp[hp,a1];omega) (by omega) (nk ht (by omega) _) λe2 b1 b2 b3=>?_
 simp only[List.append_assoc]at b3⊢
 rw[sy]
 simp only[List.map_cons,List.map_nil,jx,b3,nk tD (by omega) _,Kd hr hw Ai,oe,List.append_assoc]
 refine S2 hF hl hm (cb.snoc (by simp;omega) (nk tD (by omega) _) (cb.ext _ hP)) Hf (by simp[hp,a1];omega) (by omega) (nk ht (by omega) _) (n:=n) (by rw[jx];exact nk hn (by omega) _) hy hb (by omega) λf B c' s' p' q1 q2 q3 q4 q5=>?_
 rw[List.append_assoc]at q1 q4 q5⊢
 refine gB [f] _ s' c' p' q1 q3 q2 q4 ?_
 rw[q5,Kc hg]
 congr 1
 have e0:((xs[kv]?).bind (·[j]?)).getD T.bX=.l ys:=by rw[hr];simp[Ai]
 simp only[cq,e0]
 rw[y9 hr hj]
mutual
theorem S7{S:Nat->ay}:∀(f:Ty),ux f=true->N3 S f
 | .i k,h=>by
  cases k with
  |i64=>exact S3
  |_=>simp[ux]at h
 | .b,h=>S4
 | .s,h=>by simp[ux]at h
 | .sl es,h=>S6 (Kj es 0 (v9 h).2 es.length) (v9 h).1 (v9 h).2
theorem Kj{S:Nat->ay}:∀(fs:List Ty) (j:Nat),mZ fs=true->∀w,N0 S w fs j (tP fs w j)
 | [],j,h,w=>by
  intro out K P Q k s c p q kv n cont ρ t xs dn ts hP hg hp hs ht hk tD hc hn hr hj hw hu hb za gB
  unfold fQ at hu
  subst hu
  simp only[tP]
  have:=gB [] [] s c p (by simpa using hp) hs hc (by simpa[y6]using hn) (by
   rw[y6,Ka hr,C' hg];simpa using ht)
  simpa using this
 |f::fs,j,h,w=>by
  intro out K P Q k s c p q kv n cont ρ t xs dn ts hP hg hp hs ht hk tD hc hn hr hj hw hu hb za gB
  unfold fQ at hu
  obtain⟨u,nj,rfl,h1,h2⟩:=hu
  have hm:=C5 h
  have hle:=C6 f n u hm.1 h1
  simp only[J3,List.length_cons]at hb za
  simp only[tP]
  refine S7 f hm.1 w j out K P Q k s c p q kv n _ ρ t xs dn nj u hP hg hp hs ht hk tD hc hn hr hj hw h1 (by omega) (by omega) λKs B s' c' p' q1 q2 q3 q4 q5=>?_
  have yR:kv<xs.length:=(List.getElem?_eq_some_iff.1 hr).1
  refine Kj fs (j+1) hm.2 w out (Ks++K) P Q k s' c' p' (q+Ks.length) kv (nM f n u).1 cont (ρ++B) _ (xs.set kv (dn++(nM f n u).2::nj)) (dn++[(nM f n u).2]) nj (cb.ext _ hP) (J' hg) q1 q2 q5 (by simp at q1;omega) (nk tD (by omega) _) q3 q4
   (by simp[yR]) (by simp[hj]) (by simp at hw⊢;omega) h2 (by omega) (by omega) λS8 B2 s2 c2 p2 r1 r2 r3 r4 r5=>?_
  rw[List.append_assoc]at r1 r4 r5⊢
  have:=gB (S8++Ks) (B++B2) s2 c2 p2 r1 r2 r3 (by rw[r4,y7]) (by
   rw[r5,C_ hg,List.set_set,y7,List.append_assoc]
   rfl)
  rw[List.append_assoc,List.length_append]at this
  rw[show q+Ks.length+S8.length=q+(S8.length+Ks.length) by omega]
  exact this
end
set_option linter.defProp false in
set_option linter.unusedSimpArgs false
theorem S9{sc:Bool}{w:Nat}{xs ys:List (List T)}(h:xs.length+ys.length<qD)(hs:(!sc||ys.all (·.all dr))=true)(h1:okW w xs=true)(h2:okW w ys=true):Prim.ev (.app sc w) [.l xs,.l ys]=some (.l (xs++ys)):=by
 simp only[Prim.ev,h,hs,h1,h2,if_true]
theorem n4{w:Nat}{ms:List Bool}{ts:List T}(hw:0<w)(hm:qX ms ts=true)(hl:ts.length=w):Prim.ev (.lit w ms) ts=some (.l [ts]):=by
 have h1:ts.length/w=1:=by rw[hl];exact Nat.div_self hw
 have h2:ts.take w=ts:=by rw[<-hl];exact List.take_length
 simp only[Prim.ev,hw,hm,h1,if_true,nW,h2]
set_option linter.unusedSimpArgs false
def tQ:List (Nat×lV)->Nat->Option lV
 | [],_=>none
 |e::l,g=>bif Nat.beq e.1 g then some e.2 else tQ l g
theorem Kk:∀{l:List (Nat×lV)} {g:Nat} {sg:lV},tQ l g=some sg->(g,sg)∈l
 | [],_,_,h=>by cases h
 |e::l,g,sg,h=>by
  unfold tQ at h
  cases hb:Nat.beq e.1 g with
  |true=>
   rw[hb]at h
   simp only[cond_true,aJ]at h
   have:=cK hb
   subst this;subst h
   exact .head _
  |false=>
   rw[hb]at h
   exact .tail _ (Kk h)
def Cx.on(cx:Cx)(l:List (Nat×lV)):Cx:={cx with sg:=tQ l}
def Db(P:Program)(sg:lV)(g:Nat)(F:ay):Prop:=lG P g∧yE P sg g F
structure Dc (P:Program) (cx:Cx):Prop where
 cN:cW P cx
 cn:∀g fn,cx.fn g=some fn->P.funcs[g]?=some fn∧lG P g
 mx:P.follows .mixedOrders=true
def Kl:List ((Nat×Nat×Nat)×Js)->Nat->Nat->Nat->Option Js
 | [],_,_,_=>none
 |e::l,f,k,j=>bif Nat.beq e.1.1 f&&(Nat.beq e.1.2.1 k&&Nat.beq e.1.2.2 j)then some e.2 else Kl l f k j
def Km:List (Nat×Nat×Nat)->Nat->Nat->Nat->Bool
 | [],_,_,_=>false
 |e::l,f,k,j=>(Nat.beq e.1 f&&(Nat.beq e.2.1 k&&Nat.beq e.2.2 j))||Km l f k j
def Ko:List Nat->Nat->Bool
 | [],_=>false
 |e::l,f=>Nat.beq e f||Ko l f
theorem Db.mk{P:Program}{cx:Cx}(Z:Dc P cx){R n g:Nat}{fn:Func}{sg:lV}{pl:PL}{l:List (Nat×lV)}{S:Nat->ay}(n9:lG P g)(hf:P.funcs[g]?=some fn)
  (hl:∀x∈l,Db P x.2 x.1 (S x.1))(h:xU (cx.on l) n g fn sg=some pl):Db P sg g λts=>pl.den S R [] ts:=
 ⟨n9,JS (cx:=cx.on l) ⟨⟨Z.cN.ty⟩,λg' sg' h'=>hl _ (Kk h'),Z.cn⟩ Z.mx hf h⟩
theorem lG.mk{P:Program}{g:Nat}{fn:Func}(h:P.funcs[g]?=some fn)(h1:(fn.name== "runtime.NumGoroutine")=false)(h2:fn.body.isNone=false):lG P g:=⟨fn,h,h1,h2⟩
structure dG (P:Program) where
 g:Nat
 sg:lV
 F:ay
 ok:Db P sg g F
def N4{P:Program}(l:List (dG P)):List (Nat×lV):=l.map λk=>(k.g,k.sg)
def kS{P:Program}(l:List (dG P)):List (Nat×ay):=l.map λk=>(k.g,k.F)
theorem Kp{P:Program}:∀{ks:List (dG P)} {g:Nat} {sg:lV},tQ (N4 ks) g=some sg->Db P sg g (pick (kS ks) g)
 | [],g,sg,h=>by cases h
 |k::ks,g,sg,h=>by
  simp only[N4,List.map_cons,tQ]at h
  simp only[kS,List.map_cons,pick]
  cases hb:Nat.beq k.g g with
  |true=>
   rw[hb,cond_true]at h
   cases h
   rw[cond_true,<-cK hb]
   exact k.ok
  |false=>
   rw[hb,cond_false]at h
   rw[cond_false]
   exact Kp h
def dG.cg{P:Program}{cx:Cx}(Z:Dc P cx)(g:Nat){fn:Func}(sg:lV)(pl:PL)(F:ay)(ks:List (dG P))(hf:P.funcs[g]?=some fn)(h:xU (cx.on (N4 ks)) 8 g fn sg=some pl)
  (h1:((fn.name== "runtime.NumGoroutine")||fn.body.isNone)=false)(hF:F=Fs pl (kS ks)):dG P:=
 ⟨g,sg,F,⟨fn,hf,(Bool.or_eq_false_iff.1 h1).1,(Bool.or_eq_false_iff.1 h1).2⟩,by
  rw[hF]
  exact JS (cx:=cx.on (N4 ks)) ⟨⟨Z.cN.ty⟩,λg' sg' h'=>Kp h',Z.cn⟩ Z.mx hf h⟩
def S_(P:Program)(l:List (Nat×TI)):Bool:=l.all λx=>O8 P x.1 x.2
def wb:List (Nat×TI)->Nat->Option TI
 | [],_=>none
 |e::l,g=>bif Nat.beq e.1 g then some e.2 else wb l g
theorem Kq:∀{l:List (Nat×TI)} {g:Nat} {sg:TI},wb l g=some sg->(g,sg)∈l
 | [],_,_,h=>by cases h
 |e::l,g,sg,h=>by
  unfold wb at h
  cases hb:Nat.beq e.1 g with
  |true=>
   rw[hb]at h
   simp only[cond_true,aJ]at h
   have:=cK hb
   subst this;subst h
   exact .head _
  |false=>
   rw[hb]at h
   exact .tail _ (Kq h)
theorem S'{P:Program}{cx:Cx}{l:List (Nat×TI)}(h:S_ P l=true)(he:cx.ty=wb l):cW P cx:=by
 refine⟨λt ti ht=>?_⟩
 rw[he]at ht
 exact O_ (List.all_eq_true.1 h _ (Kq ht))
def zb:List (Nat×Func)->Nat->Option Func
 | [],_=>none
 |e::l,g=>bif Nat.beq e.1 g then some e.2 else zb l g
theorem Ta{P:Program}{cx:Cx}{l:List (Nat×Func)}(h:∀x∈l,P.funcs[x.1]?=some x.2∧lG P x.1)(he:cx.fn=zb l):∀g fn,cx.fn g=some fn->P.funcs[g]?=some fn∧lG P g:=by
 intro g fn hg
 rw[he]at hg
 clear he
 induction l with
 |nil=>cases hg
 |cons e l ih=>
  unfold zb at hg
  cases hb:Nat.beq e.1 g with
  |true=>
   rw[hb]at hg
   simp only[cond_true,aJ]at hg
   have:=cK hb
   subst this;subst hg
   exact h _ (.head _)
  |false=>
   rw[hb]at hg
   exact ih (λx hx=>h x (.tail _ hx)) hg
end Go.Proofs.YtbhplkilhknciaaC

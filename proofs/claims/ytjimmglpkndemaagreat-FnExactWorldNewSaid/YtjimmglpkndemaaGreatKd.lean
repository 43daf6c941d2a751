/- The walk by reflection: a part of its laws, for any function. Conditions: none. -/
import Derived.Test.YtjimmglpkndemaaGreatKc
import Derived.LoopN
import Derived.Test.YtjimmglpkndemaaGreatKa
namespace Go.Proofs.YtjimmglpkndemaaGreatC
set_option linter.unusedVariables false
theorem IW:∀{p q:mq},ux p q=true->p=q
 | [],[],_=>rfl
 |(x,w,j)::p,(x',w',j')::q,h=>by
  simp only[ux,bA]at h
  obtain⟨⟨⟨h1,h2⟩,h3⟩,h4⟩:=h
  rw[Lf.beq_eq h1,du h2,du h3,IW h4]
 | [],_::_,h=>by simp[ux]at h
 |_::_,[],h=>by simp[ux]at h
theorem Ce.beq_eq{c e:Ce}(h:c.beq e=true):c=e:=by
 cases c<;>cases e<;>simp only[Ce.beq,bA]at h<;>try cases h
 ·rw[Lf.beq_eq h]
 ·rename_i h1 h2;rw[du h1,IW h2]
 ·rfl
 ·rfl
theorem IX:∀{cs es:List Ce},uy cs es=true->cs=es
 | [],[],_=>rfl
 |c::cs,e::es,h=>by simp only[uy,bA]at h;rw[Ce.beq_eq h.1,IX h.2]
 | [],_::_,h=>by simp[uy]at h
 |_::_,[],h=>by simp[uy]at h
theorem Rd:∀{cs es:List Nat},wH cs es=true->cs=es
 | [],[],_=>rfl
 |c::cs,e::es,h=>by simp only[wH,bA]at h;rw[du h.1,Rd h.2]
 | [],_::_,h=>by simp[wH]at h
 |_::_,[],h=>by simp[wH]at h
theorem Re:∀{cs es:List (Bool×List Ce)},wI cs es=true->cs=es
 | [],[],_=>rfl
 |(a,c)::cs,(b,e)::es,h=>by
  simp only[wI,bA,beq_iff_eq]at h
  rw[h.1.1,IX h.1.2,Re h.2]
 | [],_::_,h=>by simp[wI]at h
 |_::_,[],h=>by simp[wI]at h
theorem SV.beq_eq{v u:SV}(h:v.beq u=true):v=.un∨v=u:=by
 cases v with
 |un=>exact .inl rfl
 |v a cs=>
  cases u with
  |v b es=>simp only[SV.beq,bA,beq_iff_eq]at h;rw[h.1,IX h.2];exact .inr rfl
  |_=>simp[SV.beq]at h
 |pt b o=>
  cases u with
  |pt b o=>simp only[SV.beq,bA]at h;rw[du h.1,du h.2];exact .inr rfl
  |_=>simp[SV.beq]at h
 |ep i q x w o=>
  cases u with
  |ep i q x w o=>
   simp only[SV.beq,bA]at h
   obtain⟨⟨⟨⟨h1,h2⟩,h3⟩,h4⟩,h5⟩:=h
   rw[du h1,IW h2,Lf.beq_eq h3,du h4,du h5];exact .inr rfl
  |_=>simp[SV.beq]at h
 |fp s x w o=>
  cases u with
  |fp s x w o=>
   simp only[SV.beq,bA]at h
   obtain⟨⟨⟨h1,h2⟩,h3⟩,h4⟩:=h
   rw[Lf.beq_eq h1,Lf.beq_eq h2,du h3,du h4];exact .inr rfl
  |_=>simp[SV.beq]at h
 |tp vs=>
  cases u with
  |tp us=>simp only[SV.beq]at h;rw[Re h];exact .inr rfl
  |_=>simp[SV.beq]at h
 |cl f bs=>
  cases u with
  |cl f bs=>simp only[SV.beq,bA]at h;rw[du h.1,Rd h.2];exact .inr rfl
  |_=>simp[SV.beq]at h
 |ob d x=>
  cases u with
  |ob d x=>simp only[SV.beq,bA,beq_iff_eq]at h;rw[h.1,Lf.beq_eq h.2];exact .inr rfl
  |_=>simp[SV.beq]at h
 |fz p x=>
  cases u with
  |fz q y=>
   simp only[SV.beq,bA]at h
   have e2:=Lf.beq_eq h.2
   subst e2
   have h1:=h.1
   cases p with
   |z=>
    cases q with
    |z=>exact .inr rfl
    |w=>simp[Pv.beq]at h1
   |w t x0 l=>
    cases q with
    |z=>simp[Pv.beq]at h1
    |w t' x0' l'=>
     simp only[Pv.beq,bA]at h1
     rw[du h1.1.1,Lf.beq_eq h1.1.2,Lf.beq_eq h1.2];exact .inr rfl
  |_=>simp[SV.beq]at h
 |tk x m=>
  cases u with
  |tk y n=>simp only[SV.beq,bA]at h;rw[Lf.beq_eq h.1,Lf.beq_eq h.2];exact .inr rfl
  |_=>simp[SV.beq]at h
 |fl x=>
  cases u with
  |fl x=>simp only[SV.beq]at h;rw[Lf.beq_eq h];exact .inr rfl
  |_=>simp[SV.beq]at h
 |fr x=>
  cases u with
  |fr x=>simp only[SV.beq]at h;rw[Lf.beq_eq h];exact .inr rfl
  |_=>simp[SV.beq]at h
def xf(n:Nat)(ρ m7:List T):Prop:=∀m,m<n->ρ[m]?=m7[m]?
theorem vQ{a b:Nat}(h:Nat.blt a b=true):a<b:=Nat.lt_of_succ_le (by simpa[Nat.blt]using h)
section
variable {G:Gh} {w:World} {ρ m7:List T} {n i:Nat}
theorem Lf.f_(ha:xf n ρ m7){x:Lf}(h:x.iO n=true):x.fq ρ=x.fq m7:=by
 cases x with
 |k v=>rfl
 |a m=>exact ha m (vQ h)
 |e=>rfl
theorem DG(ha:xf n ρ m7){x:Lf}(h:x.iO n=true):ll ρ x=ll m7 x:=by unfold ll;rw[Lf.f_ ha h]
theorem Rf(ha:xf n ρ m7):∀{q:mq},wJ n q=true->fW ρ q=fW m7 q
 | [],_=>rfl
 |(x,w,j)::q,h=>by
  simp only[wJ,bA]at h
  simp only[fW,DG ha h.1,Rf ha h.2]
theorem Rg(ha:xf n ρ m7){id:Nat}{q:mq}(h:wJ n q=true):ki ρ id q=ki m7 id q:=by
 cases q with
 |nil=>rfl
 |cons x q=>simp only[ki];rw[Rf ha h]
theorem fH.re(ha:xf n ρ m7){c:Ce}{v:Value}(hb:c.iO n i=true)(h:fH G w ρ c v):fH G w m7 c v:=by
 cases c with
 |p x=>obtain⟨t,h1,h2⟩:=h;exact⟨t,by rw[<-Lf.f_ ha hb];exact h1,h2⟩
 |o id q=>
  simp only[Ce.iO,bA]at hb
  obtain⟨p,h1,h2⟩:=h
  exact⟨p,by rw[<-Rg ha hb.2];exact h1,h2⟩
 |n=>exact h
 |d=>exact h
theorem aS.re(ha:xf n ρ m7):∀{cs:List Ce} {vs:List Value},yV n i cs=true->aS G w ρ cs vs->aS G w m7 cs vs
 | [],[],_,_=>trivial
 |c::cs,v::vs,hb,h=>by
  simp only[yV,bA]at hb
  exact⟨h.1.re ha hb.1,aS.re ha hb.2 h.2⟩
 | [],_::_,_,h=>h.elim
 |_::_,[],_,h=>h.elim
theorem eZ.re(ha:xf n ρ m7){ag:Bool}{cs:List Ce}{c:Value}(hb:yV n i cs=true)(h:eZ G w ρ ag cs c):eZ G w m7 ag cs c:=by
 cases ag with
 |true=>obtain⟨vs,h1,h2⟩:=h;exact⟨vs,h1,h2.re ha hb⟩
 |false=>
  obtain⟨x,rfl,h2,h3⟩:=h
  simp only[yV,Bool.and_true]at hb
  exact⟨x,rfl,h2.re ha hb,h3⟩
theorem fX.re(ha:xf n ρ m7):∀{cs:List (Bool×List Ce)} {vs:List Value},wK n i cs=true->fX G w ρ cs vs->fX G w m7 cs vs
 | [],[],_,_=>trivial
 |c::cs,v::vs,hb,h=>by
  simp only[wK,bA]at hb
  exact⟨h.1.re ha hb.1,fX.re ha hb.2 h.2⟩
 | [],_::_,_,h=>h.elim
 |_::_,[],_,h=>h.elim
theorem cz.re(ha:xf n ρ m7){v:SV}{c:Value}(hb:v.iO n i=true)(h:cz G w ρ v c):cz G w m7 v c:=by
 cases v with
 |un=>trivial
 |v ag cs=>exact eZ.re ha hb h
 |pt b off=>exact h
 |ep id q ix wd off=>
  simp only[SV.iO,bA]at hb
  obtain⟨p,b,m,cap,j,h1,h2,h3,h4⟩:=h
  exact⟨p,b,m,cap,j,by rw[<-Rg ha hb.1.2];exact h1,h2,by rw[<-DG ha hb.2];exact h3,h4⟩
 |fp s ix wd off=>
  simp only[SV.iO,bA]at hb
  obtain⟨xs,j,r,b,base,h1,h2,h3⟩:=h
  exact⟨xs,j,r,b,base,by rw[<-Lf.f_ ha hb.1];exact h1,by rw[<-DG ha hb.2];exact h2,h3⟩
 |tp vs=>obtain⟨us,h1,h2⟩:=h;exact⟨us,h1,h2.re ha hb⟩
 |cl f bs=>exact h
 |ob dp x=>exact h
 |fz pv x=>exact h
 |tk x m=>exact h
 |fl x=>exact h
 |fr x=>exact h
theorem fC.re(ha:xf n ρ m7){b:Nat}{v:SV}(hb:v.iO n i=true)(h:fC G w ρ b v):fC G w m7 b v:=by
 cases v with
 |v ag cs=>obtain⟨h1,bE,elem,h2,h3⟩:=h;exact⟨h1,bE,elem,h2,h3.re ha hb⟩
 |_=>exact h
theorem cA.re(ha:xf n ρ m7){b:Nat}{v:SV}(hb:v.iO n i=true)(h:cA G w ρ b v):cA G w m7 b v:=by
 cases v with
 |ob dp x=>obtain⟨t,h1,h2⟩:=h;exact⟨t,by rw[<-Lf.f_ ha hb];exact h1,h2⟩
 |fz pv x=>
  simp only[SV.iO,bA]at hb
  obtain⟨t,h1,h2,h3⟩:=h
  refine⟨t,by rw[<-Lf.f_ ha hb.2];exact h1,h2,?_⟩
  have lI:=hb.1
  cases pv with
  |z=>trivial
  |w tk x0 lo=>
   simp only[Pv.iO,bA]at lI
   obtain⟨g0,F,n,zs,g1,g2,g3⟩:=h3
   exact⟨g0,F,n,zs,by rw[<-Lf.f_ ha lI.1.2];exact g1,by rw[<-DG ha lI.2];exact g2,g3⟩
 |tk x m=>
  simp only[SV.iO,bA]at hb
  obtain⟨h0,F,u,h1,h2,h3⟩:=h
  exact⟨h0,F,u,by rw[<-Lf.f_ ha hb.1];exact h1,by rw[<-Lf.f_ ha hb.2];exact h2,h3⟩
 |fl x=>obtain⟨h0,t,h1,h2⟩:=h;exact⟨h0,t,by rw[<-Lf.f_ ha hb];exact h1,h2⟩
 |fr x=>obtain⟨h0,t,h1,h2⟩:=h;exact⟨h0,t,by rw[<-Lf.f_ ha hb];exact h1,h2⟩
 |_=>exact h
theorem Gq:∀{cs:List Ce},yV n i cs=true->∀j∈dt cs,j<i
 | [],_,j,hj=>by simp[dt]at hj
 |c::cs,h,j,hj=>by
  simp only[yV,bA]at h
  cases c with
  |o id q=>
   simp only[Ce.iO,bA]at h
   simp only[dt,List.mem_cons]at hj
   rcases hj with rfl|hj
   ·exact vQ h.1.1
   ·exact Gq h.2 j hj
  |p x=>exact Gq h.2 j hj
  |n=>exact Gq h.2 j hj
  |d=>exact Gq h.2 j hj
theorem Rh:∀{vs:List (Bool×List Ce)},wK n i vs=true->∀j∈qM vs,j<i
 | [],_,j,hj=>by simp[qM]at hj
 |v::vs,h,j,hj=>by
  simp only[wK,bA]at h
  simp only[qM,List.mem_append]at hj
  rcases hj with hj|hj
  ·exact Gq h.1 j hj
  ·exact Rh h.2 j hj
theorem SV.oK{v:SV}(h:v.iO n i=true):∀j∈cT v,j<i:=by
 intro j hj
 cases v with
 |un=>simp[cT]at hj
 |v ag cs=>exact Gq h j hj
 |pt b off=>simp[cT]at hj;subst hj;exact vQ h
 |ep id q ix wd off=>simp[cT]at hj;subst hj;simp only[SV.iO,bA]at h;exact vQ h.1.1
 |fp s ix wd off=>simp[cT]at hj
 |tp vs=>exact Rh h j hj
 |cl f bs=>simp only[SV.iO,List.all_eq_true]at h;exact vQ (h j (by simpa[cT]using hj))
 |ob dp x=>simp[cT]at hj
 |fz pv x=>
  cases pv with
  |z=>simp[cT]at hj
  |w tk x0 lo=>simp[cT]at hj;subst hj;simp only[SV.iO,Pv.iO,bA]at h;exact vQ h.1.1.1
 |tk x m=>simp[cT]at hj
 |fl x=>simp[cT]at hj
 |fr x=>simp[cT]at hj
end
theorem Ri{i0 i1:Nat}{all:mu}:∀{rn:mu},sA i0 i1 all rn=true->∀j x,(j,x)∈rn->i0<=j∧j<i1∧∀id,x=some id->mE all id=some j
 | [],_,j,x,h=>by simp at h
 |(j0,x0)::rn,h,j,x,hm=>by
  simp only[sA,bA]at h
  obtain⟨⟨⟨⟨h1,h2⟩,_⟩,h3⟩,h4⟩:=h
  rcases List.mem_cons.1 hm with hm|hm
  ·cases hm
   refine⟨Nat.le_of_ble_eq_true h1,vQ h2,λid he=>?_⟩
   subst he
   simp only[bA]at h3
   have h3:=h3.2
   split at h3
   ·rename_i k hk;rw[hk,du h3]
   ·cases h3
  ·exact Ri h4 j x hm
theorem Rk{i0 i1:Nat}{all:mu}:∀{rn:mu},sA i0 i1 all rn=true->∀j x,(j,x)∈rn->j%2=0
 | [],_,j,x,h=>by simp at h
 |(j0,x0)::rn,h,j,x,hm=>by
  simp only[sA,bA]at h
  obtain⟨⟨⟨⟨h1,h2⟩,h0⟩,h3⟩,h4⟩:=h
  rcases List.mem_cons.1 hm with hm|hm
  ·cases hm;exact du h0
  ·exact Rk h4 j x hm
theorem Rl{i0 i1:Nat}{all:mu}:∀{rn:mu},sA i0 i1 all rn=true->∀j id,(j,some id)∈rn->id%4≠2
 | [],_,j,x,h=>by simp at h
 |(j0,x0)::rn,h,j,id,hm=>by
  simp only[sA,bA]at h
  obtain⟨⟨⟨⟨h1,h2⟩,h0⟩,h3⟩,h4⟩:=h
  rcases List.mem_cons.1 hm with hm|hm
  ·cases hm
   simp only[bA,Bool.not_eq_true']at h3
   intro e
   have:=h3.1
   rw[e]at this
   cases this
  ·exact Rl h4 j id hm
theorem Rm{s:St}{a0 i0:Nat}{rn:mu}:∀{h:St},CB s a0 i0 rn h=true->∀r v,(r,v)∈h->v=.un∨(v=s.get r∧v.iO a0 i0=true∧(∀id,r=.o id->id<i0∧mE rn id=none)∧∀b,r=.x b->b<i0)
 | [],_,r,v,hm=>by simp at hm
 |(r0,v0)::h,hc,r,v,hm=>by
  simp only[CB,bA]at hc
  rcases List.mem_cons.1 hm with hm|hm
  ·obtain⟨rfl,rfl⟩:=Prod.mk.inj hm
   have nX:=hc.1
   rw[Bool.or_eq_true]at nX
   rcases nX with hu|h4
   ·cases v<;>first|exact .inl rfl|cases hu
   ·simp only[bA]at h4
    obtain⟨⟨h1,h2⟩,h3⟩:=h4
    rcases SV.beq_eq h1 with hu|he
    ·exact .inl hu
    ·refine .inr ⟨he,h2,λid he=>?_,λb he=>?_⟩
     ·subst he
      simp only[OV,bA]at h3
      refine⟨vQ h3.1,?_⟩
      have h4:=h3.2
      split at h4
      ·rename_i hn;exact hn
      ·cases h4
     ·subst he;exact vQ h3
  ·exact Rm hc.2 r v hm
theorem IY{a0:Nat}{xs:List Lf}{n:Nat}{x:Lf}(h:nf a0 xs n x=true){n5 ρ:List T}(hl:n5.length=a0):(n5++xs.map (Lf.ev ρ))[n]?=some (x.ev ρ):=by
 simp only[nf,bA]at h
 have h1:=Nat.le_of_ble_eq_true h.1
 have h2:=h.2
 split at h2
 ·rename_i y hy
  rw[List.getElem?_append_right (by omega),hl,List.getElem?_map,hy,Lf.beq_eq h2]
  rfl
 ·cases h2
theorem Rn{s:St}{a0 i0:Nat}{xs:List Lf}{rn:mu}:∀{h:St},uA s a0 i0 xs rn h=true->∀r v,(r,v)∈h->(∃j dp n,r=.o j∧v=.ob dp (.a n)∧
  ((∃id x,mX rn j=some (some id)∧s.get (.o id)=.ob dp x∧nf a0 xs n x=true)∨(mX rn j=some none∧nf a0 xs n .e=true)∨
   (∃x,mX rn j=none∧j<i0∧mE rn j=none∧s.get (.o j)=.ob dp x∧nf a0 xs n x=true)))∨
  ∃j x n m,r=.o j∧v=.tk x (.a n)∧j<i0∧mE rn j=none∧x.iO a0=true∧s.get (.o j)=.tk x m∧nf a0 xs n m=true
 | [],_,r,v,hm=>by simp at hm
 |(r0,v0)::h,hc,r,v,hm=>by
  have jm:uA s a0 i0 xs rn h=true:=by
   unfold uA at hc
   split at hc
   ·rename_i he;cases he
   ·rename_i j dp n ps he;cases he;simp only[bA]at hc;exact hc.2
   ·rename_i j x n ps he;cases he;rw[bA]at hc;exact hc.2
   ·cases hc
  rcases List.mem_cons.1 hm with hm|hm
  ·cases hm
   unfold uA at hc
   split at hc
   ·rename_i he;cases he
   ·rename_i j dp n ps he
    cases he
    simp only[bA]at hc
    refine .inl ⟨j,dp,n,rfl,rfl,?_⟩
    have h1:=hc.1
    split at h1
    ·rename_i id ie
     simp only[bA]at h1
     have h2:=h1.2
     split at h2
     ·rename_i tN x hx
      simp only[bA,beq_iff_eq]at h2
      exact .inl ⟨id,x,ie,by rw[h2.1];exact hx,h2.2⟩
     ·cases h2
    ·rename_i ie
     simp only[bA]at h1
     exact .inr (.inl ⟨ie,h1.2⟩)
    ·rename_i ie
     simp only[bA]at h1
     obtain⟨⟨h2,h3⟩,h4⟩:=h1
     have NS:mE rn j=none:=by
      split at h3
      ·rename_i hn;exact hn
      ·cases h3
     split at h4
     ·rename_i tN x hx
      simp only[bA,beq_iff_eq]at h4
      exact .inr (.inr ⟨x,ie,vQ h2,NS,by rw[h4.1];exact hx,h4.2⟩)
     ·cases h4
   ·rename_i j x n ps he
    cases he
    rw[bA]at hc
    have h1:=hc.1
    simp only[bA]at h1
    obtain⟨⟨⟨h2,h3⟩,h4⟩,h5⟩:=h1
    have NS:mE rn j=none:=by
     split at h3
     ·rename_i hn;exact hn
     ·cases h3
    split at h5
    ·rename_i y m hx
     simp only[bA]at h5
     exact .inr ⟨j,x,n,m,rfl,rfl,vQ h2,NS,h4,by rw[Lf.beq_eq h5.1];exact hx,h5.2⟩
    ·cases h5
   ·cases hc
  ·exact Rn jm r v hm
theorem Ro{s:St}{a0 i0:Nat}{xs:List Lf}{rn:mu}:∀{h:St},wL s a0 i0 xs rn h=true->∀r v,(r,v)∈h->∃ag hs cs,v=.v ag hs∧s.get r=.v ag cs∧yW s a0 i0 xs rn cs hs=true∧(∀j,r≠.o j)∧∀b,r=.x b->b<i0
 | [],_,r,v,hm=>by simp at hm
 |(r0,v0)::h,hc,r,v,hm=>by
  have jm:wL s a0 i0 xs rn h=true:=by
   unfold wL at hc
   split at hc
   ·rename_i he;cases he
   ·rename_i he;cases he;simp only[bA]at hc;exact hc.2
   ·cases hc
  rcases List.mem_cons.1 hm with hm|hm
  ·cases hm
   unfold wL at hc
   split at hc
   ·rename_i he;cases he
   ·rename_i r' ag hs ps he
    cases he
    simp only[bA]at hc
    obtain⟨⟨h1,h2⟩,_⟩:=hc
    split at h2
    ·rename_i vC cs jW
     simp only[bA,beq_iff_eq]at h2
     refine⟨ag,hs,cs,rfl,by rw[h2.1];exact jW,h2.2,(λj he=>by subst he;cases h1),λb he=>by subst he;exact vQ h1⟩
    ·cases h2
   ·cases hc
  ·exact Ro jm r v hm
def Gh.gk(G:Gh)(i0:Nat)(rn:mu):Gh where
 ω:=λb=>match G.ω b with
  |some .f=>some .f
  |some (.x j)=>if j<i0 then some (.x j)else none
  |some (.o j p)=>match mE rn j with
   |some k=>some (.o k p)
   |none=>if j<i0 then some (.o j p)else none
  |none=>none
 β:=G.β
 H:=λj=>match mX rn j with
  |some (some id)=>G.H id
  |some none=>λ_=>.slice none 0 0
  |none=>G.H j
 hs:=λj p=>by
  rcases hr:mX rn j with _|(_|id)
  ·exact G.hs j p
  ·exact⟨_,_,_,rfl⟩
  ·exact G.hs _ p
section
variable {M:Nat->Prop} {B:eu} {d:Nat} {up:Nat->Nat->Value} {ρ:List T} {G:Gh} {a:Act} {w:World} {s:St}
def Gh.qu(G:Gh)(id tk:Nat):Gh where
 ω:=λb=>match G.ω b with
  |some (.o i p)=>if i=id then(match p with| []=>none|x::p=>some (.o tk (x::p)))else some (.o i p)
  |l=>l
 β:=G.β
 H:=λi=>if i=tk then G.H id else G.H i
 hs:=λi p=>by
  by_cases h:i=tk
  ·simp only[h,if_true];exact G.hs id p
  ·simp only[h,if_false];exact G.hs i p
theorem aeu{id tk:Nat}(ht:tk%4=2){I:Lb->Prop}(hI:∀p,I (.o id p)):da I (λi=>i=tk) G w (G.qu id tk) w:=by
 refine⟨Nat.le_refl _,λb _ hb=>⟨sC hb (λh0=>by simp[Gh.qu,h0]) λl hl hq=>?_,rfl⟩,λb _ hb=>by simp[Gh.qu,hb],λb l hl hn=>⟨?_,rfl⟩,λi hi=>⟨rfl,λp _=>by simp[Gh.qu,hi]⟩⟩
 ·cases l with
  |o i p=>
   simp only[Gh.qu,hl]
   split
   ·cases p with
    |nil=>exact .inl rfl
    |cons x p=>exact .inr ⟨_,rfl,HA ht⟩
   ·exact .inr ⟨_,rfl,hq⟩
  |_=>simp[qt]at hq
 ·cases l with
  |o i p=>
   have:i≠id:=λe=>hn (e▸hI p)
   simp[Gh.qu,hl,this]
  |_=>simp[Gh.qu,hl]
theorem Rel.aev(h:Rel M B d up s ρ G a w){id tk:Nat}{x:Lf}(hx:s.get (.o id)=.ob true x)(ht:tk%4=2)(hM:¬M tk){M':Nat->Prop}(yh:∀i,M i∨i=tk->M' i):
  ∃G',Rel M' B d up ((s.set (.o id) (.fz (.w tk x (.k (.int .i64 0))) x)).set (.o tk) (.tk x x)) ρ G' a w:=by
 have sV:M id:=h.key id (.inr (by rw[hx];simp))
 have dj:id≠tk:=λe=>hM (e▸sV)
 obtain⟨t,jl,bu⟩:=(by simpa only[hx]using h.ob id:cA G w ρ id (.ob true x))
 obtain⟨xs,rfl⟩:∃ys,t=.l ys:=by cases bu<;>exact⟨_,rfl⟩
 have lS:∀i j ys,dr xs i j=some (.l ys)->eg (G.qu id tk) w tk true [(i,j)] (.l ys):=by
  intro i j ys bq
  refine(bu.rows i j ys bq).move rfl (λb q hb=>⟨?_,rfl⟩) λq=>?_
  ·simp only[List.cons_append,List.nil_append]at hb⊢
   simp[Gh.qu,hb]
  ·simp[Gh.qu]
 have jf:∀p,ng [(bf.o tk,SV.tk x x),(bf.o id,SV.fz (.w tk x (.k (.int .i64 0))) x)] (.o id p):=by
  intro p
  show St.look _ (bf.o id)≠none
  simp only[St.look]
  cases(bf.o tk).beq (.o id)<;>simp[(bf.beq_iff (r:=bf.o id)).2 rfl]
 have IZ:(G.qu id tk).H id []=G.H id []:=by simp[Gh.qu,dj]
 refine⟨G.qu id tk,(h.PX (M':=M') (N:=λi=>i=tk) (W:=[(.o tk,.tk x x),(.o id,.fz (.w tk x (.k (.int .i64 0))) x)]) (aeu ht jf) (λi hi=>by subst hi;exact hM) (λi hi=>yh i (.inl hi)) (λr u hl=>?_) λb l hb=>?_).congr λr=>?_⟩
 ·rcases iH hl with⟨e1,e2⟩|hl
  ·subst e1 e2
   refine⟨tk,rfl,⟨ht,xs,xs,jl,jl,rfl,λi r hr _=>⟨hr,λj ys hy=>lS i j ys (by simp[dr,hr,hy])⟩⟩,yh tk (.inr rfl),λi hi=>by simp[cT]at hi⟩
  ·rcases iH hl with⟨e1,e2⟩|hl
   ·subst e1 e2
    refine⟨id,rfl,⟨.l xs,jl,?_,ht,xs,0,xs,jl,by simp[ll,Lf.fq,jH],rfl,λi r hr=>by rw[Nat.zero_add];exact hr,?_,λ_ b off k c hv=>?_⟩,yh id (.inl sV),λi hi=>by simp[cT]at hi;subst hi;exact yh _ (.inr rfl)⟩
    ·rw[IZ]
     cases bu with
     |nil hH=>rw[hH];exact .nil
     | @l _ _ _ b wd cap bE elem cv g1 g2 g3 g4 g5 g6 g7 g8 g9 rQ zh=>
      rw[g1]
      refine .l (cv:=cv) g6 g2.1 (wN (by simp[Gh.qu,g3])) (F0 g4) (λi j t ht=>by rw[uG g4,Nat.zero_add];exact g7 i j t ht) λi j t jj=>?_
      cases t with
      |c v=>obtain⟨hv,hs⟩:=g8 i j v jj;rw[hv];exact .c hs
      |l ys=>
       have e:=rQ i j ys jj rfl
       simp only[List.nil_append]at e
       rw[e]
       have:=(lS i j ys jj).O0 (.inl ht) rfl
       rwa[show(G.qu id tk).H tk=G.H id by simp[Gh.qu]]at this
    ·rw[IZ]
     intro b off k c hv
     cases bu with
     |nil hH=>rw[hH]at hv;cases hv
     | @l _ _ _ b0 wd cap bE elem cv g1 g2 g3 g4 g5 g6 g7 g8 g9 rQ zh=>
      rw[g1]at hv
      cases hv
      refine⟨wd,g6,λi j ys bq=>?_⟩
      rw[uG g4,Nat.zero_add,g7 i j _ bq,rQ i j ys bq rfl]
      simp[Gh.qu]
    ·rw[IZ]at hv
     cases bu with
     |nil hH=>rw[hH]at hv;cases hv
     |l g1=>rw[g1]at hv;cases hv;rfl
   ·cases hl
 ·cases hg:G.ω b with
  |none=>simp[Gh.qu,hg]at hb
  |some l0=>
   have sR:=h.gx b l0 hg
   refine⟨?_,sR.2⟩
   cases l0 with
   |o i p=>
    simp only[Gh.qu,hg]at hb
    split at hb
    ·cases p with
     |nil=>cases hb
     |cons x p=>cases hb;exact yh tk (.inr rfl)
    ·cases hb;exact yh _ (.inl sR.1)
   |_=>simp[Gh.qu,hg]at hb;subst hb;exact yh _ (.inl sR.1)
 ·simp only[St.eY]
theorem Rel.hZ:∀{js:List (Nat×Bool)} {cs:List Ce} {s:St} {ct:Ct} {G:Gh},Rel (λi=>i<ct.i) B d up s ρ G a w->
  (∃G',Rel (λi=>i<(Go.Proofs.YtjimmglpkndemaaGreatC.hZ s ct cs js).2.i) B d up (Go.Proofs.YtjimmglpkndemaaGreatC.hZ s ct cs js).1 ρ G' a w)∧(Go.Proofs.YtjimmglpkndemaaGreatC.hZ s ct cs js).2.a=ct.a∧ct.i<=(Go.Proofs.YtjimmglpkndemaaGreatC.hZ s ct cs js).2.i
 | [],cs,s,ct,G,h=>⟨⟨G,h⟩,rfl,Nat.le_refl _⟩
 |(j,b)::js,cs,s,ct,G,h=>by
  unfold Go.Proofs.YtjimmglpkndemaaGreatC.hZ
  split
  ·rename_i id _
   split
   ·rename_i x hx
    cases he:Nat.beq (id%2) 0 with
    |false=>exact Rel.hZ h
    |true=>
     simp only[cond_true]
     have hle:=OP ct.i
     obtain⟨G',h'⟩:=h.aev hx (OQ ct.i) (by omega) (M':=λi=>i<mr ct.i+1) (λi hi=>by rcases hi with hi|hi<;>omega)
     obtain⟨g1,g2,g3⟩:=Rel.hZ (js:=js) (cs:=cs) (ct:=⟨ct.a,mr ct.i+1⟩) h'
     exact⟨g1,g2,Nat.le_trans (by show ct.i<=mr ct.i+1;omega) g3⟩
   ·exact Rel.hZ h
  ·exact Rel.hZ h
theorem Rel.jv{d':Nat}:∀{js:Js} {s:St} {ct:Ct} {G:Gh},Rel (λi=>i<ct.i) B d up s ρ G a w->
  (∃G',Rel (λi=>i<(Go.Proofs.YtjimmglpkndemaaGreatC.jv d' s ct js).2.i) B d up (Go.Proofs.YtjimmglpkndemaaGreatC.jv d' s ct js).1 ρ G' a w)∧(Go.Proofs.YtjimmglpkndemaaGreatC.jv d' s ct js).2.a=ct.a∧ct.i<=(Go.Proofs.YtjimmglpkndemaaGreatC.jv d' s ct js).2.i
 | [],s,ct,G,h=>⟨⟨G,h⟩,rfl,Nat.le_refl _⟩
 |(n,bx,.rows rj)::l,s,ct,G,h=>by
  simp only[Go.Proofs.YtjimmglpkndemaaGreatC.jv]
  obtain⟨⟨G',h'⟩,g2,g3⟩:=h.hZ (js:=rj) (cs:=ou (s.get (yR d' s n bx)))
  obtain⟨f1,f2,f3⟩:=Rel.jv (d':=d') (js:=l) h'
  exact⟨f1,f2.trans g2,Nat.le_trans g3 f3⟩
 |(n,bx,.drop)::l,s,ct,G,h=>Rel.jv (js:=l) h
 |(n,bx,.fB _ _)::l,s,ct,G,h=>Rel.jv (js:=l) h
theorem Rel.z9:∀{l:List (Nat×Bool)} {s:St} {G:Gh},Rel M B d up s ρ G a w->∃G',Rel M B d up (sy s l) ρ G' a w∧gZ G G'
 | [],s,G,h=>⟨G,h,.refl _⟩
 |(id,all)::l,s,G,h=>by
  simp only[sy]
  split
  ·rename_i dp x hx
   cases all with
   |true=>obtain⟨G',h1,h2⟩:=Rel.z9 (l:=l) (h.lE hx);exact⟨G',h1,(G.nu id true).trans h2⟩
   |false=>obtain⟨G',h1,h2⟩:=Rel.z9 (l:=l) (h.flat hx);exact⟨G',h1,(G.nu id false).trans h2⟩
  ·exact Rel.z9 (l:=l) h
theorem Rel.gV:∀{js:List (Nat×Bool)} {cs:List Ce} {s:St} {G:Gh},Rel M B d up s ρ G a w->∃G',Rel M B d up (Go.Proofs.YtjimmglpkndemaaGreatC.gV s cs js) ρ G' a w
 | [],cs,s,G,h=>⟨G,h⟩
 |(j,all)::js,cs,s,G,h=>by
  simp only[Go.Proofs.YtjimmglpkndemaaGreatC.gV]
  split
  ·split
   ·rename_i dp x hx
    cases all with
    |true=>exact Rel.gV (js:=js) (h.lE hx)
    |false=>exact Rel.gV (js:=js) (h.flat hx)
   ·exact Rel.gV (js:=js) h
  ·exact Rel.gV (js:=js) h
theorem Rel.i_{d':Nat}:∀{js:Js} {s:St} {G:Gh},Rel M B d up s ρ G a w->∃G',Rel M B d up (Go.Proofs.YtjimmglpkndemaaGreatC.i_ d' s js) ρ G' a w
 | [],s,G,h=>⟨G,h⟩
 |(n,bx,.rows js)::l,s,G,h=>by
  simp only[Go.Proofs.YtjimmglpkndemaaGreatC.i_]
  obtain⟨G',h'⟩:=h.gV (js:=js) (cs:=ou (s.get (yR d' s n bx)))
  exact Rel.i_ (js:=l) h'
 |(n,bx,.drop)::l,s,G,h=>Rel.i_ (js:=l) h
 |(n,bx,.fB _ _)::l,s,G,h=>Rel.i_ (js:=l) h
theorem Rp{a0 i0 i1:Nat}{xs:List Lf}{rn:mu}(hi:∀j x,mX rn j=some x->j<i1)(Rq:i0<=i1):∀{cs hs:List Ce},yW s a0 i0 xs rn cs hs=true->∀j∈dt hs,j<i1
 | [],[],_,j,hj=>by simp[dt]at hj
 |c::cs,h::hs,hc,j,hj=>by
  simp only[yW,bA]at hc
  rw[wO]at hj
  rcases List.mem_append.1 hj with hj|hj
  ·have h1:=hc.1
   unfold Hs at h1
   rw[Bool.or_eq_true]at h1
   rcases h1 with h1|h1
   ·simp only[bA]at h1
    exact Nat.lt_of_lt_of_le (Gq (n:=a0) (i:=i0) (by simp[yV,h1.2]) j hj) Rq
   ·split at h1
    ·simp[dt]at hj
    ·simp[dt]at hj
    ·simp[dt]at hj
    ·simp only[bA]at h1
     have h2:=h1.2
     split at h2
     ·rename_i ra;simp[dt]at hj;subst hj;exact hi _ _ ra
     ·cases h2
    ·simp only[bA]at h1
     have h2:=h1.2
     split at h2
     ·rename_i ra;simp[dt]at hj;subst hj;exact hi _ _ ra
     ·cases h2
    ·simp[dt]at hj
    ·cases h1
  ·exact Rp hi Rq hc.2 j hj
 | [],_::_,hc,_,_=>by simp[yW]at hc
 |_::_,[],hc,_,_=>by simp[yW]at hc
theorem Rr{G':Gh}{a0 i0:Nat}{xs:List Lf}{rn:mu}{n5 e:List T}(hr:Rel M B d up s (n5++e) G a w)(hl:n5.length=a0)(k:da (λl=>True) (λj=>¬j<i0) G w G' w)
  (hH:∀j x,mX rn j=some x->G'.H j=match x with|some id=>G.H id|none=>λ_=>.slice none 0 0):
  ∀{cs hs:List Ce} {vs:List Value},yW s a0 i0 xs rn cs hs=true->aS G w (n5++e) cs vs->aS G' w (n5++xs.map (Lf.ev (n5++e))) hs vs
 | [],[],[],_,_=>trivial
 |c::cs,h::hs,v::vs,hc,jg=>by
  simp only[yW,bA]at hc
  refine⟨?_,Rr hr hl k hH hc.2 jg.2⟩
  have xg:xf a0 (n5++e) (n5++xs.map (Lf.ev (n5++e))):=λm hm=>by
   rw[List.getElem?_append_left (by omega),List.getElem?_append_left (by omega)]
  have h1:=hc.1
  have qs:=jg.1
  clear hc jg
  unfold Hs at h1
  rw[Bool.or_eq_true]at h1
  rcases h1 with h1|h1
  ·simp only[bA]at h1
   have:=Ce.beq_eq h1.1
   subst this
   have hb:∀j∈dt [h],j<i0:=Gq (n:=a0) (by simp[yV,h1.2])
   exact(qs.re xg h1.2).aU k λj hj hn=>hn (hb j hj)
  ·split at h1
   ·rename_i n x
    obtain⟨t,ht,hd⟩:=qs
    exact⟨t,by rw[<-Lf.bG ht];exact IY h1 hl,hd.aU k.size k.free⟩
   ·rename_i n
    have hv:v=.slice none 0 0:=qs
    subst hv
    exact⟨.l [],IY h1 hl,.nil⟩
   ·rename_i n id
    split at h1
    ·rename_i x hx
     have dJ:=hr.ob id
     rw[hx]at dJ
     obtain⟨t,ht,hd,_⟩:=dJ
     obtain⟨p,hp,hv⟩:=qs
     simp only[lO,bc]at hp
     subst hp
     rw[hv]
     exact⟨t,by rw[<-Lf.bG ht];exact IY h1 hl,hd.aU k.size k.free⟩
    ·cases h1
   ·rename_i j
    simp only[bA]at h1
    have h2:=h1.2
    split at h2
    ·rename_i ra
     have hv:v=.slice none 0 0:=qs
     subst hv
     exact⟨[],rfl,by rw[hH _ _ ra]⟩
    ·cases h2
   ·rename_i j id
    simp only[bA]at h1
    have h2:=h1.2
    split at h2
    ·rename_i tU ra
     have:=du h2
     subst this
     obtain⟨p,hp,hv⟩:=qs
     simp only[lO,bc]at hp
     subst hp
     exact⟨[],rfl,by rw[hH _ _ ra];exact hv⟩
    ·cases h2
   ·exact qs.one
   ·cases h1
 | [],_::_,_,hc,_=>by simp[yW]at hc
 |_::_,[],_,hc,_=>by simp[yW]at hc
 | [],[],_::_,_,h=>h.elim
 |_::_,_::_,[],_,h=>h.elim
theorem Rs{h:Head}{xs:List Lf}{d':Nat}{n5 e:List T}(hm:Go.Proofs.YtjimmglpkndemaaGreatC.gk d' h s=some xs)(hr:Rel M B d up s (n5++e) G a w)(hl:n5.length=h.c0.a)(kH:∀i b,B.bt i=some b->i<h.c0.i):
  (n5++xs.map (Lf.ev (n5++e))).length=h.ct.a∧∃G',Rel (λi=>i<h.ct.i) B d up h.st (n5++xs.map (Lf.ev (n5++e))) G' a w:=by
 unfold Go.Proofs.YtjimmglpkndemaaGreatC.gk at hm
 simp only[cm]at hm
 obtain⟨⟨xs',rn⟩,_,hm⟩:=hm
 obtain⟨G1,hr,_⟩:=hr.z9 (l:=uz d' h.s0 s h.js)
 generalize sy s (uz d' h.s0 s h.js)=s1 at hm hr
 cases hc:Ht h s1 xs' rn with
 |false=>simp[hc]at hm
 |true=>
  simp only[hc,cond_true,bc]at hm
  subst hm
  unfold Ht at hc
  simp only[bA]at hc
  obtain⟨⟨⟨⟨⟨⟨c1,c2⟩,c3⟩,c4⟩,c5⟩,c6⟩,c7⟩:=hc
  have hlen:=du c1
  have Gr:=Nat.le_of_ble_eq_true c3
  have IV:=vQ c2
  have z_:=Ri c4
  refine⟨by rw[List.length_append,List.length_map,hl,hlen],G1.gk h.c0.i rn,?_⟩
  have xg:xf h.c0.a (n5++e) (n5++xs'.map (Lf.ev (n5++e))):=λm hm=>by
   rw[List.getElem?_append_left (by omega),List.getElem?_append_left (by omega)]
  have uX:∀b,G1.ω b=none->(G1.gk h.c0.i rn).ω b=none:=λb hb=>by simp[Gh.gk,hb]
  have cQ:∀b,G1.q b=none->(G1.gk h.c0.i rn).q b=none:=λb hb=>by
   refine sC hb (uX b) λl hl hq=>?_
   cases l with
   |o j p=>
    simp only[Gh.gk,hl]
    cases ra:mE rn j with
    |some k=>
     refine .inr ⟨.o k p,rfl,sD (Rk c4 _ _ (NH ra)) λe=>?_⟩
     subst e
     rw[CM (Rl c4 _ _ (NH ra))]at hq
     cases hq
    |none=>
     by_cases hj:j<h.c0.i
     ·exact .inr ⟨.o j p,by simp[hj],hq⟩
     ·exact .inl (by simp[hj])
   |_=>simp[qt]at hq
  have ma:∀j,j<h.c0.i->(G1.gk h.c0.i rn).H j=G1.H j:=by
   intro j hj
   have:mX rn j=none:=by
    cases ra:mX rn j with
    |none=>rfl
    |some x=>have:=(z_ j x (NI ra)).1;omega
   simp[Gh.gk,this]
  have hHr:∀j x,mX rn j=some x->(G1.gk h.c0.i rn).H j=match x with|some id=>G1.H id|none=>λ_=>.slice none 0 0:=by
   intro j x hj
   show(match mX rn j with|some (some id)=>G1.H id|some none=>_|none=>G1.H j)=_
   rw[hj]
   cases x<;>rfl
  have kI:da (λl=>match l with| .f=>False| .x j=>¬j<h.c0.i| .o j _=>mE rn j≠none∨¬j<h.c0.i) (λj=>¬j<h.c0.i) G1 w (G1.gk h.c0.i rn) w:=by
   refine⟨Nat.le_refl _,λb _ hb=>⟨cQ b hb,rfl⟩,λb _ hb=>uX b hb,λb l hb hl=>⟨?_,rfl⟩,λj hj=>⟨rfl,λp _=>by rw[ma j (Decidable.not_not.1 hj)]⟩⟩
   cases l with
   |f=>simp[Gh.gk,hb]
   |x j=>simp only[Gh.gk,hb];rw[if_pos (Decidable.not_not.1 hl)]
   |o j p=>
    have h1:mE rn j=none:=by
     cases ra:mE rn j with
     |none=>rfl
     |some k=>exact absurd (.inl (by rw[ra];simp)) hl
    have h2:j<h.c0.i:=Decidable.not_not.1 λhn=>hl (.inr hn)
    simp only[Gh.gk,hb,h1];rw[if_pos h2]
  have kT:=kI.mono (I':=λ_=>True) (λ_ _=>trivial) λ_ hn=>hn
  have bu:∀r v,(r,v)∈h.own->∃j,r=.o j∧j<h.ct.i∧cA (G1.gk h.c0.i rn) w (n5++xs'.map (Lf.ev (n5++e))) j v∧cT v=[]:=by
   intro r v hm
   rcases Rn c6 r v hm with⟨j,dp,n,rfl,rfl,mJ⟩|⟨j,x,n,m,rfl,rfl,h1,h2,h3,h4,h5⟩
   case inr=>
    refine⟨j,rfl,by omega,?_,rfl⟩
    have dJ:=hr.ob j
    rw[h4]at dJ
    obtain⟨g0,F,u,g1,g2,g3,g4⟩:=dJ
    refine⟨g0,F,u,by rw[<-Lf.f_ xg h3];exact g1,by rw[<-Lf.bG g2];exact IY h5 hl,g3,λi r hi dj=>⟨(g4 i r hi dj).1,λc ys hy=>((g4 i r hi dj).2 c ys hy).aU kI (λp hp=>?_) λhn=>hn h1⟩⟩
    rcases hp with hp|hp
    ·exact hp h2
    ·exact hp h1
   rcases mJ with⟨id,x,h1,h2,h3⟩|⟨h1,h3⟩|⟨x,h1,h2,h3,h4,h5⟩
   ·obtain⟨q1,q2,q3⟩:=z_ j (some id) (NI h1)
    refine⟨j,rfl,q2,?_,rfl⟩
    have dJ:=hr.ob id
    rw[h2]at dJ
    obtain⟨t,ht,ho⟩:=dJ
    refine⟨t,by rw[<-Lf.bG ht];exact IY h3 hl,?_⟩
    have m6:=q3 id rfl
    have gj:∀c p,G1.ω c=some (.o id p)->(G1.gk h.c0.i rn).ω c=some (.o j p):=λc p lq=>by simp[Gh.gk,lq,m6]
    have hHj:=hHr j _ h1
    cases dp with
    |true=>exact ho.move rfl (λc p lq=>⟨gj c p lq,rfl⟩) λp=>by rw[hHj]
    |false=>exact ho.o9 (λc lq=>gj c [] lq) (by rw[hHj]) cQ
   ·obtain⟨q1,q2,_⟩:=z_ j none (NI h1)
    exact⟨j,rfl,q2,⟨.l [],IY h3 hl,.nil (by rw[hHr j _ h1])⟩,rfl⟩
   ·refine⟨j,rfl,by omega,?_,rfl⟩
    have dJ:=hr.ob j
    rw[h4]at dJ
    obtain⟨t,ht,ho⟩:=dJ
    refine⟨t,by rw[<-Lf.bG ht];exact IY h5 hl,ho.aU kI (λp hp=>?_) λhn=>hn h2⟩
    rcases hp with hp|hp
    ·exact hp h3
    ·exact hp h2
  have ib:∀r v,(r,v)∈h.new->∃ag hs cs,v=.v ag hs∧s1.get r=.v ag cs∧(∀vs,aS G1 w (n5++e) cs vs->aS (G1.gk h.c0.i rn) w (n5++xs'.map (Lf.ev (n5++e))) hs vs)∧(∀j∈cT v,j<h.ct.i)∧(∀j,r≠.o j)∧∀b,r=.x b->b<h.c0.i:=by
   intro r v hm
   obtain⟨ag,hs,cs,rfl,h1,h2,h3,h4⟩:=Ro c7 r v hm
   exact⟨ag,hs,cs,rfl,h1,λvs hv=>Rr hr hl kT hHr h2 hv,λj hj=>Rp (i1:=h.ct.i) (λj x hj=>(z_ j x (NI hj)).2.1) Gr h2 j hj,h3,h4⟩
  have cf:∀r,h.st.get r=.un∨(r,h.st.get r)∈h.kept∨(r,h.st.get r)∈h.own∨(r,h.st.get r)∈h.new:=by
   intro r
   rw[St.sE]
   cases Nx:h.st.look r with
   |none=>exact .inl rfl
   |some v=>
    have:=Dl Nx
    simp only[Head.st,List.mem_append]at this
    exact .inr (by simpa[or_assoc]using this)
  have s8:=Rm c5
  refine⟨λx n hx=>?_,λb=>?_,λi=>?_,λr i hi=>?_,λi hi=>?_,λb l hb=>?_,hr.dn,?_,λi b hb=>⟨Nat.lt_of_lt_of_le (kH i b hb) Gr,(hr.bt i b hb).2⟩⟩
  ·rcases cf (.t x n)with hu|hm|hm|hm
   ·rw[hu];trivial
   ·rcases s8 _ _ hm with hu|⟨he,hb,_,_⟩
    ·rw[hu];trivial
    ·rw[he]
     rw[he]at hb
     exact((hr.tm x n hx).re xg hb).aU kT λj hj hn=>hn (SV.oK hb j hj)
   ·obtain⟨j,e1,_⟩:=bu _ _ hm;cases e1
   ·obtain⟨ag,hs,cs,e1,e2,e3,_⟩:=ib _ _ hm
    rw[e1]
    have:=hr.tm x n hx
    rw[e2]at this
    cases ag with
    |true=>obtain⟨vs,g1,g2⟩:=this;exact⟨vs,g1,e3 vs g2⟩
    |false=>
     obtain⟨c,rfl,g2,g3⟩:=this
     have:=e3 [nW up d a x n] ⟨g2,trivial⟩
     match hs,this with
     | [c'],this=>exact⟨c',rfl,this.1,g3⟩
  ·rcases cf (.x b)with hu|hm|hm|hm
   ·rw[hu];trivial
   ·rcases s8 _ _ hm with hu|⟨he,hb,_,hxb⟩
    ·rw[hu];trivial
    ·rw[he]
     rw[he]at hb
     have a_:=hxb b rfl
     exact((hr.bx b).re xg hb).aU kI (λhf=>hf a_) (λhn=>hn a_) λj hj hn=>hn (SV.oK hb j hj)
   ·obtain⟨j,e1,_⟩:=bu _ _ hm;cases e1
   ·obtain⟨ag,hs,cs,e1,e2,e3,_,_,e4⟩:=ib _ _ hm
    rw[e1]
    have:=hr.bx b
    rw[e2]at this
    obtain⟨g1,bE,elem,g2,g3⟩:=this
    refine⟨?_,bE,elem,g2,e3 _ g3⟩
    show(G1.gk h.c0.i rn).ω (G1.β b)=_
    simp only[Gh.gk,g1]
    rw[if_pos (e4 b rfl)]
  ·rcases cf (.o i)with hu|hm|hm|hm
   ·rw[hu];trivial
   ·rcases s8 _ _ hm with hu|⟨he,hb,hoi,_⟩
    ·rw[hu];trivial
    ·rw[he]
     rw[he]at hb
     obtain⟨q1,q2⟩:=hoi i rfl
     refine((hr.ob i).re xg hb).aU kI (λp hp=>?_) (λhn=>hn q1) λj hj hn=>hn (SV.oK hb j hj)
     rcases hp with hp|hp
     ·exact hp q2
     ·exact hp q1
   ·obtain⟨j,e1,_,e2,_⟩:=bu _ _ hm;cases e1;exact e2
   ·obtain⟨ag,hs,cs,e1,e2,e3,_,e4,_⟩:=ib _ _ hm;exact absurd rfl (e4 i)
  ·rcases cf r with hu|hm|hm|hm
   ·rw[hu]at hi;simp[cT]at hi
   ·rcases s8 _ _ hm with hu|⟨he,hb,_,_⟩
    ·rw[hu]at hi;simp[cT]at hi
    ·exact Nat.lt_of_lt_of_le (SV.oK hb i hi) Gr
   ·obtain⟨j,_,_,_,e2⟩:=bu _ _ hm;rw[e2]at hi;cases hi
   ·obtain⟨ag,hs,cs,e1,e2,e3,e4,_⟩:=ib _ _ hm;exact e4 i hi
  ·have key:∀r:bf,(r=.x i∨r=.o i)->h.st.get r≠.un->i<h.ct.i:=by
    intro r Rt dj
    rcases cf r with hu|hm|hm|hm
    ·exact absurd hu dj
    ·rcases s8 _ _ hm with hu|⟨he,hb,g1,g2⟩
     ·exact absurd hu dj
     ·rcases Rt with rfl|rfl
      ·exact Nat.lt_of_lt_of_le (g2 i rfl) Gr
      ·exact Nat.lt_of_lt_of_le (g1 i rfl).1 Gr
    ·obtain⟨j,e1,e2,_⟩:=bu _ _ hm
     rcases Rt with rfl|rfl
     ·cases e1
     ·cases e1;exact e2
    ·obtain⟨ag,hs,cs,e1,e2,e3,_,e4,e5⟩:=ib _ _ hm
     rcases Rt with rfl|rfl
     ·exact Nat.lt_of_lt_of_le (e5 i rfl) Gr
     ·exact absurd rfl (e4 i)
   rcases hi with hi|hi
   ·exact key _ (.inl rfl) hi
   ·exact key _ (.inr rfl) hi
  ·cases nw:G1.ω b with
   |none=>simp[Gh.gk,nw]at hb
   |some l'=>
    have a_:=(hr.gx b l' nw).2
    refine⟨?_,a_⟩
    cases l' with
    |f=>simp[Gh.gk,nw]at hb;subst hb;exact IV
    |x j=>
     simp only[Gh.gk,nw]at hb
     split at hb
     ·rename_i hj;cases hb;exact Nat.lt_of_lt_of_le hj Gr
     ·cases hb
    |o j p=>
     simp only[Gh.gk,nw]at hb
     split at hb
     ·rename_i k hk
      cases hb
      exact(z_ k _ (NH hk)).2.1
     ·split at hb
      ·rename_i hj;cases hb;exact Nat.lt_of_lt_of_le hj Gr
      ·cases hb
  ·obtain⟨b1,b2,b3,b4,b5,b6,b7⟩:=hr.base
   refine⟨b1,b2,b3,b4,λb hb h0=>⟨uX b (b5 b hb h0).1,(b5 b hb h0).2⟩,λb hb=>⟨by simp[Gh.gk,(b6 b hb).1],(b6 b hb).2⟩,b7⟩
end
def DH:Ex->Exit
 | .normal=>.normal
 | .exit id=>.exit id
 | .ret=>.ret
section
variable {B:eu} {f:Fr} {S:Nat->af} {P:Program} {cx:Cx} {cP:mD} {cw eW:Nat} {R:Nat} {out:List T}
theorem xe.ext{Z Z':Zb}{k:KP}{Ψ:Act->World->Prop}(h:xe S R out B f Z k Ψ)(hK:∃pre,Z'.K=pre++Z.K)(mA:∃e,Z'.ρ=Z.ρ++e):xe S R out B f Z' k Ψ:=by
 rintro lv s ct fs p a w hk ⟨K,ρ,G,h1,h2,⟨pre,h3⟩,⟨e,h4⟩,h5⟩
 obtain⟨aex,h6⟩:=hK
 obtain⟨e',h7⟩:=mA
 exact h lv s ct fs p a w hk ⟨K,ρ,G,h1,h2,⟨pre++aex,by rw[h3,h6,List.append_assoc]⟩,⟨e'++e,by rw[h4,h7,List.append_assoc]⟩,h5⟩
theorem Ru{K:List af}{ρ:List T}{J:af}{h:Head}{lv tag:Nat}{Ψ:Act->World->Prop}(hlv:K.length=lv)(hl:ρ.length=h.c0.a)(kH:∀i b,B.bt i=some b->i<h.c0.i)
  (hJ:∀ts a w G,J ts=some out->(ρ++ts).length=h.ct.a->Rel (λi=>i<h.ct.i) B f.d f.up h.st (ρ++ts) G a w->a.tmps.size=f.nt->Ψ a w):xe S R out B f ⟨J::K,ρ⟩ (OW f.d h lv tag) Ψ:=by
 rintro lv2 s' gv iR p a w hk ⟨K2,DJ,G,h1,h2,⟨pre,h3⟩,⟨e,h4⟩,h5,h6,h7,h8,_⟩
 unfold OW at hk
 split at hk
 ·rename_i xs hm
  cases hk
  simp only at h3 h4
  subst h4
  obtain⟨g1,G',g2⟩:=Rs hm h7 hl kH
  simp only[PL.den]at h1
  have aey:K2[lv2-lv-1]?=some J:=by
   rw[h3]
   have:K2.length=pre.length+(K.length+1):=by rw[h3];simp
   rw[List.getElem?_append_right (by omega),show lv2-lv-1-pre.length=0 by omega]
   rfl
  rw[aey]at h1
  exact hJ _ a w G' h1 g1 g2 h8
 ·cases hk;cases h1
theorem I0{Z:Zb}{K0:KP}{h:Head}{lv:Nat}{fs:jt}{k b:PL}{a:Act}{w:World}{s:St}{ct:Ct}{js:Js}{Ψ:Act->World->Prop}(hh:h=Bx f.d s ct js)(hk:K0 lv h.st h.ct fs=some k)(hS:xe S R out B f Z K0 Ψ)
  (bq:At S R out B f Z XT (.join k b) lv s ct fs a w):∃Z',(∃pre,Z'.K=pre++Z.K)∧(∃e,Z'.ρ=Z.ρ++e)∧At S R out B f Z' XT b (lv+1) s ct fs a w∧∀tag,xe S R out B f Z' (OW f.d h lv tag) Ψ:=by
 obtain⟨K,ρ,G,h1,h2,⟨pre,h3⟩,⟨e,h4⟩,h5,h6,h7,h8,_⟩:=bq
 simp only[PL.den]at h1
 have F3:h.c0=ct:=by rw[hh];rfl
 refine⟨⟨(λts=>k.den S R K (ρ++ts))::K,ρ⟩,⟨_::pre,by simp[h3];rfl⟩,⟨e,h4⟩,⟨_,ρ,G,h1,by simp[h2],⟨[],rfl⟩,⟨[],by simp⟩,h5,h6,h7,h8,trivial⟩,λtag=>?_⟩
 refine Ru h2 (by rw[F3];exact h5) (λi b hb=>by rw[F3];exact(h7.bt i b hb).1) λts a w G' hd hl hr hs=>?_
 exact hS lv h.st h.ct fs k a w hk ⟨K,ρ++ts,G',hd,h2,⟨pre,h3⟩,⟨e++ts,by rw[h4,List.append_assoc]⟩,hl,h6.ext,hr,hs,trivial⟩
theorem At.at{Z:Zb}{X:Gh->World->List T->Prop}{p:PL}{lv:Nat}{s:St}{ct:Ct}{fs:jt}{a:Act}{w:World}(h:At S R out B f Z X p lv s ct fs a w):True:=trivial
theorem Rv{Z:Zb}{c:Operand}{x y:Code}{tag lv:Nat}{s:St}{ct:Ct}{fs:jt}{p:PL}{a:Act}{w:World}{Q:Exit->Act->World->Prop}{cx' cy':jt->Option PL}
  (h:CF tag (bY f.d s.get c) cx' cy' s fs=some p)(bq:At S R out B f Z XT p lv s ct fs a w)(hx:∀fs p,cx' fs=some p->At S R out B f Z XT p lv s ct fs a w->x.wp P Q a w)
  (hy:∀fs p,cy' fs=some p->At S R out B f Z XT p lv s ct fs a w->y.wp P Q a w):(Code.cond c x y).wp P Q a w:=by
 obtain⟨K,ρ,G,h1,h2,h3,h4,h5,h6,h7,h8,_⟩:=bq
 have jg:=(BA h7 c).1
 unfold CF at h
 split at h
 ·rename_i b hd
  have hc:=Ds hd jg h6
  refine wp_cond hc ?_
  cases b with
  |true=>exact hx fs p h ⟨K,ρ,G,h1,h2,h3,h4,h5,h6,h7,h8,trivial⟩
  |false=>exact hy fs p h ⟨K,ρ,G,h1,h2,h3,h4,h5,h6,h7,h8,trivial⟩
 ·rename_i n hd
  simp only[cm,bc]at h
  obtain⟨px,hpx,py,hpy,rfl⟩:=h
  obtain⟨b,hb,hp⟩:=IC h1
  have hc:=Ds (Du (b:=b) hd) jg (h6.cons hb)
  refine wp_cond hc ?_
  cases b with
  |true=>exact hx _ px hpx ⟨K,ρ,G,hp,h2,h3,h4,h5,h6.cons hb,h7,h8,trivial⟩
  |false=>exact hy _ py hpy ⟨K,ρ,G,hp,h2,h3,h4,h5,h6.cons hb,h7,h8,trivial⟩
 ·cases h;cases h1
 ·cases h;cases h1
theorem Rw(E:Env P cx S)(hI:zX P S R out B cP)(sU:P.follows .mixedOrders=true):∀(c:Code) (qL lv:Nat) (s:St) (ct:Ct) (fs:jt) (KE:KE) (p:PL) (a:Act) (w:World) (Z:Zb) (Q:Exit->Act->World->Prop),
  vD f.nt c=true->comp cx cP cw f.d c qL lv s ct fs KE=some p->At S R out B f Z XT p lv s ct fs a w->(∀e,xe S R out B f Z (KE e) (Q (DH e)))->c.wp P Q a w:=by
 intro c
 induction c with
 |skip=>intro qL lv s ct fs KE p a w Z Q _ h bq hK;exact wp_skip (hK .normal lv s ct fs p a w h bq)
 |label l=>intro qL lv s ct fs KE p a w Z Q _ h bq hK;exact wp_label (hK .normal lv s ct fs p a w h bq)
 |seq x y ihx ihy=>
  intro qL lv s ct fs KE p a w Z Q hd h bq hK
  simp only[vD,bA]at hd
  refine wp_seq (ihx 0 lv s ct fs _ p a w Z _ hd.1 h bq λe=>?_)
  cases e with
  |normal=>exactλlv s ct fs p a w hk bq=>ihy 0 lv s ct fs KE p a w Z Q hd.2 hk bq hK
  |exit id=>exact hK (.exit id)
  |ret=>exact hK .ret
 |region id ops draw=>
  intro qL lv s ct fs KE p a w Z Q hd h bq hK
  have hn:∀o∈ops.toList,∀n,o.dst=some n->n<f.nt:=by
   intro o ho n hn
   have:=List.all_eq_true.1 hd o ho
   rw[hn]at this
   exact vQ this
  have aez:∀p,At S R out B f Z XT p lv s ct fs a w->At S R out B f Z XT p lv (Hv cx cw f.d id s) ct fs a w:=by
   rintro p ⟨K,ρ,G,h1,h2,h3,h4,h5,h6,h7,h8,_⟩
   unfold Hv
   cases cx.pV cw 4 id with
   |none=>exact⟨K,ρ,G,h1,h2,h3,h4,h5,h6,h7,h8,trivial⟩
   |some js=>
    obtain⟨G',h7'⟩:=h7.i_ (js:=js) (d':=f.d)
    exact⟨K,ρ,G',h1,h2,h3,h4,h5,h6,h7',h8,trivial⟩
  have Rx:∀(s0:St) p,At S R out B f Z XT p lv s0 ct fs a w->At S R out B f Z XT p lv (CG cx cw f.d id s0 ct).1 (CG cx cw f.d id s0 ct).2 fs a w:=by
   rintro s0 p ⟨K,ρ,G,h1,h2,h3,h4,h5,h6,h7,h8,_⟩
   unfold CG
   cases cx.pV cw 5 id with
   |none=>exact⟨K,ρ,G,h1,h2,h3,h4,h5,h6,h7,h8,trivial⟩
   |some js=>
    obtain⟨⟨G',h7'⟩,g2,_⟩:=h7.jv (js:=js) (d':=f.d)
    exact⟨K,ρ,G',h1,h2,h3,h4,h5.trans g2.symm,h6,h7',h8,trivial⟩
  have kW:=Rx _ p (aez p bq)
  simp only[comp]at h
  split at h
  ·exact Ra E hI sU hn (hK .normal) h kW
  ·rename_i js hj
   simp only[cm,bc]at h
   obtain⟨k,hk,b,hb,rfl⟩:=h
   obtain⟨Z',z1,z2,uU,hS⟩:=I0 rfl hk (hK .normal) kW
   exact Ra E hI sU hn (hS _) hb uU
 |cond c x y ihx ihy=>
  intro qL lv s ct fs KE p a w Z Q hd h bq hK
  simp only[vD,bA]at hd
  simp only[comp]at h
  split at h
  ·exact Rv h bq (λfs p hp bq=>ihx 0 lv s ct fs KE p a w Z Q hd.1 hp bq hK) (λfs p hp bq=>ihy 0 lv s ct fs KE p a w Z Q hd.2 hp bq hK)
  ·rename_i js hj
   simp only[cm,bc]at h
   obtain⟨k,hk,b,hb,rfl⟩:=h
   obtain⟨Z',z1,z2,uU,hS⟩:=I0 rfl hk (hK .normal) bq
   have hKE:∀tag e,xe S R out B f Z' (yX f.d (Bx f.d s ct js) lv tag KE e) (Q (DH e)):=by
    intro tag e
    cases e with
    |normal=>exact hS tag
    |exit id=>exact(hK (.exit id)).ext z1 z2
    |ret=>exact(hK .ret).ext z1 z2
   exact Rv hb uU (λfs p hp bq=>ihx 0 (lv+1) s ct fs _ p a w Z' Q hd.1 hp bq (hKE _)) (λfs p hp bq=>ihy 0 (lv+1) s ct fs _ p a w Z' Q hd.2 hp bq (hKE _))
 |block id body ih=>
  intro qL lv s ct fs KE p a w Z Q hd h bq hK
  have vR:∀(Z:Zb) (KE':Go.Proofs.YtjimmglpkndemaaGreatC.KE),(∀e,xe S R out B f Z (KE' e) (Q (DH e)))->∀e,xe S R out B f Z (CC id KE' e) (Exit.inBlock id Q (DH e)):=by
   intro Z KE' hK e
   cases e with
   |normal=>exact hK .normal
   |ret=>exact hK .ret
   |exit i=>
    intro lv s ct fs p a w hk bq
    simp only[CC]at hk
    show(if i=id then Q .normal a w else Q (.exit i) a w)
    cases hb:Nat.beq i id with
    |true=>
     rw[hb]at hk
     rw[if_pos (du hb)]
     exact hK .normal lv s ct fs p a w hk bq
    |false=>
     rw[hb]at hk
     rw[if_neg (λe=>by subst e;simp at hb)]
     exact hK (.exit i) lv s ct fs p a w hk bq
  simp only[comp]at h
  split at h
  ·exact wp_block (ih id lv s ct fs _ p a w Z _ hd h bq (vR Z KE hK))
  ·rename_i js hj
   simp only[cm,bc]at h
   obtain⟨k,hk,b,hb,rfl⟩:=h
   obtain⟨Z',z1,z2,uU,hS⟩:=I0 rfl hk (hK .normal) bq
   refine wp_block (ih id (lv+1) s ct fs _ b a w Z' _ hd hb uU (vR Z' _ λe=>?_))
   cases e with
   |normal=>exact hS _
   |exit id=>exact(hK (.exit id)).ext z1 z2
   |ret=>exact(hK .ret).ext z1 z2
 |loop body ih=>
  intro qL lv s ct fs KE p a w Z Q hd h bq hK
  simp only[comp]at h
  split at h
  ·cases h;obtain⟨K,ρ,G,h1,_⟩:=bq;cases h1
  ·rename_i js hj
   split at h
   ·cases h;obtain⟨K,ρ,G,h1,_⟩:=bq;cases h1
   ·rename_i xs hm
    simp only[cm,bc]at h
    obtain⟨b,hb,rfl⟩:=h
    obtain⟨K,ρ,G,h1,h2,⟨pre,h3⟩,⟨e,h4⟩,h5,h6,h7,h8,_⟩:=bq
    have kH:∀i b,B.bt i=some b->i<(Bx f.d s ct js).c0.i:=λi b hb=>(h7.bt i b hb).1
    have key:∀(n:Nat) (ts:List T) (a:Act) (w:World) (G:Gh),iter (λself ts=>b.den S R (self::K) (ρ++ts)) n ts=some out->(ρ++ts).length=(Bx f.d s ct js).ct.a->
      Rel (λi=>i<(Bx f.d s ct js).ct.i) B f.d f.up (Bx f.d s ct js).st (ρ++ts) G a w->a.tmps.size=f.nt->Code.rounds P body Q n a w:=by
     intro n
     induction n with
     |zero=>intro ts a w G hi;cases hi
     |succ n ihn=>
      intro ts a w G hi hl hr hs
      rw[rounds_succ]
      refine ih 0 (lv+1) _ _ fs _ b a w ⟨iter (λself ts=>b.den S R (self::K) (ρ++ts)) n::K,ρ⟩ _ hd hb ⟨_,ρ++ts,G,hi,by simp[h2],⟨[],rfl⟩,⟨ts,rfl⟩,hl,h6.ext,hr,hs,trivial⟩ λe'=>?_
      cases e' with
      |normal=>exact Ru h2 h5 kH λts a w G hJ hl hr hs=>ihn ts a w G hJ hl hr hs
      |exit id=>exact(hK (.exit id)).ext ⟨_::pre,by simp[h3];rfl⟩ ⟨e,h4⟩
      |ret=>exact(hK .ret).ext ⟨_::pre,by simp[h3];rfl⟩ ⟨e,h4⟩
    simp only[PL.den]at h1
    obtain⟨g1,G',g2⟩:=Rs (e:=[]) hm (by rw[List.append_nil];exact h7) h5 kH
    rw[List.append_nil]at g1 g2
    exact wp_loop_rounds R (key R _ a w G' h1 g1 g2 h8)
 |exit id=>intro qL lv s ct fs KE p a w Z Q _ h bq hK;exact wp_exit (hK (.exit id) lv s ct fs p a w h bq)
 |ret=>intro qL lv s ct fs KE p a w Z Q _ h bq hK;exact wp_ret (hK .ret lv s ct fs p a w h bq)
 |_=>intros;rename_i h bq _;simp only[comp,bc]at h;subst h;obtain⟨K,ρ,G,h1,_⟩:=bq;cases h1
end
section
variable {M:Nat->Prop} {B:eu} {d:Nat} {up:Nat->Nat->Value} {ρ:List T} {G:Gh} {a:Act} {w:World} {s:St} {S:Nat->af} {P:Program} {cx:Cx} {R:Nat} {out:List T}
theorem aeC{t:Nat}{ti:TI}(hT:sF P t ti){b off:Nat}{vs:List Value}(hl:vs.length=ti.sz)(hc:∀j v,vs[j]?=some v->w.cell? ⟨b,off+j,none⟩=some v):
  (loadVar t ⟨b,off,none⟩).run P w=.ok (if ti.ag then .agg vs.toArray else vs.getD 0 undef) w:=by
 have:=O8 (P:=P) hT hl hc
 simpa[Instr.loadAt,Instr.sureAddr]using this
def xh(tmps:Array Value):ResultVar->Sem Value
 | .tmp t=>pure (tmps.getD t undef)
 | .cell a t=>do loadVar t (<-asAddr (tmps.getD a undef))
theorem DK(dC:dU P cx)(hr:Rel M B d up s ρ G a w):∀{rvs:List ResultVar} {rs:List SV},Go.Proofs.YtjimmglpkndemaaGreatC.results cx d s rvs=some rs->
  ∃us:List Value,(rvs.mapM (xh a.tmps)).run P w=.ok us w∧cO G w ρ rs us∧∀v∈rs,∀i∈cT v,M i
 | [],rs,h=>by
  simp[Go.Proofs.YtjimmglpkndemaaGreatC.results]at h
  subst h
  exact⟨[],rfl,trivial,λv hv=>by cases hv⟩
 | .tmp t::rvs,rs,h=>by
  simp only[Go.Proofs.YtjimmglpkndemaaGreatC.results,cm,bc]at h
  obtain⟨vs,oA,rfl⟩:=h
  obtain⟨us,g1,g2,g3⟩:=DK dC hr oA
  have ht:=hr.tm d t (Nat.le_refl _)
  simp only[nW,if_true]at ht
  refine⟨a.tmps.getD t undef::us,?_,⟨ht,g2⟩,λv hv=>?_⟩
  ·rw[List.mapM_cons,Sem.run_bind]
   simp only[xh,Sem.run_pure,Result.andThen_ok,Sem.run_bind,g1]
  ·rcases List.mem_cons.1 hv with rfl|hv
   ·exact hr.fD _
   ·exact g3 v hv
 | .cell ad t::rvs,rs,h=>by
  simp only[Go.Proofs.YtjimmglpkndemaaGreatC.results,cm]at h
  obtain⟨ti,fj,h⟩:=h
  have ht:=hr.tm d ad (Nat.le_refl _)
  simp only[nW,if_true]at ht
  split at h
  ·rename_i bx off hpt
   split at h
   ·rename_i ag cs tS
    cases hb:Nat.ble (off+ti.sz) cs.length with
    |false=>simp[hb]at h
    |true=>
     simp only[hb,cond_true,cm,bc]at h
     obtain⟨vs,oA,rfl⟩:=h
     obtain⟨us,g1,g2,g3⟩:=DK dC hr oA
     rw[hpt]at ht
     have o8:=hr.bx bx
     rw[tS]at o8
     obtain⟨_,bE,elem,hh,jW⟩:=o8
     have hle:=Nat.le_of_ble_eq_true hb
     have hlen:=jW.length
     simp only[Array.length_toList]at hlen
     have hT:=dC.ty _ _ fj
     have nY:=aS.take ti.sz (aS.drop off jW)
     have m5:((bE.toList.drop off).take ti.sz).length=ti.sz:=by simp;omega
     have d_:=aeC (P:=P) (w:=w) (b:=G.β bx) (off:=off) hT m5 (λj v hj=>by
      rw[uG hh]
      have a_:=(List.getElem?_eq_some_iff.1 hj).1
      rw[List.getElem?_take,if_pos (by omega),List.getElem?_drop]at hj
      simpa using hj)
     refine⟨_::us,?_,⟨zg hT nY m5,g2⟩,λv hv=>?_⟩
     ·rw[List.mapM_cons,Sem.run_bind]
      simp only[xh,Sem.run_bind]
      rw[show a.tmps.getD ad undef=.pointer (some ⟨G.β bx,off,none⟩) from ht]
      simp only[asAddr,Sem.run_pure,Result.andThen_ok,d_,g1]
     ·rcases List.mem_cons.1 hv with rfl|hv
      ·intro i hi
       have hm:=hr.fD (.x bx)
       rw[tS]at hm
       exact hm i (HH _ _ i (HI _ _ i hi))
      ·exact g3 v hv
   ·cases h
  ·cases h
theorem Ry{fn:Func}{us:List Value}(h:(fn.results.toList.mapM (xh a.tmps)).run P w=.ok us w):(Go.results fn a.tmps).run P w=.ok (mL us) w:=by
 have h2:(fn.results.mapM (xh a.tmps)).run P w=.ok us.toArray w:=by
  rw[Array.mapM_eq_mapM_toList,Sem.run_map,h]
  rfl
 have h3:Go.results fn a.tmps=(do let vs <-fn.results.mapM (xh a.tmps);pure (if h:vs.size=1 then vs[0]else .tuple vs)):=by
  unfold Go.results
  congr 1
 rw[h3,Sem.run_bind,h2]
 simp only[Result.andThen_ok,Sem.run_pure,mL,List.size_toArray]
 by_cases hl:us.length=1
 ·simp[hl]
 ·simp[hl]
theorem DL(d e n:Nat):∀s:St,(qK d s).get (.t e n)=if d<=e then .un else s.get (.t e n)
 | []=>by simp[qK,St.get]
 |(.t e' n',v)::s=>by
  simp only[qK]
  cases hb:Nat.ble d e' with
  |true=>
   have:=Nat.le_of_ble_eq_true hb
   simp only[cond_true]
   rw[DL d e n s]
   split
   ·rfl
   ·simp only[St.get]
    have:(bf.t e' n').beq (.t e n)=false:=by
     cases hq:(bf.t e' n').beq (.t e n)with
     |false=>rfl
     |true=>have:=bf.beq_iff.1 hq;cases this;omega
    rw[this];rfl
  |false=>
   have a_:¬d<=e':=λh=>by rw[Nat.ble_eq_true_of_le h]at hb;cases hb
   simp only[cond_false,St.get]
   cases hq:(bf.t e' n').beq (.t e n)with
   |true=>have:=bf.beq_iff.1 hq;cases this;simp[a_]
   |false=>simp only[cond_false];exact DL d e n s
 |(.x b,v)::s=>by
  simp only[qK,St.get]
  rw[show(bf.x b).beq (.t e n)=false from rfl]
  exact DL d e n s
 |(.o b,v)::s=>by
  simp only[qK,St.get]
  rw[show(bf.o b).beq (.t e n)=false from rfl]
  exact DL d e n s
theorem DM(d:Nat)(r:bf)(hr:∀e n,r≠.t e n):∀s:St,(qK d s).get r=s.get r
 | []=>rfl
 |(.t e' n',v)::s=>by
  have hb:(bf.t e' n').beq r=false:=by
   cases hq:(bf.t e' n').beq r with
   |false=>rfl
   |true=>exact absurd (bf.beq_iff.1 hq).symm (hr e' n')
  simp only[qK]
  cases Nat.ble d e' with
  |true=>simp only[cond_true,St.get,hb,cond_false];exact DM d r hr s
  |false=>simp only[cond_false,St.get,hb];exact DM d r hr s
 |(.x b,v)::s=>by
  simp only[qK,St.get]
  rw[DM d r hr s]
 |(.o b,v)::s=>by
  simp only[qK,St.get]
  rw[DM d r hr s]
theorem DN(d:Nat):∀(vs:List SV) (s:St) (i:Nat) (r:bf),(Hw d s i vs).get r=match r with
  | .t e n=>if e=d∧i<=n∧n<i+vs.length then vs.getD (n-i) .un else s.get (.t e n)
  |r=>s.get r
 | [],s,i,r=>by
  cases r with
  |t e n=>simp only[Hw,List.length_nil];rw[if_neg (by omega)]
  |_=>rfl
 |v::vs,s,i,r=>by
  simp only[Hw]
  rw[DN d vs (s.set (.t d i) v) (i+1) r]
  cases r with
  |t e n=>
   simp only[List.length_cons]
   by_cases h1:e=d∧i+1<=n∧n<i+1+vs.length
   ·rw[if_pos h1,if_pos ⟨h1.1,by omega,by omega⟩]
    rw[show n-i=(n-(i+1))+1 by omega]
    simp
   ·rw[if_neg h1]
    by_cases h2:e=d∧n=i
    ·obtain⟨rfl,rfl⟩:=h2
     rw[if_pos ⟨rfl,by omega,by omega⟩,St.bN]
     simp
    ·rw[if_neg (by omega),St.dZ _ _ (λh=>by cases h;exact h2 ⟨rfl,rfl⟩)]
  |x b=>exact St.dZ _ _ (by simp)
  |o b=>exact St.dZ _ _ (by simp)
theorem cO.get{vs:List SV}{us:List Value}(h:cO G w ρ vs us):∀(i:Nat) (v:SV),vs[i]?=some v->∃u,us[i]?=some u∧cz G w ρ v u:=by
 induction vs generalizing us with
 |nil=>intro i v hi;simp at hi
 |cons x vs ih=>
  cases us with
  |nil=>exact h.elim
  |cons u us=>
   intro i v hi
   cases i with
   |zero=>simp at hi;subst hi;exact⟨u,rfl,h.1⟩
   |succ i=>simpa using ih h.2 i v (by simpa using hi)
theorem Rel.enter{vs:List SV}{args:List Value}{nt:Nat}(hr:Rel M B d up s ρ G a w)(hv:cO G w ρ vs args)(hm:∀v∈vs,∀i∈cT v,M i)(hn:vs.length<=nt):
  Rel M B (d+1) (nW up d a) (Hw (d+1) (qK (d+1) s) 0 vs) ρ G {tmps:=args.toArray++Array.replicate (nt-args.toArray.size) undef,defers:=[]} w∧
   (args.toArray++Array.replicate (nt-args.toArray.size) undef:Array Value).size=nt:=by
 have hl:=hv.length
 have hg:∀r,(∀e n,r≠.t e n)->(Hw (d+1) (qK (d+1) s) 0 vs).get r=s.get r:=by
  intro r hr
  rw[DN]
  cases r with
  |t e n=>exact absurd rfl (hr e n)
  |x b=>exact DM _ _ hr s
  |o b=>exact DM _ _ hr s
 refine⟨⟨λe n he=>?_,λb=>?_,λi=>?_,λr i hi=>?_,λi hi=>?_,hr.gx,rfl,hr.base,hr.bt⟩,by simp;omega⟩
 ·rw[DN]
  simp only[Nat.zero_le,true_and,Nat.zero_add,Nat.sub_zero]
  by_cases NO:e=d+1
  ·subst NO
   by_cases hnl:n<vs.length
   ·rw[if_pos ⟨rfl,hnl⟩]
    obtain⟨u,hu,pN⟩:=hv.get n vs[n] (List.getElem?_eq_getElem hnl)
    rw[List.getD_eq_getElem?_getD,List.getElem?_eq_getElem hnl]
    have:nW (nW up d a) (d+1) {tmps:=args.toArray++Array.replicate (nt-args.toArray.size) undef,defers:=[]} (d+1) n=u:=by
     simp only[nW,if_true]
     rw[Array.getD_eq_getD_getElem?,Array.getElem?_append_left (by simp;omega),List.getElem?_toArray,hu]
     rfl
    rw[this]
    exact pN
   ·rw[if_neg (by omega),DL,if_pos (Nat.le_refl _)]
    trivial
  ·rw[if_neg (by omega),DL,if_neg (by omega)]
   have:nW (nW up d a) (d+1) {tmps:=args.toArray++Array.replicate (nt-args.toArray.size) undef,defers:=[]} e n=nW up d a e n:=by
    show(if e=d+1 then _ else _)=_
    rw[if_neg NO]
   rw[this]
   exact hr.tm e n (by omega)
 ·rw[hg _ (by simp)];exact hr.bx b
 ·rw[hg _ (by simp)];exact hr.ob i
 ·rw[DN]at hi
  cases r with
  |t e n=>
   simp only[Nat.zero_le,true_and,Nat.zero_add,Nat.sub_zero]at hi
   split at hi
   ·rename_i hc
    rw[List.getD_eq_getElem?_getD,List.getElem?_eq_getElem hc.2]at hi
    exact hm _ (List.getElem_mem hc.2) i hi
   ·rw[DL]at hi
    split at hi
    ·simp[cT]at hi
    ·exact hr.fD _ i hi
  |x b=>
   simp only at hi
   exact hr.fD (.x b) i (by rwa[DM _ _ (by simp) s]at hi)
  |o b=>
   simp only at hi
   exact hr.fD (.o b) i (by rwa[DM _ _ (by simp) s]at hi)
 ·rw[hg _ (by simp),hg _ (by simp)]at hi;exact hr.key i hi
theorem Rel.Rz{a2:Act}{w2:World}{G2:Gh}{s2:St}{DJ:List T}(hd:a.defers=[])(hr:Rel M B (d+1) (nW up d a) s2 DJ G2 a2 w2):Rel M B d up (qK (d+1) s2) DJ G2 a w2:=by
 have hg:∀r,(∀e n,r≠.t e n)->(qK (d+1) s2).get r=s2.get r:=λr hr=>DM _ _ hr s2
 refine⟨λe n he=>?_,λb=>?_,λi=>?_,λr i hi=>?_,λi hi=>?_,hr.gx,hd,hr.base,hr.bt⟩
 ·rw[DL,if_neg (by omega)]
  have:=hr.tm e n (by omega)
  have e1:nW (nW up d a) (d+1) a2 e n=nW up d a e n:=by
   show(if e=d+1 then _ else _)=_
   rw[if_neg (by omega)]
  rw[e1]at this
  exact this
 ·rw[hg _ (by simp)];exact hr.bx b
 ·rw[hg _ (by simp)];exact hr.ob i
 ·cases r with
  |t e n=>
   rw[DL]at hi
   split at hi
   ·simp[cT]at hi
   ·exact hr.fD _ i hi
  |x b=>exact hr.fD (.x b) i (by rwa[hg _ (by simp)]at hi)
  |o b=>exact hr.fD (.o b) i (by rwa[hg _ (by simp)]at hi)
 ·rw[hg _ (by simp),hg _ (by simp)]at hi;exact hr.key i hi
theorem RA(E:Env P cx S)(sU:P.follows .mixedOrders=true):∀n,zX P S R out B (CH cx n)
 |0=>by intro f g vs lv s ct fs kk p K0 a w args Ψ h;cases h
 |n+1=>by
  intro f g vs lv s ct fs kk p Z a w args Ψ h bq hk
  simp only[CH,cm]at h
  obtain⟨fn,QM,c,hc,h⟩:=h
  obtain⟨hf,jI⟩:=E.cP g fn QM
  refine⟨jI,?_⟩
  cases hb:(Nat.ble vs.length fn.ntmps&&vD fn.ntmps c)with
  |false=>simp[hb]at h
  |true=>
   simp only[hb,cond_true]at h
   simp only[bA]at hb
   obtain⟨K,ρ,G,h1,h2,h3,h4,h5,h6,h7,h8,h9,lP⟩:=bq
   have hle:=Nat.le_of_ble_eq_true hb.1
   obtain⟨q1,q2⟩:=h7.enter h9 lP hle
   refine calls_of_wp hf hc ?_
   refine Rw (f:=⟨f.d+1,nW f.up f.d a,fn.ntmps⟩) E (RA E sU n) sU c 0 lv _ ct fs _ p _ w Z _ hb.2 h ⟨K,ρ,G,h1,h2,h3,h4,h5,h6,q1,q2,trivial⟩ λe=>?_
   have fin:∀(pO:Nat) (s':St) (gv:Ct) (iR:jt) (p':PL) (a2:Act) (w2:World),(Go.Proofs.YtjimmglpkndemaaGreatC.results cx (f.d+1) s' fn.results.toList).bind (λrs=>kk rs pO (qK (f.d+1) s') gv iR)=some p'->
     At S R out B ⟨f.d+1,nW f.up f.d a,fn.ntmps⟩ Z XT p' pO s' gv iR a2 w2->a2.defers=[]∧∃v,(Go.results fn a2.tmps).run P w2=.ok v w2∧∃v',Ending.returned v=.returned v'∧Ψ v' w2:=by
    rintro pO s' gv iR p' a2 w2 cJ ⟨K2,DJ,G2,g1,g2,g3,g4,g5,g6,g7,g8,_⟩
    rw[cm]at cJ
    obtain⟨rs,Iw,cJ⟩:=cJ
    obtain⟨us,u1,u2,u3⟩:=DK E.dC g7 Iw
    refine⟨g7.dn,mL us,Ry u1,mL us,rfl,?_⟩
    exact hk rs pO _ gv iR p' w2 us cJ ⟨K2,DJ,G2,g1,g2,g3,g4,g5,g6,g7.Rz h7.dn,h8,u2,u3⟩
   cases e with
   |normal=>intro pO s' gv iR p' a2 w2 cJ kW;exact fin pO s' gv iR p' a2 w2 cJ kW
   |ret=>intro pO s' gv iR p' a2 w2 cJ kW;exact fin pO s' gv iR p' a2 w2 cJ kW
   |exit id=>intro pO s' gv iR p' a2 w2 cJ kW;cases cJ
theorem RB{k:Wk}{c:Ce}{x:Lf}{v:Value}(hk:∀id,cA G w ρ id (k.get (.o id)))(h:k.plain c=some x)(hr:fH G w ρ c v):∃t,x.ev ρ=t∧eB G.q w t v:=by
 unfold Wk.plain at h
 split at h
 ·cases h;obtain⟨t,h1,h2⟩:=hr;exact⟨t,Lf.bG h1,h2⟩
 ·cases h
  have hv:v=.slice none 0 0:=hr
  subst hv
  exact⟨_,rfl,.nil⟩
 ·rename_i id
  split at h
  ·rename_i y hy
   cases h
   have dJ:=hk id
   rw[hy]at dJ
   obtain⟨t,h1,h2,_⟩:=dJ
   obtain⟨p,hp,hv⟩:=hr
   simp only[lO,bc]at hp
   subst hp
   exact⟨t,Lf.bG h1,by rw[hv];exact h2⟩
  ·cases h
 ·cases h
theorem RC{k:Wk}(hk:∀id,cA G w ρ id (k.get (.o id))):∀{cs:List Ce} {xs:List Lf} {vs:List Value},k.oP cs=some xs->aS G w ρ cs vs->ei G.q w (xs.map (Lf.ev ρ)) vs∧xs.length=cs.length
 | [],xs,vs,h,hr=>by
  simp[Wk.oP]at h
  subst h
  cases vs with
  |nil=>exact⟨trivial,rfl⟩
  |cons _ _=>exact hr.elim
 |c::cs,xs,[],h,hr=>hr.elim
 |c::cs,xs,v::vs,h,hr=>by
  simp only[Wk.oP,cm,bc]at h
  obtain⟨x,hx,ys,P7,rfl⟩:=h
  obtain⟨t,ht,hd⟩:=RB hk hx hr.1
  obtain⟨g1,g2⟩:=RC hk P7 hr.2
  exact⟨⟨by rw[ht];exact hd,g1⟩,by simp[g2]⟩
theorem z':∀{cs:List Ce} {ks:List Ck} {k k1:Wk} {xs:List Lf} {ids:List Nat} {vs:List Value},lG k cs ks=some (k1,xs,ids)->(∀id,cA G w ρ id (k.get (.o id)))->aS G w ρ cs vs->k1.bm S ρ->
  k.bm S ρ∧k.eO k1∧∃is,bR G w ks vs (xs.map (Lf.ev ρ)) is∧is.filterMap id=ids∧∀j,some j∈is->j%4≠2
 | [],[],k,k1,xs,ids,vs,h,hk,hr,hd=>by
  simp only[lG,bc,Prod.mk.injEq]at h
  obtain⟨rfl,rfl,rfl⟩:=h
  cases vs with
  |nil=>exact⟨hd,.refl _,[],trivial,rfl,λj hj=>by cases hj⟩
  |cons _ _=>exact hr.elim
 |c::cs,ck::ks,k,k1,xs,ids,[],h,hk,hr,hd=>hr.elim
 |c::cs,.p::ks,k,k1,xs,ids,v::vs,h,hk,hr,hd=>by
  have h':(k.plain c).bind (λx=>(lG k cs ks).bind λr=>some (r.1,x::r.2.1,r.2.2))=some (k1,xs,ids):=by
   cases c with
   |o id q=>cases q<;>exact h
   |p x=>exact h
   |n=>exact h
   |d=>exact h
  simp only[cm,bc,Prod.mk.injEq]at h'
  obtain⟨x,hx,⟨k2,ys,pZ⟩,h2,rfl,rfl,rfl⟩:=h'
  obtain⟨g1,g2,is,g3,g4,g5⟩:=z' h2 hk hr.2 hd
  obtain⟨t,ht,dK⟩:=RB hk hx hr.1
  exact⟨g1,g2,none::is,⟨rfl,by rw[ht];exact dK,g3⟩,by simpa using g4,λj hj=>g5 j (by simpa using hj)⟩
 | .p x::cs,.s::ks,k,k1,xs,ids,v::vs,h,hk,hr,hd=>by
  simp only[lG,cm,bc,Prod.mk.injEq]at h
  obtain⟨⟨k2,ys,pZ⟩,h2,rfl,rfl,rfl⟩:=h
  obtain⟨ov,r,pL,mZ⟩:=Wk.bK hd
  obtain⟨g1,g2,is,g3,g4,g5⟩:=z' h2 hk hr.2 ov
  obtain⟨t,ht,dK⟩:=hr.1
  simp only[List.map_cons,List.map_nil,Lf.bG ht,Prim.ev]at pL
  split at pL
  ·rename_i lR
   cases pL
   refine⟨g1,g2.trans (Wk.bB _ _ _),none::is,⟨rfl,?_,?_,g3⟩,by simpa using g4,λj hj=>g5 j (by simpa using hj)⟩
   ·rw[Lf.bG mZ];exact dK
   ·rw[Lf.bG mZ];exact lR
  ·cases pL
 | .n::cs,.o dp::ks,k,k1,xs,ids,v::vs,h,hk,hr,hd=>by
  simp only[lG,cm,bc,Prod.mk.injEq]at h
  obtain⟨⟨k2,ys,pZ⟩,h2,rfl,rfl,rfl⟩:=h
  obtain⟨g1,g2,is,g3,g4,g5⟩:=z' h2 hk hr.2 hd
  exact⟨g1,g2,none::is,⟨hr.1,rfl,g3⟩,by simpa using g4,λj hj=>g5 j (by simpa using hj)⟩
 | .o id []::cs,.o dp::ks,k,k1,xs,ids,v::vs,h,hk,hr,hd=>by
  simp only[lG]at h
  split at h
  ·rename_i tN x hx
   cases fA:(tN==dp&& !Nat.beq (id%4) 2)with
   |false=>simp[fA]at h
   |true=>
    simp only[fA,cond_true,cm,bc,Prod.mk.injEq]at h
    simp only[bA,beq_iff_eq,Bool.not_eq_true']at fA
    obtain⟨fA,zw⟩:=fA
    subst fA
    obtain⟨⟨k2,ys,pZ⟩,h2,rfl,rfl,rfl⟩:=h
    obtain⟨g1,g2,is,g3,g4,g5⟩:=z' h2 hk hr.2 hd
    have dJ:=hk id
    rw[hx]at dJ
    obtain⟨t,ht,bu⟩:=dJ
    obtain⟨p,hp,hv⟩:=hr.1
    simp only[lO,bc]at hp
    subst hp
    refine⟨g1,g2,some id::is,⟨hv,by rw[Lf.bG ht];exact bu,g3⟩,by simpa using g4,λj hj=>?_⟩
    rcases List.mem_cons.1 hj with hj|hj
    ·cases hj;intro e;rw[e]at zw;cases zw
    ·exact g5 j hj
  ·cases h
 | [],_::_,k,k1,xs,ids,vs,h,_,_,_=>by simp[lG]at h
 |c::_,[],k,k1,xs,ids,vs,h,_,_,_=>by simp[lG]at h
 | .p _::_,.o _::_,k,k1,xs,ids,_::_,h,_,_,_=>by simp[lG]at h
 | .n::_,.s::_,k,k1,xs,ids,_::_,h,_,_,_=>by simp[lG]at h
 | .d::_,.s::_,k,k1,xs,ids,_::_,h,_,_,_=>by simp[lG]at h
 | .d::_,.o _::_,k,k1,xs,ids,_::_,h,_,_,_=>by simp[lG]at h
 | .o _ _::_,.s::_,k,k1,xs,ids,_::_,h,_,_,_=>by simp[lG]at h
 | .o _ (_::_)::_,.o _::_,k,k1,xs,ids,_::_,h,_,_,_=>by simp[lG]at h
theorem RD:∀{cs:List Ce} {ks:List Ck} {k k1:Wk} {xs:List Lf} {ids:List Nat},lG k cs ks=some (k1,xs,ids)->k.eO k1
 | [],[],k,k1,xs,ids,h=>by
  simp only[lG,bc,Prod.mk.injEq]at h
  obtain⟨rfl,rfl,rfl⟩:=h
  exact .refl _
 |c::cs,.p::ks,k,k1,xs,ids,h=>by
  have h':(k.plain c).bind (λx=>(lG k cs ks).bind λr=>some (r.1,x::r.2.1,r.2.2))=some (k1,xs,ids):=by
   cases c with
   |o id q=>cases q<;>exact h
   |p x=>exact h
   |n=>exact h
   |d=>exact h
  simp only[cm,bc,Prod.mk.injEq]at h'
  obtain⟨x,hx,⟨k2,ys,pZ⟩,h2,rfl,rfl,rfl⟩:=h'
  exact RD h2
 | .p x::cs,.s::ks,k,k1,xs,ids,h=>by
  simp only[lG,cm,bc,Prod.mk.injEq]at h
  obtain⟨⟨k2,ys,pZ⟩,h2,rfl,rfl,rfl⟩:=h
  exact(RD h2).trans (Wk.bB _ _ _)
 | .n::cs,.o dp::ks,k,k1,xs,ids,h=>by
  simp only[lG,cm,bc,Prod.mk.injEq]at h
  obtain⟨⟨k2,ys,pZ⟩,h2,rfl,rfl,rfl⟩:=h
  exact RD h2
 | .o id []::cs,.o dp::ks,k,k1,xs,ids,h=>by
  simp only[lG]at h
  split at h
  ·rename_i tN x hx
   cases fA:(tN==dp&& !Nat.beq (id%4) 2)with
   |false=>simp[fA]at h
   |true=>
    simp only[fA,cond_true,cm,bc,Prod.mk.injEq]at h
    obtain⟨⟨k2,ys,pZ⟩,h2,rfl,rfl,rfl⟩:=h
    exact RD h2
  ·cases h
 | [],_::_,k,k1,xs,ids,h=>by simp[lG]at h
 |c::_,[],k,k1,xs,ids,h=>by simp[lG]at h
 | .p _::_,.o _::_,k,k1,xs,ids,h=>by simp[lG]at h
 | .n::_,.s::_,k,k1,xs,ids,h=>by simp[lG]at h
 | .d::_,.s::_,k,k1,xs,ids,h=>by simp[lG]at h
 | .d::_,.o _::_,k,k1,xs,ids,h=>by simp[lG]at h
 | .o _ _::_,.s::_,k,k1,xs,ids,h=>by simp[lG]at h
 | .o _ (_::_)::_,.o _::_,k,k1,xs,ids,h=>by simp[lG]at h
theorem I1:∀{vs:List SV} {rs:List (Bool×List Ck)} {k k1:Wk} {xs:List Lf} {ids:List Nat},lk k vs rs=some (k1,xs,ids)->k.eO k1
 | [],[],k,k1,xs,ids,h=>by
  simp only[lk,bc,Prod.mk.injEq]at h
  obtain⟨rfl,rfl,rfl⟩:=h
  exact .refl _
 | .v ag cs::vs,(vC,ks)::rs,k,k1,xs,ids,h=>by
  simp only[lk]at h
  cases m0:(ag==vC)with
  |false=>simp[m0]at h
  |true=>
   simp only[m0,cond_true,cm,bc,Prod.mk.injEq]at h
   obtain⟨⟨k2,ys,pZ⟩,h2,⟨k3,zs,RE⟩,h3,rfl,rfl,rfl⟩:=h
   exact(I1 h2).trans (RD h3)
 | [],_::_,k,k1,xs,ids,h=>by simp[lk]at h
 |v::_,[],k,k1,xs,ids,h=>by cases v<;>simp[lk]at h
 | .un::_,_::_,k,k1,xs,ids,h=>by simp[lk]at h
 | .pt _ _::_,_::_,k,k1,xs,ids,h=>by simp[lk]at h
 | .ep _ _ _ _ _::_,_::_,k,k1,xs,ids,h=>by simp[lk]at h
 | .fp _ _ _ _::_,_::_,k,k1,xs,ids,h=>by simp[lk]at h
 | .tp _::_,_::_,k,k1,xs,ids,h=>by simp[lk]at h
 | .cl _ _::_,_::_,k,k1,xs,ids,h=>by simp[lk]at h
 | .ob _ _::_,_::_,k,k1,xs,ids,h=>by simp[lk]at h
 | .fz _ _::_,_::_,k,k1,xs,ids,h=>by simp[lk]at h
 | .tk _ _::_,_::_,k,k1,xs,ids,h=>by simp[lk]at h
 | .fl _::_,_::_,k,k1,xs,ids,h=>by simp[lk]at h
 | .fr _::_,_::_,k,k1,xs,ids,h=>by simp[lk]at h
theorem RF:∀{vs:List SV} {rs:List (Bool×List Ck)} {k k1:Wk} {xs:List Lf} {ids:List Nat} {us:List Value},lk k vs rs=some (k1,xs,ids)->(∀id,cA G w ρ id (k.get (.o id)))->cO G w ρ vs us->k1.bm S ρ->
  k.bm S ρ∧k.eO k1∧∃is,iI G w rs us (xs.map (Lf.ev ρ)) is∧is.filterMap id=ids∧∀j,some j∈is->j%4≠2
 | [],[],k,k1,xs,ids,us,h,hk,hr,hd=>by
  simp only[lk,bc,Prod.mk.injEq]at h
  obtain⟨rfl,rfl,rfl⟩:=h
  cases us with
  |nil=>exact⟨hd,.refl _,[],trivial,rfl,λj hj=>by cases hj⟩
  |cons _ _=>exact hr.elim
 | .v ag cs::vs,(vC,ks)::rs,k,k1,xs,ids,[],h,hk,hr,hd=>hr.elim
 | .v ag cs::vs,(vC,ks)::rs,k,k1,xs,ids,u::us,h,hk,hr,hd=>by
  simp only[lk]at h
  cases m0:(ag==vC)with
  |false=>simp[m0]at h
  |true=>
   simp only[m0,cond_true,cm,bc,Prod.mk.injEq]at h
   simp only[beq_iff_eq]at m0
   subst m0
   obtain⟨⟨k2,ys,pZ⟩,h2,⟨k3,zs,RE⟩,h3,rfl,rfl,rfl⟩:=h
   have h0:=hr.1
   have key:∀ws:List Value,aS G w ρ cs ws->(∀is,bR G w ks ws (zs.map (Lf.ev ρ)) is->Qo G w (ag,ks) u (zs.map (Lf.ev ρ)) is)->
     k.bm S ρ∧k.eO k3∧∃is,iI G w ((ag,ks)::rs) (u::us) ((zs++ys).map (Lf.ev ρ)) is∧is.filterMap id=RE++pZ∧∀j,some j∈is->j%4≠2:=by
    intro ws hws aeF
    have sM:∀{k':Wk},k.eO k'->∀id,cA G w ρ id (k'.get (.o id)):=λhs id=>by rw[hs.get];exact hk id
    have pre:k.eO k2:=I1 h2
    obtain⟨g1,g2,is,g3,g4,g5⟩:=z' h3 (sM pre) hws hd
    obtain⟨f1,f2,is2,f3,f4,f5⟩:=RF h2 hk hr.2 g1
    exact⟨f1,f2.trans g2,is++is2,⟨_,_,is,is2,List.map_append,rfl,aeF is g3,f3⟩,by rw[List.filterMap_append,g4,f4],λj hj=>(List.mem_append.1 hj).elim (g5 j) (f5 j)⟩
   cases ag with
   |true=>obtain⟨ws,rfl,hws⟩:=h0;exact key ws hws λis ho=>⟨ws,rfl,ho⟩
   |false=>obtain⟨c,rfl,hc,CV⟩:=h0;exact key [u] ⟨hc,trivial⟩ λis ho=>⟨ho,CV⟩
 | [],_::_,k,k1,xs,ids,us,h,_,_,_=>by simp[lk]at h
 |v::_,[],k,k1,xs,ids,us,h,_,_,_=>by cases v<;>simp[lk]at h
 | .un::_,_::_,k,k1,xs,ids,us,h,_,_,_=>by simp[lk]at h
 | .pt _ _::_,_::_,k,k1,xs,ids,us,h,_,_,_=>by simp[lk]at h
 | .ep _ _ _ _ _::_,_::_,k,k1,xs,ids,us,h,_,_,_=>by simp[lk]at h
 | .fp _ _ _ _::_,_::_,k,k1,xs,ids,us,h,_,_,_=>by simp[lk]at h
 | .tp _::_,_::_,k,k1,xs,ids,us,h,_,_,_=>by simp[lk]at h
 | .cl _ _::_,_::_,k,k1,xs,ids,us,h,_,_,_=>by simp[lk]at h
 | .ob _ _::_,_::_,k,k1,xs,ids,us,h,_,_,_=>by simp[lk]at h
 | .fz _ _::_,_::_,k,k1,xs,ids,us,h,_,_,_=>by simp[lk]at h
 | .tk _ _::_,_::_,k,k1,xs,ids,us,h,_,_,_=>by simp[lk]at h
 | .fl _::_,_::_,k,k1,xs,ids,us,h,_,_,_=>by simp[lk]at h
 | .fr _::_,_::_,k,k1,xs,ids,us,h,_,_,_=>by simp[lk]at h
end
section
variable {ρ:List T} {w:World} {S:Nat->af} {P:Program} {cx:Cx} {R:Nat} {out:List T}
def Gh.Gs(ω:Nat->Option Lb)(bl:Nat->Option Nat):Gh where
 ω:=ω
 β:=λi=>(bl i).getD 0
 H:=λ_ _=>.slice none 0 0
 hs:=λ_ _=>⟨_,_,_,rfl⟩
theorem I2{mY:Nat->Option Lb}{bl:Nat->Option Nat}:∀{ps:List PS} {args:List Value} {ts:List T} {i a:Nat},xb mY w bl i ps args ts->(∀j t,ts[j]?=some t->ρ[a+j]?=some t)->
  (tP a i ps).1=a+ts.length∧args.length=ps.length∧(∀n,(∃m,ps[n]?=some (.x m))->bl (i+n)≠none)∧
  ∀r v,(r,v)∈(tP a i ps).2->(∃n c,r=.t 0 (i+n)∧n<ps.length∧args[n]?=some c∧cz (Gh.Gs mY bl) w ρ v c∧∀j∈cT v,j<i+ps.length)∨
   (∃b,r=.x b∧b<i+ps.length∧fC (Gh.Gs mY bl) w ρ b v∧cT v=[])
 | [],args,ts,i,a,h,mA=>by
  obtain⟨rfl,rfl⟩:=h
  exact⟨rfl,rfl,λn ⟨m,hm⟩=>by simp at hm,λr v hm=>by simp[tP]at hm⟩
 | .v ag n::ps,args,ts,i,a,h,mA=>by
  obtain⟨c,eR,vs,t1,t2,rfl,rfl,hl,m0,hd,h⟩:=h
  obtain⟨g1,g2,g3,g4⟩:=I2 (i:=i+1) (a:=a+n) h (λj t hj=>by
   have:=mA (n+j) t (by rw[List.getElem?_append_right (by omega),hl];simpa using hj)
   rw[<-this];congr 1;omega)
  obtain⟨r1,r2⟩:=Dn (a:=a) (G:=Gh.Gs mY bl) hl (hd.aU (Nat.le_refl _) λb _ hb=>⟨wN hb,rfl⟩) (λj t hj=>mA j t (by rw[List.getElem?_append_left (List.getElem?_eq_some_iff.1 hj).1];exact hj))
  refine⟨by simp only[tP,List.length_append];omega,by simp[g2],λn' ⟨m,hm⟩=>?_,λr v hm=>?_⟩
  ·cases n' with
   |zero=>simp at hm
   |succ n'=>have:=g3 n' ⟨m,by simpa using hm⟩;rwa[show i+1+n'=i+(n'+1) by omega]at this
  ·simp only[tP,List.mem_cons,Prod.mk.injEq]at hm
   simp only[List.length_cons]
   rcases hm with⟨rfl,rfl⟩|hm
   ·left
    refine⟨0,c,by simp,by omega,rfl,?_,λj hj=>by rw[show cT (.v ag (Bw a n))=dt (Bw a n) from rfl,r2]at hj;cases hj⟩
    cases ag with
    |true=>exact⟨vs,m0,r1⟩
    |false=>
     obtain⟨rfl,CV⟩:=m0
     match h0:Bw a n,r1 with
     | [x],r1=>exact⟨x,h0.symm▸h0,r1.1,CV⟩
   ·rcases g4 r v hm with⟨n',c',e1,e2,e3,e4,e5⟩|⟨b,e1,e2,e3,e4⟩
    ·exact .inl ⟨n'+1,c',by rw[e1];congr 1;omega,by omega,by simpa using e3,e4,λj hj=>by have:=e5 j hj;omega⟩
    ·exact .inr ⟨b,e1,by omega,e3,e4⟩
 | .x n::ps,args,ts,i,a,h,mA=>by
  obtain⟨c,eR,b,bE,elem,t1,t2,rfl,hc,hb,gj,hh,rfl,hl,hd,h⟩:=h
  obtain⟨g1,g2,g3,g4⟩:=I2 (i:=i+1) (a:=a+n) h (λj t hj=>by
   have:=mA (n+j) t (by rw[List.getElem?_append_right (by omega),hl];simpa using hj)
   rw[<-this];congr 1;omega)
  obtain⟨r1,r2⟩:=Dn (a:=a) (G:=Gh.Gs mY bl) hl (hd.aU (Nat.le_refl _) λb _ hb=>⟨wN hb,rfl⟩) (λj t hj=>mA j t (by rw[List.getElem?_append_left (List.getElem?_eq_some_iff.1 hj).1];exact hj))
  have CP:(Gh.Gs mY bl).β i=b:=by simp[Gh.Gs,hb]
  refine⟨by simp only[tP,List.length_append];omega,by simp[g2],λn' ⟨m,hm⟩=>?_,λr v hm=>?_⟩
  ·cases n' with
   |zero=>rw[Nat.add_zero,hb];simp
   |succ n'=>have:=g3 n' ⟨m,by simpa using hm⟩;rwa[show i+1+n'=i+(n'+1) by omega]at this
  ·simp only[tP,List.mem_cons,Prod.mk.injEq]at hm
   simp only[List.length_cons]
   rcases hm with⟨rfl,rfl⟩|⟨rfl,rfl⟩|hm
   ·exact .inl ⟨0,c,by simp,by omega,rfl,by rw[cz,CP];exact hc,λj hj=>by simp[cT]at hj;omega⟩
   ·exact .inr ⟨i,rfl,by omega,⟨by rw[CP];exact gj,bE,elem,by rw[CP];exact hh,r1⟩,r2⟩
   ·rcases g4 r v hm with⟨n',c',e1,e2,e3,e4,e5⟩|⟨b,e1,e2,e3,e4⟩
    ·exact .inl ⟨n'+1,c',by rw[e1];congr 1;omega,by omega,by simpa using e3,e4,λj hj=>by have:=e5 j hj;omega⟩
    ·exact .inr ⟨b,e1,by omega,e3,e4⟩
theorem I3{G:Gh}{bl:Nat->Option Nat}{k:Wk}(hk:∀id,cA G w ρ id (k.get (.o id)))(hx:∀b,fC G w ρ b (k.get (.x b)))(yf:∀i b,bl i=some b->G.β i=b):
  ∀{ps:List PS} {i:Nat} {xs:List Lf},wM k i ps=some xs->(∀n,(∃m,ps[n]?=some (.x m))->bl (i+n)≠none)->gY G w bl i ps (xs.map (Lf.ev ρ))
 | [],i,xs,h,_=>by simp[wM]at h;subst h;rfl
 | .v _ _::ps,i,xs,h,hn=>I3 (ps:=ps) (i:=i+1) hk hx yf h λn ⟨m,hm⟩=>by have:=hn (n+1) ⟨m,by simpa using hm⟩;rwa[show i+1+n=i+(n+1) by omega]
 | .x n::ps,i,xs,h,hn=>by
  simp only[wM]at h
  split at h
  ·rename_i ag cs jW
   cases hb:Nat.beq cs.length n with
   |false=>simp[hb]at h
   |true=>
    simp only[hb,cond_true,cm,bc]at h
    obtain⟨x1,h1,x2,h2,rfl⟩:=h
    have o8:=hx i
    rw[jW]at o8
    obtain⟨g1,bE,elem,g2,g3⟩:=o8
    obtain⟨f1,f2⟩:=RC hk h1 g3
    cases hbi:bl i with
    |none=>exact absurd hbi (by have:=hn 0 ⟨n,rfl⟩;simpa using this)
    |some b=>
     have CP:=yf i b hbi
     rw[CP]at g1 g2
     exact⟨b,bE,elem,_,_,hbi,g1,g2,List.map_append,by rw[List.length_map,f2];exact du hb,f1,
      I3 hk hx yf h2 λn ⟨m,hm⟩=>by have:=hn (n+1) ⟨m,by simpa using hm⟩;rwa[show i+1+n=i+(n+1) by omega]⟩
  ·cases h
theorem iI.len{G':Gh}{w':World}:∀{rs:List (Bool×List Ck)} {vs:List Value} {ts:List T} {is:List (Option Nat)},iI G' w' rs vs ts is->rs.length=vs.length
 | [],[],[],[],_=>rfl
 |r::rs,v::vs,ts,is,h=>by
  obtain⟨t1,t2,i1,i2,rfl,rfl,h1,h2⟩:=h
  simp[iI.len h2]
 | [],[],_::_,_,h=>h.elim
 | [],[],[],_::_,h=>h.elim
 | [],_::_,_,_,h=>h.elim
 |_::_,[],_,_,h=>h.elim
theorem RG{G':Gh}{w':World}{rs:List (Bool×List Ck)}{vs:List Value}{ts:List T}{is:List (Option Nat)}(h:iI G' w' rs vs ts is):Im G' w' rs (mL vs) ts is:=by
 have hl:=h.len
 match rs,vs,h,hl with
 | [],[],h,_=>
  cases ts with
  |nil=>cases is with
   |nil=>exact⟨rfl,rfl⟩
   |cons _ _=>exact h.elim
  |cons _ _=>exact h.elim
 | [r],[v],h,_=>exact h
 |r::r'::rs,v::v'::vs,h,_=>
  refine⟨v::v'::vs,?_,h⟩
  unfold mL
  rw[dif_neg (by simp)]
theorem cO.ext{G:Gh}{e:List T}:∀{vs:List SV} {us:List Value},cO G w ρ vs us->cO G w (ρ++e) vs us
 | [],[],_=>trivial
 |_::_,_::_,h=>⟨h.1.ext,cO.ext h.2⟩
 | [],_::_,h=>h.elim
 |_::_,[],h=>h.elim
def Gh.gb(G:Gh):Gh:={G with ω:=G.q}
theorem Gh.mM(G:Gh):G.gb.q=G.q:=by
 funext b
 show qf (qf G.ω) b=qf G.ω b
 unfold qf
 cases hb:G.ω b with
 |none=>rfl
 |some l=>cases hq:qt l<;>simp[hq]
theorem aeH{sg:mV}(h:CK sg=true)(hp:oO sg=true):∀r∈sg.rs,∀k∈r.2,k≠.o true:=by
 intro r hr k hk e
 subst e
 simp only[CK,hp,Bool.true_and,Bool.not_eq_true']at h
 have h1:=List.any_eq_false.1 h r hr
 exact absurd (List.any_eq_true.2 ⟨Ck.o true,hk,rfl⟩) h1
theorem bR.gb{G:Gh}:∀{ks:List Ck} {vs:List Value} {ts:List T} {is:List (Option Nat)},bR G w ks vs ts is->(∀k∈ks,k≠.o true)->(∀j,some j∈is->j%4≠2)->bR G.gb w ks vs ts is
 | [],[],[],[],_,_,_=>trivial
 | .s::ks,v::vs,t::ts,x::is,h,hk,h2=>⟨h.1,by rw[Gh.mM];exact h.2.1,h.2.2.1,bR.gb h.2.2.2 (λk hm=>hk k (by simp[hm])) λj hj=>h2 j (by simp[hj])⟩
 | .p::ks,v::vs,t::ts,x::is,h,hk,h2=>⟨h.1,by rw[Gh.mM];exact h.2.1,bR.gb h.2.2 (λk hm=>hk k (by simp[hm])) λj hj=>h2 j (by simp[hj])⟩
 | .o dp::ks,v::vs,t::ts,none::is,h,hk,h2=>⟨h.1,h.2.1,bR.gb h.2.2 (λk hm=>hk k (by simp[hm])) λj hj=>h2 j (by simp[hj])⟩
 | .o true::ks,v::vs,t::ts,some id::is,h,hk,h2=>absurd rfl (hk _ (by simp))
 | .o false::ks,v::vs,t::ts,some id::is,h,hk,h2=>
  ⟨h.1,h.2.1.o9 (λc hc=>y_ hc (CM (h2 id (by simp)))) rfl (λb hb=>by rw[Gh.mM];exact hb),bR.gb h.2.2 (λk hm=>hk k (by simp[hm])) λj hj=>h2 j (by simp[hj])⟩
 | [],[],[],_::_,h,_,_=>h.elim
 | [],[],_::_,_,h,_,_=>h.elim
 | [],_::_,_,_,h,_,_=>h.elim
 |k::_,[],_,_,h,_,_=>by cases k<;>exact h.elim
 |k::_,_::_,[],_,h,_,_=>by cases k<;>exact h.elim
 |k::_,_::_,_::_,[],h,_,_=>by cases k<;>exact h.elim
theorem iI.gb{G:Gh}:∀{rs:List (Bool×List Ck)} {vs:List Value} {ts:List T} {is:List (Option Nat)},iI G w rs vs ts is->(∀r∈rs,∀k∈r.2,k≠.o true)->(∀j,some j∈is->j%4≠2)->iI G.gb w rs vs ts is
 | [],[],[],[],_,_,_=>trivial
 |(ag,ks)::rs,v::vs,ts,is,h,hk,h2=>by
  obtain⟨t1,t2,i1,i2,rfl,rfl,h1,h3⟩:=h
  refine⟨t1,t2,i1,i2,rfl,rfl,?_,iI.gb h3 (λr hr=>hk r (by simp[hr])) λj hj=>h2 j (by simp[hj])⟩
  have h20:∀j,some j∈i1->j%4≠2:=λj hj=>h2 j (by simp[hj])
  have h0:=hk (ag,ks) (by simp)
  cases ag with
  |true=>obtain⟨us,e,h3⟩:=h1;exact⟨us,e,h3.gb h0 h20⟩
  |false=>exact⟨h1.1.gb h0 h20,h1.2⟩
 | [],[],_::_,_,h,_,_=>h.elim
 | [],[],[],_::_,h,_,_=>h.elim
 | [],_::_,_,_,h,_,_=>h.elim
 |_::_,[],_,_,h,_,_=>h.elim
theorem gY.gb{G:Gh}{bl:Nat->Option Nat}:∀{ps:List PS} {i:Nat} {ts:List T},gY G w bl i ps ts->gY G.gb w bl i ps ts
 | [],i,ts,h=>h
 | .v _ _::ps,i,ts,h=>gY.gb (ps:=ps) (i:=i+1) h
 | .x n::ps,i,ts,h=>by
  obtain⟨b,bE,elem,t1,t2,h1,h2,h3,h4,h5,h6,h7⟩:=h
  exact⟨b,bE,elem,t1,t2,h1,y_ h2 rfl,h3,h4,h5,by rw[Gh.mM];exact h6,gY.gb h7⟩
theorem RH{n cw:Nat}{fn:Func}{sg:mV}{pl:PL}(E:Env P cx S)(sU:P.follows .mixedOrders=true)(hf:P.funcs[cw]?=some fn)(h:yZ cx n cw fn sg=some pl):
  Dk P sg cw λts=>pl.den S R [] ts:=by
 intro w mY bl args ts outs hF cf jI
 unfold yZ at h
 simp only[cm]at h
 obtain⟨c,hc,h⟩:=h
 cases hb:(vD fn.ntmps c&&Nat.ble sg.ps.length fn.ntmps&&CK sg)with
 |false=>simp[hb]at h
 |true=>
  simp only[hb,cond_true]at h
  simp only[bA]at hb
  obtain⟨hb,aeI⟩:=hb
  have kV:=Nat.le_of_ble_eq_true hb.2
  obtain⟨g1,g2,g3,g4⟩:=I2 (ρ:=ts) (i:=0) (a:=0) jI (λj t hj=>by rw[Nat.zero_add];exact hj)
  simp only[Nat.zero_add]at g1 g3 g4
  have qv:∀r,(tP 0 0 sg.ps).2.get r=.un∨(r,(tP 0 0 sg.ps).2.get r)∈(tP 0 0 sg.ps).2:=by
   intro r
   rw[St.sE]
   cases hl:(tP 0 0 sg.ps).2.look r with
   |none=>exact .inl rfl
   |some v=>exact .inr (Dl hl)
  refine calls_of_wp hf hc ?_
  have gn:(args.toArray++Array.replicate (fn.ntmps-args.toArray.size) undef:Array Value).size=fn.ntmps:=by simp;omega
  have jg:Rel (λi=>i<sg.ps.length+1) ⟨w,mY,bl⟩ 0 (λ_ _=>undef) (tP 0 0 sg.ps).2 ts (Gh.Gs mY bl) {tmps:=args.toArray++Array.replicate (fn.ntmps-args.toArray.size) undef,defers:=[]} w:=by
   refine⟨λe m he=>?_,λb=>?_,λi=>?_,λr i hi=>?_,λi hi=>?_,λb l hb=>?_,rfl,⟨rfl,rfl,rfl,Nat.le_refl _,λb _ hb=>⟨hb,rfl⟩,λb hb=>⟨hb,rfl⟩,cf.gl⟩,λi b hb=>⟨by have:=(cf.bl i b hb).1;omega,by show(bl i).getD 0=b;rw[show bl i=some b from hb];rfl⟩⟩
   ·obtain rfl:e=0:=by omega
    rcases qv (.t 0 m)with hu|hm
    ·rw[hu];trivial
    ·rcases g4 _ _ hm with⟨k,c',e1,e2,e3,e4,_⟩|⟨b,e1,_⟩
     ·cases e1
      simp only[nW,if_true]
      rw[Array.getD_eq_getD_getElem?,Array.getElem?_append_left (by simp;omega),List.getElem?_toArray,e3]
      exact e4
     ·cases e1
   ·rcases qv (.x b)with hu|hm
    ·rw[hu];trivial
    ·rcases g4 _ _ hm with⟨k,c',e1,_⟩|⟨b',e1,_,e2,_⟩
     ·cases e1
     ·cases e1;exact e2
   ·rcases qv (.o i)with hu|hm
    ·rw[hu];trivial
    ·rcases g4 _ _ hm with⟨k,c',e1,_⟩|⟨b',e1,_⟩<;>cases e1
   ·rcases qv r with hu|hm
    ·rw[hu]at hi;simp[cT]at hi
    ·rcases g4 _ _ hm with⟨k,c',_,_,_,_,e5⟩|⟨b',_,_,_,e4⟩
     ·have:=e5 i hi;omega
     ·rw[e4]at hi;cases hi
   ·rcases hi with hi|hi
    ·rcases qv (.x i)with hu|hm
     ·exact absurd hu hi
     ·rcases g4 _ _ hm with⟨k,c',e1,_⟩|⟨b',e1,e2,_⟩
      ·cases e1
      ·cases e1;omega
    ·rcases qv (.o i)with hu|hm
     ·exact absurd hu hi
     ·rcases g4 _ _ hm with⟨k,c',e1,_⟩|⟨b',e1,_⟩<;>cases e1
   ·obtain⟨q1,q2⟩:=cf.gx b l hb
    refine⟨?_,q1⟩
    rcases q2 with rfl|⟨i,rfl,hi⟩
    ·show 0<sg.ps.length+1;omega
    ·have:=(cf.bl i b hi).1;show i<_;omega
  refine Rw (f:=⟨0,λ_ _=>undef,fn.ntmps⟩) (R:=R) (out:=outs) (B:=⟨w,mY,bl⟩) E (RA E sU n) sU c 0 0 _ ⟨(tP 0 0 sg.ps).1,sg.ps.length+1⟩ [] _ pl _ w ⟨[],ts⟩ _ hb.1 h
   ⟨[],ts,Gh.Gs mY bl,hF,rfl,⟨[],rfl⟩,⟨[],by simp⟩,g1.symm,λn b hn=>by simp[fact]at hn,jg,gn,trivial⟩ λe=>?_
  have fin:∀(pO:Nat) (s':St) (gv:Ct) (iR:jt) (p':PL) (a2:Act) (w2:World),Hx cx fn sg pO s' gv iR=some p'->At S R outs ⟨w,mY,bl⟩ ⟨0,λ_ _=>undef,fn.ntmps⟩ ⟨[],ts⟩ XT p' pO s' gv iR a2 w2->
    a2.defers=[]∧∃v,(Go.results fn a2.tmps).run P w2=.ok v w2∧∃v' G is o1 o2,Ending.returned v=.returned v'∧Qp sg w mY bl outs v' w2 G is o1 o2:=by
   rintro pO s' gv iR p' a2 w2 hk ⟨K2,DJ,G2,d1,d2,d3,d4,d5,d6,d7,d8,_⟩
   unfold Hx at hk
   rw[cm]at hk
   obtain⟨vs,oA,hk⟩:=hk
   obtain⟨us,u1,u2,u3⟩:=DK E.dC d7 oA
   refine⟨d7.dn,mL us,Ry u1,?_⟩
   simp only at hk
   split at hk
   ·cases hk;cases d1
   ·rename_i k xs ids Ia
    split at hk
    ·cases hk;cases d1
    ·rename_i ys P7
     cases BP:ur ids with
     |false=>rw[BP]at hk;simp only[cond_false,bc]at hk;subst hk;cases d1
     |true=>
      rw[BP]at hk
      simp only[cond_true]at hk
      cases RI:(Nat.beq k.ct.a (gv.a+pJ k.is)&&qJ k.ct.a k.is)with
      |false=>rw[RI]at hk;cases hk
      |true=>
       rw[RI]at hk
       simp only[cond_true,bc]at hk
       subst hk
       simp only[bA]at RI
       have hca:=du RI.1
       obtain⟨tz,w1,w3,w4⟩:=Dr (S:=S) (R:=R) (K:=K2) (out:=outs) (ρ:=DJ) (by rw[d5,<-hca];exact RI.2) d1
       have RJ:k.bm S (DJ++tz):=by
        have:=w4 []
        rw[List.append_nil,d5,<-hca]at this
        exact this
       obtain⟨G3,d9,RK⟩:=(d7.ext (e:=tz)).z9 (l:=CJ vs sg.rs++yY s' 0 sg.ps)
       have RL:cO G3 w2 (DJ++tz) vs us:=cO.aU (RK.aU w2) (cO.ext u2)
       have hg:∀r,k.get r=(sy s' (CJ vs sg.rs++yY s' 0 sg.ps)).get r:=λr=>(I1 Ia).get r
       obtain⟨_,_,is,v3,v4,v5⟩:=RF Ia (λid=>d9.ob id) RL RJ
       simp only[PL.den,bc,List.map_append]at w3
       have hbo:=I3 (k:=k) (λid=>by rw[hg];exact d9.ob id) (λb=>by rw[hg];exact d9.bx b) (λi b hb=>(d9.bt i b hb).2) P7 λn hn=>by rw[Nat.zero_add];exact g3 n hn
       have RM:(is.filterMap id).Nodup:=by rw[v4];exact Ir BP
       cases hp:oO sg with
       |false=>exact⟨mL us,G3,is,_,_,rfl,⟨⟨d9.base.os,d9.base.tape,d9.base.output⟩,d9.base.size,d9.base.free,d9.base.Bz,λb l hb=>(d9.gx b l hb).2,λhq=>absurd (hp.symm.trans hq) (by simp),w3.symm,RM,RG v3,hbo⟩⟩
       |true=>
        refine⟨mL us,G3.gb,is,_,_,rfl,⟨⟨d9.base.os,d9.base.tape,d9.base.output⟩,d9.base.size,λb hb h0=>⟨wN (d9.base.free b hb h0).1,(d9.base.free b hb h0).2⟩,λb hb=>⟨y_ (d9.base.Bz b hb).1 rfl,(d9.base.Bz b hb).2⟩,
         λb l hb=>(d9.gx b l (Hz hb)).2,λ_ b hb=>by rw[Gh.mM]at hb;exact hb,w3.symm,RM,RG (v3.gb (aeH aeI hp) v5),hbo.gb⟩⟩
  cases e with
  |normal=>intro pO s' gv iR p' a2 w2 cJ kW;exact fin pO s' gv iR p' a2 w2 cJ kW
  |ret=>intro pO s' gv iR p' a2 w2 cJ kW;exact fin pO s' gv iR p' a2 w2 cJ kW
  |exit id=>intro pO s' gv iR p' a2 w2 cJ kW;cases cJ
end
def pick(l:List (Nat×af))(g:Nat):af:=
 match l with
 | []=>λ_=>none
 |e::l=>bif Nat.beq e.1 g then e.2 else pick l g
def Q(p:Prim)(l:List Lf)(r:PL):PL:=.ins (.pr p l) r
def I(n:Int):Lf:=.k (.int .i64 n)
instance Lfn {n:Nat}:OfNat Lf n:=⟨.a n⟩
def Qz(l:List Lf)(r:PL):PL:=.ins (.pr (.bM) l) r
def Qa(l:List Lf)(r:PL):PL:=.ins (.pr (.bin .add) l) r
def Qb(l:List Lf)(r:PL):PL:=.ins (.pr (.de) l) r
def Ql(l:List Lf)(r:PL):PL:=.ins (.pr (.bin .lss) l) r
def Qe(l:List Lf)(r:PL):PL:=.ins (.pr (.bin .eql) l) r
def Qn(l:List Lf)(r:PL):PL:=.ins (.pr (.len) l) r
def Qt(l:List Lf)(r:PL):PL:=.ins (.pr (.un .not) l) r
def Qu(l:List Lf)(r:PL):PL:=.ins (.pr (.bin .neq) l) r
def Qi(g:Nat)(l:List Lf)(m:Nat)(r:PL):PL:=.ins (.cl g l m) r
def Fs(p:PL)(l:List (Nat×af)):af:=λts=>p.den (pick l) rounds [] ts
inductive Ty where
 |i (k:IntKind)
 |b
 |s
 |sl (fs:List Ty)
mutual
def WT:Ty->T->Prop
 | .i k,t=>∃n,t=.c (.int k n)∧(Lit.int k n).wf=true
 | .b,t=>∃b,t=.c (.bool b)
 | .s,t=>∃s:ByteArray,t=.c (.string s)∧s.size<=maxLen
 | .sl fs,t=>∃xs,t=.l xs∧xs.length<=maxLen∧∀r∈xs,dG fs r
def dG:List Ty->List T->Prop
 | [],ts=>ts=[]
 |f::fs,ts=>∃t lU,ts=t::lU∧WT f t∧dG fs lU
end
def ij:List Ty->List T->Prop
 | [],ts=>ts=[]
 |f::fs,ts=>∃t lU,ts=t::lU∧(match f with
  | .i k=>∃n,t=.c (.int k n)∧(Lit.int k n).wf=true
  | .b=>∃b,t=.c (.bool b)
  | .s=>∃s:ByteArray,t=.c (.string s)∧s.size<=maxLen
  | .sl gs=>WT (.sl gs) t)∧ij fs lU
theorem r_:∀{fs:List Ty} {ts:List T},dG fs ts->ij fs ts
 | [],ts,h=>by unfold dG at h;exact h
 |f::fs,ts,h=>by
  unfold dG at h
  obtain⟨t,lU,rfl,h1,h2⟩:=h
  refine⟨t,lU,rfl,?_,r_ h2⟩
  cases f with
  |i k=>unfold WT at h1;exact h1
  |b=>unfold WT at h1;exact h1
  |s=>unfold WT at h1;exact h1
  |sl gs=>exact h1
theorem lV:∀{fs:List Ty} {ts:List T},ij fs ts->dG fs ts
 | [],ts,h=>by unfold dG;exact h
 |f::fs,ts,h=>by
  obtain⟨t,lU,rfl,h1,h2⟩:=h
  unfold dG
  refine⟨t,lU,rfl,?_,lV h2⟩
  cases f with
  |i k=>unfold WT;exact h1
  |b=>unfold WT;exact h1
  |s=>unfold WT;exact h1
  |sl gs=>exact h1
theorem dG.append:∀{fs gs:List Ty} {ts us:List T},dG fs ts->dG gs us->dG (fs++gs) (ts++us)
 | [],gs,ts,us,h,h'=>by
  unfold dG at h
  subst h
  exact h'
 |f::fs,gs,ts,us,h,h'=>by
  unfold dG at h
  obtain⟨t,lU,rfl,h1,h2⟩:=h
  show dG (f::(fs++gs)) (t::(lU++us))
  unfold dG
  exact⟨t,_,rfl,h1,h2.append h'⟩
theorem dG.length:∀{fs:List Ty} {ts:List T},dG fs ts->ts.length=fs.length
 | [],ts,h=>by
  unfold dG at h
  subst h
  rfl
 |f::fs,ts,h=>by
  unfold dG at h
  obtain⟨t,lU,rfl,h1,h2⟩:=h
  simp[h2.length]
mutual
def bulk:T->Nat
 | .c (.string s)=>s.size
 | .c _=>0
 | .l xs=>iP xs
def kt:List T->Nat
 | []=>0
 |t::ts=>bulk t+kt ts
def iP:List (List T)->Nat
 | []=>0
 |r::rs=>1+(kt r+iP rs)
end
theorem NT:∀(xs:List (List T)),xs.length<=iP xs
 | []=>by simp[iP]
 |r::rs=>by have:=NT rs;simp[iP];omega
theorem RN:∀{xs:List (List T)} {i:Nat} {r:List T},xs[i]?=some r->kt r+1<=iP xs
 | [],_,_,h=>by simp at h
 |r'::rs,0,r,h=>by simp at h;subst h;simp[iP];omega
 |r'::rs,i+1,r,h=>by
  have:=RN (xs:=rs) (i:=i) (r:=r) (by simpa using h)
  simp[iP];omega
theorem jJ_:∀{xs:List (List T)} {i:Nat} {r:List T},xs[i]?=some r->iP (xs.take (i+1))=iP (xs.take i)+(kt r+1)
 | [],_,_,h=>by simp at h
 |r'::rs,0,r,h=>by simp at h;subst h;simp[iP];omega
 |r'::rs,i+1,r,h=>by
  have:=jJ_ (xs:=rs) (i:=i) (r:=r) (by simpa using h)
  simp only[List.take_succ_cons,iP,this];omega
theorem RO(xs ys:List (List T)):iP (xs++ys)=iP xs+iP ys:=by
 induction xs with
 |nil=>simp[iP]
 |cons r rs ih=>simp[iP,ih];omega
theorem gG(xs:List (List T)):bulk (.l xs)=iP xs:=by simp only[bulk]
theorem iA(k:IntKind)(n:Int):bulk (.c (.int k n))=0:=by simp only[bulk]
theorem iB(b:Bool):bulk (.c (.bool b))=0:=by simp only[bulk]
theorem kX(s:ByteArray):bulk (.c (.string s))=s.size:=by simp only[bulk]
theorem gL:kt []=0:=by simp only[kt]
theorem fQ(t:T)(ts:List T):kt (t::ts)=bulk t+kt ts:=by simp only[kt]
theorem eK{α β:Type}(a:α)(f:α->Option β):(some a).bind f=f a:=rfl
theorem BR{n:Int}(h:-9223372036854775808<=n)(h':n<9223372036854775808):IntKind.i64.wrap n=n:=by
 simp[IntKind.wrap,IntKind.bits,IntKind.signed]
 omega
theorem s9(xs:List (List T)):Prim.ev .len [.l xs]=some (.c (.int .i64 xs.length)):=rfl
theorem RP(s:ByteArray):Prim.ev .lens [.c (.string s)]=some (.c (.int .i64 s.size)):=rfl
theorem Aa(k:IntKind)(n:Int):Prim.ev .bM [.c (.int k n)]=some (.c (.int k n)):=rfl
theorem DO(b:Bool):Prim.ev .bM [.c (.bool b)]=some (.c (.bool b)):=rfl
theorem RQ(s:ByteArray):Prim.ev .bM [.c (.string s)]=some (.c (.string s)):=rfl
theorem uY(k:IntKind)(a b:Int):Prim.ev (.bin .lss) [.c (.int k a),.c (.int k b)]=some (.c (.bool (decide (a<b)))):=by simp[Prim.ev,T.val,lD]
theorem RR(k:IntKind)(a b:Int):Prim.ev (.bin .leq) [.c (.int k a),.c (.int k b)]=some (.c (.bool (decide (a<=b)))):=by simp[Prim.ev,T.val,lD]
theorem RS(k:IntKind)(a b:Int):Prim.ev (.bin .gtr) [.c (.int k a),.c (.int k b)]=some (.c (.bool (decide (a>b)))):=by simp[Prim.ev,T.val,lD]
theorem RT(k:IntKind)(a b:Int):Prim.ev (.bin .geq) [.c (.int k a),.c (.int k b)]=some (.c (.bool (decide (a>=b)))):=by simp[Prim.ev,T.val,lD]
theorem DP(k:IntKind)(a b:Int):Prim.ev (.bin .eql) [.c (.int k a),.c (.int k b)]=some (.c (.bool (a==b))):=by simp[Prim.ev,T.val,lD]
theorem xi(k:IntKind)(a b:Int):Prim.ev (.bin .neq) [.c (.int k a),.c (.int k b)]=some (.c (.bool (a !=b))):=by simp[Prim.ev,T.val,lD]
theorem Ab(k:IntKind)(a b:Int):Prim.ev (.bin .add) [.c (.int k a),.c (.int k b)]=some (.c (.int k (k.wrap (a+b)))):=by simp[Prim.ev,T.val,lD]
theorem DQ(k:IntKind)(a b:Int):Prim.ev (.bin .sub) [.c (.int k a),.c (.int k b)]=some (.c (.int k (k.wrap (a-b)))):=by simp[Prim.ev,T.val,lD]
theorem aeK(k:IntKind)(a b:Int):Prim.ev (.bin .mul) [.c (.int k a),.c (.int k b)]=some (.c (.int k (k.wrap (a*b)))):=by simp[Prim.ev,T.val,lD]
theorem RU(a b:ByteArray):Prim.ev (.bin .eql) [.c (.string a),.c (.string b)]=some (.c (.bool (a.toList==b.toList))):=by simp[Prim.ev,T.val,lD]
theorem RV(a b:ByteArray):Prim.ev (.bin .neq) [.c (.string a),.c (.string b)]=some (.c (.bool !(a.toList==b.toList))):=by simp[Prim.ev,T.val,lD]
theorem DR(a b:Bool):Prim.ev (.bb .neq) [.c (.bool a),.c (.bool b)]=some (.c (.bool (a !=b))):=by cases a<;>cases b<;>rfl
theorem RW(a b:Bool):Prim.ev (.bb .eql) [.c (.bool a),.c (.bool b)]=some (.c (.bool (a==b))):=by cases a<;>cases b<;>rfl
theorem I4(a:Bool):Prim.ev (.un .not) [.c (.bool a)]=some (.c (.bool !a)):=by cases a<;>rfl
theorem Ac{xs:List (List T)}{i:Nat}{r:List T}{k:IntKind}(h:xs[i]?=some r):tM (.l xs) (.c (.int k (i:Int)))=some r:=by
 simp[tM,T.rows,T.int,h]
theorem BS{xs:List (List T)}{i:Nat}{r:List T}{k:IntKind}(h:xs[i]?=some r):Prim.ev .de [.l xs,.c (.int k (i:Int))]=some (.c (.bool true)):=by
 simp[Prim.ev,Ac h]
theorem I5{xs:List (List T)}{i w j:Nat}{r:List T}{t:T}{k:IntKind}(h:xs[i]?=some r)(hw:r.length=w)(hj:r[j]?=some t):Prim.ev (.cell w j) [.l xs,.c (.int k (i:Int))]=some t:=by
 simp[Prim.ev,Ac h,hw,hj]
theorem I6{sc:Bool}{xs:List (List T)}{i w off n:Nat}{r vs:List T}{k:IntKind}(h:xs[i]?=some r)(hw:r.length=w)(ho:off+n<=w)(hv:vs.length=n)(hs:(!sc||vs.all eh)=true):
  Prim.ev (.put sc w off n) (.l xs:: .c (.int k (i:Int))::vs)=some (.l (setRow xs i off vs)):=by
 simp only[Prim.ev,Ac h,hw,ho,hv,hs,T.rows,T.int,Option.bind_some,if_true,Int.toNat_natCast]
theorem RX{k k':IntKind}{n:Nat}{ts:List T}(h:n<rL):Prim.ev .mk (.c (.int k (n:Int)):: .c (.int k' (n:Int))::ts)=some (.l (List.replicate n ts)):=by
 unfold rL at h
 simp[Prim.ev,rL,show(n:Int)<4294967296 by omega]
theorem DS{α β:Type}{F:(α->Option β)->α->Option β}{n:Nat}(st:Nat->α){out:β}(h:∀i,i<n->∀self,F self (st i)=self (st (i+1)))(hn:∀self,F self (st n)=some out):
  ∀R,n<R->iter F R (st 0)=some out:=by
 have:∀d i,i+d=n->∀R,d<R->iter F R (st i)=some out:=by
  intro d
  induction d with
  |zero=>
   intro i hi R hR
   cases R with
   |zero=>omega
   |succ R=>rw[Nat.add_zero]at hi;subst hi;exact hn _
  |succ d ih=>
   intro i hi R hR
   cases R with
   |zero=>omega
   |succ R=>unfold iter;rw[h i (by omega)];exact ih (i+1) (by omega) R (by omega)
 intro R hR
 exact this n 0 (by omega) R hR
theorem yi{S:Nat->af}{R:Nat}{K:List af}{ρ:List T}(xs:List Lf):PL.den S R K ρ (.ret xs)=some (xs.map (Lf.ev ρ)):=by simp only[PL.den]
theorem kJ{S:Nat->af}{R:Nat}{K:List af}{ρ:List T}(p:Prim)(xs:List Lf)(k:PL):PL.den S R K ρ (.ins (.pr p xs) k)=(p.ev (xs.map (Lf.ev ρ))).bind λt=>k.den S R K (ρ++[t]):=by simp only[PL.den]
theorem yj{S:Nat->af}{R:Nat}{K:List af}{ρ:List T}(g:Nat)(xs:List Lf)(m:Nat)(k:PL):PL.den S R K ρ (.ins (.cl g xs m) k)=(S g (xs.map (Lf.ev ρ))).bind λts=>k.den S R K (ρ++ia ts 0 m):=by simp only[PL.den]
def aA(t:T)(x y:Option (List T)):Option (List T):=match t with
 | .c (.bool b)=>bif b then x else y
 |_=>none
theorem rf(b:Bool)(x y:Option (List T)):aA (.c (.bool b)) x y=bif b then x else y:=rfl
theorem p9{S:Nat->af}{R:Nat}{K:List af}{ρ:List T}(c:Nat)(x y:PL):PL.den S R K ρ (.ite c x y)=aA (ρ.getD c T.cC) (x.den S R K ρ) (y.den S R K ρ):=by
 simp only[PL.den,aA]
 generalize ρ.getD c T.cC=t
 cases t with
 |c v=>cases v<;>rfl
 |l xs=>rfl
theorem Ad{S:Nat->af}{R:Nat}{K:List af}{ρ:List T}(xs:List Lf)(b:PL):PL.den S R K ρ (.loop xs b)=iter (λself ts=>b.den S R (self::K) (ρ++ts)) R (xs.map (Lf.ev ρ)):=by simp only[PL.den]
theorem Ae{S:Nat->af}{R:Nat}{f:af}{K:List af}{ρ:List T}(xs:List Lf):PL.den S R (f::K) ρ (.go 0 xs)=f (xs.map (Lf.ev ρ)):=by simp[PL.den]
theorem RY{S:Nat->af}{R j:Nat}{f:af}{K:List af}{ρ:List T}(xs:List Lf):PL.den S R (f::K) ρ (.go (j+1) xs)=PL.den S R K ρ (.go j xs):=by simp[PL.den]
theorem gN(ρ:List T)(v:Value):Lf.ev ρ (.k v)=.c v:=rfl
theorem I7(ρ:List T):Lf.ev ρ .e=.l []:=rfl
theorem eL(ρ:List T)(n:Nat):Lf.ev ρ (.a n)=ρ.getD n T.cC:=rfl
set_option linter.unusedSimpArgs false
def big:Nat:=1048576
def DT(F:af)(fs:List Ty):Prop:=
 ∀(ts:List T) (l:Int),dG fs ts->0<=l->l<=1048576->∃n:Int,F (ts++[.c (.int .i64 l)])=some [.c (.int .i64 n)]∧n<=l∧(0<=n->n=l-kt ts)
def uZ(F:af)(fs:List Ty):Prop:=∀ts:List T,dG fs ts->kt ts<=1048576->F ts=some ts
def iS(F:af)(fs:List Ty):Prop:=∀ts:List T,dG fs ts->kt ts<=1048576->F (ts++ts)=some [.c (.bool true)]
def I8:Ty->Bool
 | .i _=>true
 | .b=>true
 |_=>false
theorem RZ:∀{fs:List Ty} {ts:List T},fs.all I8=true->dG fs ts->kt ts=0
 | [],ts,_,h=>by unfold dG at h;subst h;rfl
 |f::fs,ts,hf,h=>by
  unfold dG at h
  obtain⟨t,lU,rfl,h1,h2⟩:=h
  simp only[List.all_cons,bA]at hf
  have h3:=RZ hf.2 h2
  rw[fQ,h3]
  cases f with
  |i k=>unfold WT at h1;obtain⟨n,rfl,_⟩:=h1;simp[iA]
  |b=>unfold WT at h1;obtain⟨n,rfl⟩:=h1;simp[iB]
  |s=>cases hf.1
  |sl gs=>cases hf.1
theorem R0{fs:List Ty}(hf:fs.all I8=true):∀{xs:List (List T)},(∀r∈xs,dG fs r)->iP xs=xs.length
 | [],_=>by simp[iP]
 |r::xs,h=>by
  have h1:=RZ hf (h r (.head _))
  have h2:=R0 hf (xs:=xs) λr hr=>h r (.tail _ hr)
  simp[iP,h1,h2];omega
theorem dG.one{f:Ty}{ts:List T}(h:dG [f] ts):∃t,ts=[t]∧WT f t:=by
 unfold dG at h
 obtain⟨t,lU,rfl,h1,h2⟩:=h
 unfold dG at h2
 subst h2
 exact⟨t,rfl,h1⟩
theorem dG.R1{fs:List Ty}{ts:List T}(h:dG [.sl fs] ts):∃xs,ts=[.l xs]∧xs.length<=maxLen∧∀r∈xs,dG fs r:=by
 obtain⟨t,rfl,h1⟩:=h.one
 unfold WT at h1
 obtain⟨xs,rfl,h1,h2⟩:=h1
 exact⟨xs,rfl,h1,h2⟩
theorem Gu{α:Type}{xs:List α}{i:Nat}{r:α}(h:xs[i]?=some r):r∈xs:=List.mem_of_getElem? h
theorem NU{α:Type}{xs:List α}{i:Nat}(h:i<xs.length):∃r,xs[i]?=some r:=⟨xs[i],List.getElem?_eq_getElem h⟩
def DU(w s i:Nat):Nat->Nat->PL->PL
 |_,0,k=>k
 |j,n+1,k=>.ins (.pr (.cell w j) [.a s,.a i]) (DU w s i (j+1) n k)
def u0:Nat->Nat->List Lf
 |_,0=>[]
 |b,n+1=>.a b::u0 (b+1) n
theorem rb{ρ B:List T}{n:Nat}(h:n<ρ.length):Lf.ev (ρ++B) (.a n)=Lf.ev ρ (.a n):=by
 simp[Lf.ev,List.getD,List.getElem?_append_left h]
theorem aeM{A B:List T}{t:T}{n:Nat}(hA:A.length=n):Lf.ev (A++t::B) (.a n)=t:=by
 subst hA
 simp[Lf.ev,List.getD]
theorem R2{A r C:List T}{n k:Nat}(h:n=A.length+r.length+k):(A++(r++C)).getD n T.cC=C.getD k T.cC:=by
 subst h
 simp only[List.getD,List.getElem?_append_right (show A.length<=A.length+r.length+k by omega)]
 rw[List.getElem?_append_right (by omega)]
 congr 2
 omega
theorem Af:∀{r A B:List T} {b w:Nat},A.length=b->r.length=w->(u0 b w).map (Lf.ev (A++(r++B)))=r
 | [],A,B,b,w,hA,hr=>by subst hr;rfl
 |t::r,A,B,b,w,hA,hr=>by
  subst hr
  show Lf.ev (A++(t::(r++B))) (.a b)::(u0 (b+1) r.length).map (Lf.ev (A++(t::(r++B))))=t::r
  rw[aeM hA]
  have:=Af (r:=r) (A:=A++[t]) (B:=B) (b:=b+1) (w:=r.length) (by simp[hA]) rfl
  rw[List.append_assoc]at this
  exact congrArg _ this
theorem DV{S:Nat->af}{R:Nat}{K:List af}{k:PL}{xs:List (List T)}{i:Nat}{r:List T}{w s ix:Nat}(hr:xs[i]?=some r)(hw:r.length=w):∀(n j:Nat) {ρ:List T},j+n=w->s<ρ.length->ix<ρ.length->
  Lf.ev ρ (.a s)=.l xs->Lf.ev ρ (.a ix)=.c (.int .i64 (i:Int))->PL.den S R K ρ (DU w s ix j n k)=k.den S R K (ρ++r.drop j)
 |0,j,ρ,hj,_,_,_,_=>by
  have:r.drop j=[]:=List.drop_eq_nil_iff.2 (by omega)
  rw[this,List.append_nil]
  rfl
 |n+1,j,ρ,hj,h1,h2,h3,h4=>by
  obtain⟨t,ht⟩:=NU (xs:=r) (i:=j) (by omega)
  show PL.den S R K ρ (.ins (.pr (.cell w j) [.a s,.a ix]) (DU w s ix (j+1) n k))=_
  rw[kJ,List.map_cons,List.map_cons,List.map_nil,h3,h4,I5 hr hw ht,eK,
   DV hr hw n (j+1) (by omega) (by simp;omega) (by simp;omega) (by rw[rb h1];exact h3) (by rw[rb h2];exact h4)]
  congr 1
  rw[List.append_assoc]
  congr 1
  rw[List.drop_eq_getElem_cons (by omega:j<r.length)]
  rw[List.getElem?_eq_getElem (by omega)]at ht
  cases ht
  rfl
def u9:PL:=
 .ins (.pr .len [.a 0])<|
 .ins (.pr (.bin .sub) [.a 1,.a 2])<|
 .ins (.pr (.bin .lss) [.a 3,.k (.int .i64 0)])<|
 .ite 4 (.ins (.pr .bM [.k (.int .i64 (-1))])<| .ret [.a 5]) (.ins (.pr .bM [.a 3])<| .ret [.a 5])
theorem R3{S:Nat->af}{R:Nat}{fs:List Ty}(hf:fs.all I8=true):DT (λts=>u9.den S R [] ts) [.sl fs]:=by
 intro ts l ht h0 h1
 obtain⟨xs,rfl,h2,h3⟩:=ht.R1
 have e1:IntKind.i64.wrap (l-xs.length)=l-xs.length:=BR (by unfold maxLen at h2;omega) (by omega)
 have e2:=R0 hf h3
 by_cases h:l-(xs.length:Int)<0
 ·refine⟨-1,?_,by omega,by omega⟩
  simp only[u9,yi,kJ,yj,p9,List.map_cons,List.map_nil,gN,I7,eL,List.cons_append,List.nil_append,List.getD_cons_zero,List.getD_cons_succ,eK,s9,DQ,uY,e1,h,decide_true,decide_false,rf,cond_true,cond_false,Aa]
 ·refine⟨l-xs.length,?_,by omega,λ_=>?_⟩
  ·simp only[u9,yi,kJ,yj,p9,List.map_cons,List.map_nil,gN,I7,eL,List.cons_append,List.nil_append,List.getD_cons_zero,List.getD_cons_succ,eK,s9,DQ,uY,e1,h,decide_true,decide_false,rf,cond_true,cond_false,Aa]
  ·rw[fQ,gL,gG,e2];omega
set_option linter.unusedSimpArgs false
theorem aeN{xs ys:List (List T)}{z r:List T}{i:Nat}(hi:xs.length=i)(hz:z.length=r.length):setRow (xs++z::ys) i 0 r=xs++r::ys:=by
 have hd:z.drop r.length=[]:=List.drop_eq_nil_iff.2 (by omega)
 unfold setRow
 induction xs generalizing i with
 |nil=>subst hi;simp[hd]
 |cons x xs ih=>
  subst hi
  have:=ih (i:=xs.length) rfl
  simp only[List.length_cons,List.cons_append,List.modify_succ_cons,this]
theorem R4{α:Type}{xs:List α}{i:Nat}{r:α}(h:xs[i]?=some r):xs.take (i+1)=xs.take i++[r]:=by
 rw[List.take_add_one,h];rfl
theorem aeO{xs:List (List T)}{z r:List T}{i:Nat}(h:xs[i]?=some r)(hz:z.length=r.length):setRow (xs.take i++List.replicate (xs.length-i) z) i 0 r=xs.take (i+1)++List.replicate (xs.length-(i+1)) z:=by
 have hi:i<xs.length:=by
  rcases Nat.lt_or_ge i xs.length with h'|h'
  ·exact h'
  ·rw[List.getElem?_eq_none h']at h;cases h
 obtain⟨d,hd⟩:∃d,xs.length-i=d+1:=⟨xs.length-i-1,by omega⟩
 rw[hd,List.replicate_succ,aeN (by simp;omega) hz,R4 h,List.append_assoc,show xs.length-(i+1)=d by omega]
 rfl
theorem aeP{xs:List (List T)}{z:List T}{i:Nat}(hi:i<xs.length):(xs.take i++List.replicate (xs.length-i) z)[i]?=some z:=by
 have hl:(xs.take i).length=i:=by simp;omega
 rw[List.getElem?_append_right (by omega),hl,Nat.sub_self]
 obtain⟨d,hd⟩:∃d,xs.length-i=d+1:=⟨xs.length-i-1,by omega⟩
 rw[hd]
 rfl
def R5(w g:Nat)(zs:List Lf)(st:Prim):PL:=
 .ins (.pr .len [.a 0])<|
 .ins (.pr .mk (.a 1:: .a 1::zs))<|
 .loop [.k (.int .i64 0),.a 2]<|
  .ins (.pr .len [.a 0])<|
  .ins (.pr (.bin .lss) [.a 3,.a 5])<|
  .ite 6 (.ins (.pr .de [.a 0,.a 3])<|DU w 0 3 0 w<|
   .ins (.cl g (u0 8 w) w)<|
   .ins (.pr .de [.a 4,.a 3])<|
   .ins (.pr st (.a 4:: .a 3::u0 (8+w) w))<|
   .ins (.pr (.bin .add) [.a 3,.k (.int .i64 1)])<|
   .go 0 [.a (10+(w+w)),.a (9+(w+w))])
  (.ret [.a 4])
def R6:Lf->Bool
 | .k _=>true
 | .e=>true
 | .a _=>false
theorem R7{ρ m7:List T}:∀{zs:List Lf},zs.all R6=true->zs.map (Lf.ev ρ)=zs.map (Lf.ev m7)
 | [],_=>rfl
 |z::zs,h=>by
  simp only[List.all_cons,bA]at h
  rw[List.map_cons,List.map_cons,R7 (ρ:=ρ) (m7:=m7) h.2]
  cases z with
  |k v=>rfl
  |e=>rfl
  |a n=>cases h.1
theorem aeQ:∀(ts:List T) (i:Nat),ia ts i (ts.length-i)=ts.drop i
 |ts,i=>by
  generalize hd:ts.length-i=d
  induction d generalizing i with
  |zero=>simp[ia,List.drop_eq_nil_iff.2 (show ts.length<=i by omega)]
  |succ d ih=>
   have hi:i<ts.length:=by omega
   simp only[ia,ih (i+1) (by omega),List.drop_eq_getElem_cons hi,List.getD,List.getElem?_eq_getElem hi,Option.getD_some]
theorem R8{S:Nat->af}{w g:Nat}{zs:List Lf}{st:Prim}{fs:List Ty}(hw:fs.length=w)(hg:uZ (S g) fs)(hz:zs.all R6=true)(pX:zs.length=w)
  (cf:∀(xs:List (List T)) (i:Nat) (z vs:List T),xs[i]?=some z->z.length=w->dG fs vs->Prim.ev st (.l xs:: .c (.int .i64 (i:Int))::vs)=some (.l (setRow xs i 0 vs))):
  uZ (λts=>(R5 w g zs st).den S rounds [] ts) [.sl fs]:=by
 intro ts ht hb
 obtain⟨xs,rfl,h2,h3⟩:=ht.R1
 rw[fQ,gL,gG,Nat.add_zero]at hb
 have hlen:=NT xs
 let z:List T:=zs.map (Lf.ev [])
 have Dh:∀ρ,zs.map (Lf.ev ρ)=z:=λρ=>R7 hz
 have hzw:z.length=w:=by simp[z,pX]
 have key:=DS (n:=xs.length) (out:=[T.l xs]) (F:=λself ts=>(PL.den S rounds (self::[]) ([T.l xs,.c (.int .i64 (xs.length:Int)),.l (List.replicate xs.length z)]++ts) (
  .ins (.pr .len [.a 0])<|
  .ins (.pr (.bin .lss) [.a 3,.a 5])<|
  .ite 6 (.ins (.pr .de [.a 0,.a 3])<|DU w 0 3 0 w<|
   .ins (.cl g (u0 8 w) w)<|
   .ins (.pr .de [.a 4,.a 3])<|
   .ins (.pr st (.a 4:: .a 3::u0 (8+w) w))<|
   .ins (.pr (.bin .add) [.a 3,.k (.int .i64 1)])<|
   .go 0 [.a (10+(w+w)),.a (9+(w+w))])
  (.ret [.a 4])))) (λi=>[.c (.int .i64 (i:Int)),.l (xs.take i++List.replicate (xs.length-i) z)]) ?_ ?_ rounds (by unfold rounds;omega)
 ·simp only[R5,kJ,List.map_cons,List.map_nil,gN,eL,List.cons_append,List.nil_append,List.getD_cons_zero,List.getD_cons_succ,eK,s9,Dh,RX (show xs.length<rL by unfold rL;omega)]
  rw[Ad]
  exact key
 ·intro i hi self
  obtain⟨r,hr⟩:=NU hi
  have tV:r.length=w:=by rw[(h3 r (Gu hr)).length,hw]
  have hbr:=RN hr
  have hgr:=hg r (h3 r (Gu hr)) (by omega)
  have a_:(i:Int)<xs.length:=by omega
  have e3:IntKind.i64.wrap ((i:Int)+1)=((i+1:Nat):Int):=by rw[BR (by omega) (by omega)];simp
  have e4:=aeQ r 0
  rw[Nat.sub_zero,List.drop_zero,tV]at e4
  have hf:=aeP (z:=z) hi
  have R9:=cf _ i z r hf hzw (h3 r (Gu hr))
  rw[aeO hr (by rw[hzw,tV])]at R9
  have e5:(u0 8 w).map (Lf.ev (.l xs:: .c (.int .i64 xs.length):: .l (List.replicate xs.length z):: .c (.int .i64 i):: .l (xs.take i++List.replicate (xs.length-i) z):: .c (.int .i64 xs.length):: .c (.bool true):: .c (.bool true)::r))=r:=by
   have:=Af (r:=r) (A:=[.l xs,.c (.int .i64 xs.length),.l (List.replicate xs.length z),.c (.int .i64 i),.l (xs.take i++List.replicate (xs.length-i) z),.c (.int .i64 xs.length),.c (.bool true),.c (.bool true)]) (B:=[]) (b:=8) (w:=w) rfl tV
   rw[List.append_nil]at this
   exact this
  have e6:∀B,(u0 (8+w) w).map (Lf.ev (.l xs:: .c (.int .i64 xs.length):: .l (List.replicate xs.length z):: .c (.int .i64 i):: .l (xs.take i++List.replicate (xs.length-i) z):: .c (.int .i64 xs.length):: .c (.bool true):: .c (.bool true)::(r++(r++B))))=r:=λB=>
   Af (r:=r) (A:=.l xs:: .c (.int .i64 xs.length):: .l (List.replicate xs.length z):: .c (.int .i64 i):: .l (xs.take i++List.replicate (xs.length-i) z):: .c (.int .i64 xs.length):: .c (.bool true):: .c (.bool true)::r) (B:=B) (b:=8+w) (w:=w) (by simp[tV];omega) tV
  have xj:∀(n k:Nat) (C:List T),n=8+(w+w)+k->(.l xs:: .c (.int .i64 xs.length):: .l (List.replicate xs.length z):: .c (.int .i64 i):: .l (xs.take i++List.replicate (xs.length-i) z):: .c (.int .i64 xs.length):: .c (.bool true):: .c (.bool true)::(r++(r++C))).getD n T.cC=C.getD k T.cC:=λn k C h=>
   R2 (A:=.l xs:: .c (.int .i64 xs.length):: .l (List.replicate xs.length z):: .c (.int .i64 i):: .l (xs.take i++List.replicate (xs.length-i) z):: .c (.int .i64 xs.length):: .c (.bool true):: .c (.bool true)::r) (r:=r) (C:=C) (by simp[tV];omega)
  have e7:=λC=>xj (9+(w+w)) 1 C (by omega)
  have e8:=λC=>xj (10+(w+w)) 2 C (by omega)
  simp only[yi,kJ,yj,p9,Ae,List.map_cons,List.map_nil,gN,eL,List.cons_append,List.nil_append,List.getD_cons_zero,List.getD_cons_succ,eK,s9,uY,a_,decide_true,rf,cond_true,BS hr]
  rw[DV hr tV w 0 (by omega) (by simp) (by simp) rfl rfl]
  simp only[yi,kJ,yj,p9,Ae,List.map_cons,List.map_nil,List.map_append,gN,eL,List.cons_append,List.nil_append,List.append_assoc,List.getD_cons_zero,List.getD_cons_succ,eK,List.drop_zero,e5,hgr,e4,e6,R9,e7,e8,BS hf,Ab,e3]
 ·intro self
  simp only[yi,kJ,yj,p9,Ae,List.map_cons,List.map_nil,gN,eL,List.cons_append,List.nil_append,List.getD_cons_zero,List.getD_cons_succ,eK,s9,uY,Int.lt_irrefl,decide_false,rf,cond_false,List.take_length,Nat.sub_self,List.replicate_zero,List.append_nil]
def I9:Ty->Bool
 | .sl _=>false
 |_=>true
theorem aeT{f:Ty}{t:T}(hf:I9 f=true)(h:WT f t):eh t=true:=by
 cases f with
 |i k=>unfold WT at h;obtain⟨n,rfl,_⟩:=h;rfl
 |b=>unfold WT at h;obtain⟨n,rfl⟩:=h;rfl
 |s=>unfold WT at h;obtain⟨n,rfl,_⟩:=h;rfl
 |sl gs=>cases hf
theorem R_{fs:List Ty}{w:Nat}(hw:fs.length=w)(hf:fs.all I9=true)(xs:List (List T))(i:Nat)(z vs:List T)(hi:xs[i]?=some z)(hz:z.length=w)(hv:dG fs vs):
  Prim.ev (.put true w 0 w) (.l xs:: .c (.int .i64 (i:Int))::vs)=some (.l (setRow xs i 0 vs)):=by
 refine I6 hi hz (by omega) (by rw[hv.length,hw]) ?_
 have:∀{fs:List Ty} {vs:List T},fs.all I9=true->dG fs vs->vs.all eh=true:=by
  intro fs
  induction fs with
  |nil=>intro vs _ h;unfold dG at h;subst h;rfl
  |cons f fs ih=>
   intro vs hf h
   unfold dG at h
   obtain⟨t,lU,rfl,h1,h2⟩:=h
   simp only[List.all_cons,bA]at hf⊢
   exact⟨aeT hf.1 h1,ih hf.2 h2⟩
 simp[this hf hv]
def R'(w g:Nat):PL:=
 .ins (.pr .len [.a 0])<|
 .ins (.pr .len [.a 1])<|
 .ins (.pr (.bin .neq) [.a 2,.a 3])<|
 .ite 4 (.ins (.pr .bM [.k (.bool false)])<| .ret [.a 5])<|
 .loop [.k (.bool false),.k (.int .i64 0)]<|
  .ins (.pr .len [.a 0])<|
  .ins (.pr (.bin .lss) [.a 6,.a 7])<|
  .ite 8 (.ins (.pr .de [.a 0,.a 6])<|DU w 0 6 0 w<|
   .ins (.pr .de [.a 1,.a 6])<|DU w 1 6 0 w<|
   .ins (.cl g (u0 10 w++u0 (11+w) w) 1)<|
   .ins (.pr (.un .not) [.a (11+(w+w))])<|
   .ite (12+(w+w)) (.ins (.pr .bM [.k (.bool false)])<| .ret [.a (13+(w+w))])<|
   .ins (.pr (.bin .add) [.a 6,.k (.int .i64 1)])<|
   .go 0 [.a 5,.a (13+(w+w))])
  (.ins (.pr .bM [.k (.bool true)])<| .ret [.a 9])
theorem I_{S:Nat->af}{w g:Nat}{fs:List Ty}(hw:fs.length=w)(hg:iS (S g) fs):iS (λts=>(R' w g).den S rounds [] ts) [.sl fs]:=by
 intro ts ht hb
 obtain⟨xs,rfl,h2,h3⟩:=ht.R1
 rw[fQ,gL,gG,Nat.add_zero]at hb
 have hlen:=NT xs
 have key:=DS (n:=xs.length) (out:=[T.c (.bool true)]) (F:=λself ts=>(PL.den S rounds (self::[]) ([T.l xs,.l xs,.c (.int .i64 (xs.length:Int)),.c (.int .i64 (xs.length:Int)),.c (.bool false)]++ts) (
  .ins (.pr .len [.a 0])<|
  .ins (.pr (.bin .lss) [.a 6,.a 7])<|
  .ite 8 (.ins (.pr .de [.a 0,.a 6])<|DU w 0 6 0 w<|
   .ins (.pr .de [.a 1,.a 6])<|DU w 1 6 0 w<|
   .ins (.cl g (u0 10 w++u0 (11+w) w) 1)<|
   .ins (.pr (.un .not) [.a (11+(w+w))])<|
   .ite (12+(w+w)) (.ins (.pr .bM [.k (.bool false)])<| .ret [.a (13+(w+w))])<|
   .ins (.pr (.bin .add) [.a 6,.k (.int .i64 1)])<|
   .go 0 [.a 5,.a (13+(w+w))])
  (.ins (.pr .bM [.k (.bool true)])<| .ret [.a 9])))) (λi=>[.c (.bool false),.c (.int .i64 (i:Int))]) ?_ ?_ rounds (by unfold rounds;omega)
 ·simp only[R',kJ,p9,List.map_cons,List.map_nil,gN,eL,List.cons_append,List.nil_append,List.getD_cons_zero,List.getD_cons_succ,eK,s9,xi,bne_self_eq_false,rf,cond_false]
  rw[Ad]
  exact key
 ·intro i hi self
  obtain⟨r,hr⟩:=NU hi
  have tV:r.length=w:=by rw[(h3 r (Gu hr)).length,hw]
  have hbr:=RN hr
  have hgr:=hg r (h3 r (Gu hr)) (by omega)
  have a_:(i:Int)<xs.length:=by omega
  have e3:IntKind.i64.wrap ((i:Int)+1)=((i+1:Nat):Int):=by rw[BR (by omega) (by omega)];simp
  have e5:∀B,(u0 10 w).map (Lf.ev (.l xs:: .l xs:: .c (.int .i64 xs.length):: .c (.int .i64 xs.length):: .c (.bool false):: .c (.bool false):: .c (.int .i64 i):: .c (.int .i64 xs.length):: .c (.bool true):: .c (.bool true)::(r++B)))=r:=λB=>
   Af (r:=r) (A:=[.l xs,.l xs,.c (.int .i64 xs.length),.c (.int .i64 xs.length),.c (.bool false),.c (.bool false),.c (.int .i64 i),.c (.int .i64 xs.length),.c (.bool true),.c (.bool true)]) (B:=B) (b:=10) (w:=w) rfl tV
  have e6:∀t,(u0 (11+w) w).map (Lf.ev (.l xs:: .l xs:: .c (.int .i64 xs.length):: .c (.int .i64 xs.length):: .c (.bool false):: .c (.bool false):: .c (.int .i64 i):: .c (.int .i64 xs.length):: .c (.bool true):: .c (.bool true)::(r++t::r)))=r:=λt=>by
   have:=Af (r:=r) (A:=.l xs:: .l xs:: .c (.int .i64 xs.length):: .c (.int .i64 xs.length):: .c (.bool false):: .c (.bool false):: .c (.int .i64 i):: .c (.int .i64 xs.length):: .c (.bool true):: .c (.bool true)::(r++[t])) (B:=[]) (b:=11+w) (w:=w) (by simp[tV];omega) tV
   simpa using this
  have xj:∀(n k:Nat) (t:T) (C:List T),n=11+(w+w)+k->(.l xs:: .l xs:: .c (.int .i64 xs.length):: .c (.int .i64 xs.length):: .c (.bool false):: .c (.bool false):: .c (.int .i64 i):: .c (.int .i64 xs.length):: .c (.bool true):: .c (.bool true)::(r++t::(r++C))).getD n T.cC=C.getD k T.cC:=λn k t C h=>by
   have:=R2 (A:=.l xs:: .l xs:: .c (.int .i64 xs.length):: .c (.int .i64 xs.length):: .c (.bool false):: .c (.bool false):: .c (.int .i64 i):: .c (.int .i64 xs.length):: .c (.bool true):: .c (.bool true)::(r++[t])) (r:=r) (C:=C) (n:=n) (k:=k) (by simp[tV];omega)
   rw[<-this]
   simp
  have e7:=λt C=>xj (11+(w+w)) 0 t C (by omega)
  have e8:=λt C=>xj (12+(w+w)) 1 t C (by omega)
  have e9:=λt C=>xj (13+(w+w)) 2 t C (by omega)
  simp only[yi,kJ,yj,p9,Ae,List.map_cons,List.map_nil,gN,eL,List.cons_append,List.nil_append,List.getD_cons_zero,List.getD_cons_succ,eK,s9,uY,a_,decide_true,rf,cond_true,BS hr]
  rw[DV hr tV w 0 (by omega) (by simp) (by simp) rfl rfl]
  simp only[kJ,List.map_cons,List.map_nil,eL,List.cons_append,List.nil_append,List.append_assoc,List.getD_cons_zero,List.getD_cons_succ,eK,List.drop_zero,BS hr]
  rw[DV hr tV w 0 (by omega) (by simp) (by simp) rfl rfl]
  simp only[yi,kJ,yj,p9,Ae,List.map_cons,List.map_nil,List.map_append,gN,eL,List.cons_append,List.nil_append,List.append_assoc,List.getD_cons_zero,List.getD_cons_succ,eK,List.drop_zero,e5,e6,hgr,ia,e7,e8,e9,I4,Bool.not_true,rf,cond_false,Ab,e3]
 ·intro self
  simp only[yi,kJ,yj,p9,Ae,List.map_cons,List.map_nil,gN,eL,List.cons_append,List.nil_append,List.getD_cons_zero,List.getD_cons_succ,eK,s9,uY,Int.lt_irrefl,decide_false,rf,cond_false,DO]
def Sa(op:Prim):PL:=
 .ins (.pr .len [.a 0])<|
 .ins (.pr .len [.a 1])<|
 .ins (.pr (.bin .neq) [.a 2,.a 3])<|
 .ite 4 (.ins (.pr .bM [.k (.bool false)])<| .ret [.a 5])<|
 .loop [.k (.bool false),.k (.int .i64 0)]<|
  .ins (.pr .len [.a 0])<|
  .ins (.pr (.bin .lss) [.a 6,.a 7])<|
  .ite 8 (.ins (.pr .de [.a 0,.a 6])<| .ins (.pr (.cell 1 0) [.a 0,.a 6])<|
   .ins (.pr .de [.a 1,.a 6])<| .ins (.pr (.cell 1 0) [.a 1,.a 6])<|
   .ins (.pr op [.a 10,.a 12])<|
   .ite 13 (.ins (.pr .bM [.k (.bool false)])<| .ret [.a 14])<|
   .ins (.pr (.bin .add) [.a 6,.k (.int .i64 1)])<|
   .go 0 [.a 5,.a 14])
  (.ins (.pr .bM [.k (.bool true)])<| .ret [.a 9])
theorem Sb{S:Nat->af}{op:Prim}{f:Ty}(dN:∀t,WT f t->Prim.ev op [t,t]=some (.c (.bool false))):iS (λts=>(Sa op).den S rounds [] ts) [.sl [f]]:=by
 intro ts ht hb
 obtain⟨xs,rfl,h2,h3⟩:=ht.R1
 rw[fQ,gL,gG,Nat.add_zero]at hb
 have hlen:=NT xs
 have key:=DS (n:=xs.length) (out:=[T.c (.bool true)]) (F:=λself ts=>(PL.den S rounds (self::[]) ([T.l xs,.l xs,.c (.int .i64 (xs.length:Int)),.c (.int .i64 (xs.length:Int)),.c (.bool false)]++ts) (
  .ins (.pr .len [.a 0])<|
  .ins (.pr (.bin .lss) [.a 6,.a 7])<|
  .ite 8 (.ins (.pr .de [.a 0,.a 6])<| .ins (.pr (.cell 1 0) [.a 0,.a 6])<|
   .ins (.pr .de [.a 1,.a 6])<| .ins (.pr (.cell 1 0) [.a 1,.a 6])<|
   .ins (.pr op [.a 10,.a 12])<|
   .ite 13 (.ins (.pr .bM [.k (.bool false)])<| .ret [.a 14])<|
   .ins (.pr (.bin .add) [.a 6,.k (.int .i64 1)])<|
   .go 0 [.a 5,.a 14])
  (.ins (.pr .bM [.k (.bool true)])<| .ret [.a 9])))) (λi=>[.c (.bool false),.c (.int .i64 (i:Int))]) ?_ ?_ rounds (by unfold rounds;omega)
 ·simp only[Sa,kJ,p9,List.map_cons,List.map_nil,gN,eL,List.cons_append,List.nil_append,List.getD_cons_zero,List.getD_cons_succ,eK,s9,xi,bne_self_eq_false,rf,cond_false]
  rw[Ad]
  exact key
 ·intro i hi self
  obtain⟨r,hr⟩:=NU hi
  have Ja:=h3 r (Gu hr)
  obtain⟨t,rfl,ht⟩:=Ja.one
  have a_:(i:Int)<xs.length:=by omega
  have e3:IntKind.i64.wrap ((i:Int)+1)=((i+1:Nat):Int):=by rw[BR (by omega) (by omega)];simp
  simp only[yi,kJ,yj,p9,Ae,List.map_cons,List.map_nil,gN,eL,List.cons_append,List.nil_append,List.getD_cons_zero,List.getD_cons_succ,eK,s9,uY,a_,decide_true,rf,cond_true,BS hr,I5 hr (w:=1) (j:=0) rfl rfl,dN t ht,cond_false,Ab,e3]
 ·intro self
  simp only[yi,kJ,yj,p9,Ae,List.map_cons,List.map_nil,gN,eL,List.cons_append,List.nil_append,List.getD_cons_zero,List.getD_cons_succ,eK,s9,uY,Int.lt_irrefl,decide_false,rf,cond_false,DO]
theorem aeU{k:IntKind}(t:T)(h:WT (.i k) t):Prim.ev (.bin .neq) [t,t]=some (.c (.bool false)):=by
 unfold WT at h
 obtain⟨n,rfl,_⟩:=h
 rw[xi,bne_self_eq_false]
theorem aeV(t:T)(h:WT .b t):Prim.ev (.bb .neq) [t,t]=some (.c (.bool false)):=by
 unfold WT at h
 obtain⟨n,rfl⟩:=h
 rw[DR,bne_self_eq_false]
set_option linter.unusedSimpArgs false
theorem aeW{α β:Type}{F:(α->Option β)->α->Option β}{n:Nat}(Inv:Nat->α->Prop){Q:Option β->Prop}
  (step:∀i x,i<n->Inv i x->∀s,(∃x',Inv (i+1) x'∧F s x=s x')∨Q (F s x))(fin:∀x,Inv n x->∀s,Q (F s x)){x:α}(hx:Inv 0 x){R:Nat}(hR:n<R):Q (iter F R x):=by
 have:∀d i x,i+d=n->Inv i x->∀R,d<R->Q (iter F R x):=by
  intro d
  induction d with
  |zero=>
   intro i x hi hx R hR
   cases R with
   |zero=>omega
   |succ R=>rw[Nat.add_zero]at hi;subst hi;exact fin x hx _
  |succ d ih=>
   intro i x hi hx R hR
   cases R with
   |zero=>omega
   |succ R=>
    unfold iter
    rcases step i x (by omega) hx (iter F R)with⟨x',h1,h2⟩|h
    ·rw[h2];exact ih (i+1) x' (by omega) h1 R (by omega)
    ·exact h
 exact this n 0 x (by omega) hx R hR
def auC(o o':Option (List T)):Prop:=∃b,o=some [.c (.bool b)]∧o'=some [.c (.bool b)]
theorem aeX(a b c d:Int):Prim.ev (.su [1,1]) [.c (.int .i64 a),.c (.int .i64 b),.c (.int .i64 c),.c (.int .i64 d)]=some (.c (.bool (a==c&&(b==d)))):=by
 simp[Prim.ev,vB,Nq]
set_option linter.unusedSimpArgs false
def dD(g:Nat->List T->Nat×List T):Nat->List (List T)->Nat×List (List T)
 |n,[]=>(n,[])
 |n,r::rs=>((dD g (g n r).1 rs).1,(g n r).2::(dD g (g n r).1 rs).2)
mutual
def oE:Ty->Nat->T->Nat×T
 | .i k,n,_=>(n+1,.c (.int k (n:Int)))
 | .b,n,_=>(n+1,.c (.bool (n%3==0)))
 | .s,n,t=>(n,t)
 | .sl fs,n,t=>match t with
  | .l xs=>((dD (dy fs) n xs).1,.l (dD (dy fs) n xs).2)
  |t=>(n,t)
def dy:List Ty->Nat->List T->Nat×List T
 | [],n,_=>(n,[])
 |f::fs,n,ts=>match ts with
  |t::ts=>((dy fs (oE f n t).1 ts).1,(oE f n t).2::(dy fs (oE f n t).1 ts).2)
  | []=>(n,[])
end
theorem Gv(n:Nat)(ts:List T):dy [] n ts=(n,[]):=by simp only[dy]
theorem Ag(f:Ty)(fs:List Ty)(n:Nat)(t:T)(ts:List T):dy (f::fs) n (t::ts)=((dy fs (oE f n t).1 ts).1,(oE f n t).2::(dy fs (oE f n t).1 ts).2):=by simp only[dy]
theorem xk(k:IntKind)(n:Nat)(t:T):oE (.i k) n t=(n+1,.c (.int k (n:Int))):=by simp only[oE]
theorem xl(n:Nat)(t:T):oE .b n t=(n+1,.c (.bool (n%3==0))):=by simp only[oE]
theorem Ah(fs:List Ty)(n:Nat)(xs:List (List T)):oE (.sl fs) n (.l xs)=((dD (dy fs) n xs).1,.l (dD (dy fs) n xs).2):=by simp only[oE]
theorem Sc{g:Nat->List T->Nat×List T}:∀(xs:List (List T)) (n:Nat) (r:List T),dD g n (xs++[r])=((g (dD g n xs).1 r).1,(dD g n xs).2++[(g (dD g n xs).1 r).2])
 | [],n,r=>rfl
 |x::xs,n,r=>by
  show((dD g (g n x).1 (xs++[r])).1,(g n x).2::(dD g (g n x).1 (xs++[r])).2)=_
  rw[Sc xs]
  rfl
theorem NV{g:Nat->List T->Nat×List T}:∀(xs:List (List T)) (n:Nat),(dD g n xs).2.length=xs.length
 | [],n=>rfl
 |x::xs,n=>by simp[dD,NV xs]
theorem Sd{g:Nat->List T->Nat×List T}{xs:List (List T)}{i:Nat}{r:List T}(h:xs[i]?=some r)(n:Nat):dD g n (xs.take (i+1))=((g (dD g n (xs.take i)).1 r).1,(dD g n (xs.take i)).2++[(g (dD g n (xs.take i)).1 r).2]):=by
 rw[R4 h,Sc]
theorem Se{g:Nat->List T->Nat×List T}:∀{xs:List (List T)} {i:Nat} {r:List T} (n:Nat),xs[i]?=some r->(dD g n xs).2[i]?=some (g (dD g n (xs.take i)).1 r).2
 | [],_,_,_,h=>by simp at h
 |x::xs,0,r,n,h=>by simp at h;subst h;simp[dD]
 |x::xs,i+1,r,n,h=>by
  have:=Se (g:=g) (xs:=xs) (i:=i) (r:=r) (g n x).1 (by simpa using h)
  simpa[dD]using this
mutual
def u_:Ty->Bool
 | .i .i64=>true
 | .i _=>false
 | .b=>true
 | .s=>false
 | .sl fs=>Nat.ble fs.length 64&&lJ fs
def lJ:List Ty->Bool
 | []=>true
 |f::fs=>u_ f&&lJ fs
end
theorem DW{f:Ty}{fs:List Ty}(h:lJ (f::fs)=true):u_ f=true∧lJ fs=true:=by
 unfold lJ at h
 simpa using h
theorem xm{fs:List Ty}(h:u_ (.sl fs)=true):fs.length<=64∧lJ fs=true:=by
 unfold u_ at h
 simp only[bA]at h
 exact⟨Nat.le_of_ble_eq_true h.1,h.2⟩
theorem DX{g:Nat->List T->Nat×List T}{xs:List (List T)}(hg:∀n,∀r∈xs,n<=(g n r).1∧(g n r).1<=n+64*(1+kt r)):∀(n:Nat),n<=(dD g n xs).1∧(dD g n xs).1<=n+64*iP xs:=by
 induction xs with
 |nil=>intro n;simp[dD,iP]
 |cons x xs ih=>
  intro n
  have h1:=hg n x (.head _)
  have h2:=ih (λn r hr=>hg n r (.tail _ hr)) (g n x).1
  simp only[dD,iP]
  omega
mutual
theorem DY:∀(f:Ty) (n:Nat) (t:T),u_ f=true->WT f t->n<=(oE f n t).1∧(oE f n t).1<=n+1+64*bulk t
 | .i k,n,t,_,_=>by simp only[xk];omega
 | .b,n,t,_,_=>by simp only[xl];omega
 | .s,n,t,h,_=>by simp[u_]at h
 | .sl fs,n,t,h,ht=>by
  unfold WT at ht
  obtain⟨xs,rfl,_,hx⟩:=ht
  have hm:=xm h
  rw[Ah,gG]
  have:=DX (g:=dy fs) (xs:=xs) (λn r hr=>by
   have:=xn fs n r hm.2 (hx r hr)
   omega) n
  simp only
  omega
theorem xn:∀(fs:List Ty) (n:Nat) (ts:List T),lJ fs=true->dG fs ts->n<=(dy fs n ts).1∧(dy fs n ts).1<=n+fs.length+64*kt ts
 | [],n,ts,_,_=>by simp only[Gv,List.length_nil];omega
 |f::fs,n,ts,h,ht=>by
  unfold dG at ht
  obtain⟨t,lU,rfl,h1,h2⟩:=ht
  have hm:=DW h
  have g1:=DY f n t hm.1 h1
  have g2:=xn fs (oE f n t).1 lU hm.2 h2
  rw[Ag,fQ]
  simp only[List.length_cons]
  omega
end
mutual
theorem aeY:∀(f:Ty) (n:Nat) (t:T),u_ f=true->WT f t->n+1+64*bulk t<4611686018427387904->WT f (oE f n t).2∧bulk (oE f n t).2=bulk t
 | .i k,n,t,hk,ht,hn=>by
  unfold WT at ht
  obtain⟨m,rfl,_⟩:=ht
  rw[xk,iA,iA]
  refine⟨?_,rfl⟩
  unfold WT
  cases k with
  |i64=>exact⟨n,rfl,by simp[Lit.wf,IntKind.min,IntKind.max,IntKind.signed,IntKind.bits];omega⟩
  |_=>simp[u_]at hk
 | .b,n,t,_,ht,_=>by
  unfold WT at ht
  obtain⟨m,rfl⟩:=ht
  rw[xl,iB,iB]
  refine⟨?_,rfl⟩
  unfold WT
  exact⟨_,rfl⟩
 | .s,n,t,h,_,_=>by simp[u_]at h
 | .sl fs,n,t,h,ht,hn=>by
  unfold WT at ht
  obtain⟨xs,rfl,hl,hx⟩:=ht
  have hm:=xm h
  rw[Ah,gG,gG]
  rw[gG]at hn
  have:∀(xs:List (List T)) (n:Nat),(∀r∈xs,dG fs r)->n+1+64*iP xs<4611686018427387904->(∀r∈(dD (dy fs) n xs).2,dG fs r)∧iP (dD (dy fs) n xs).2=iP xs:=by
   intro xs
   induction xs with
   |nil=>intro n _ _;simp[dD]
   |cons x xs ih=>
    intro n hx hn
    simp only[iP]at hn
    have g0:=xn fs n x hm.2 (hx x (.head _))
    have g1:=Jb fs n x hm.2 (hx x (.head _)) (by omega)
    have g2:=ih (dy fs n x).1 (λr hr=>hx r (.tail _ hr)) (by omega)
    simp only[dD,iP,List.mem_cons]
    refine⟨?_,by rw[g1.2,g2.2]⟩
    rintro r (rfl|hr)
    ·exact g1.1
    ·exact g2.1 r hr
  have:=this xs n hx hn
  refine⟨?_,this.2⟩
  unfold WT
  exact⟨_,rfl,by rw[NV];exact hl,this.1⟩
theorem Jb:∀(fs:List Ty) (n:Nat) (ts:List T),lJ fs=true->dG fs ts->n+fs.length+64*kt ts<4611686018427387904->dG fs (dy fs n ts).2∧kt (dy fs n ts).2=kt ts
 | [],n,ts,_,ht,_=>by
  unfold dG at ht
  subst ht
  rw[Gv]
  refine⟨?_,rfl⟩
  unfold dG
  rfl
 |f::fs,n,ts,h,ht,hn=>by
  unfold dG at ht
  obtain⟨t,lU,rfl,h1,h2⟩:=ht
  have hm:=DW h
  simp only[fQ,List.length_cons]at hn
  have g0:=DY f n t hm.1 h1
  have g1:=aeY f n t hm.1 h1 (by omega)
  have g2:=Jb fs (oE f n t).1 lU hm.2 h2 (by omega)
  rw[Ag,fQ,fQ,g1.2,g2.2]
  refine⟨?_,rfl⟩
  unfold dG
  exact⟨_,_,rfl,g1.1,g2.1⟩
end
def yk(F:af)(fs:List Ty):Prop:=
 ∀(n:Nat) (ts:List T),dG fs ts->kt ts<=1048576->n+64*kt ts<=1099511627776->F ((dy fs n ts).2++[.c (.int .i64 (n:Int))])=some [.c (.int .i64 ((dy fs n ts).1:Int))]
def BT(w:Nat):List Ty->List Nat->Nat->Nat->Nat->(Nat->Nat->PL)->PL
 | [],_,_,c,p,k=>k c p
 | .b::fs,gs,j,c,p,k=>
  .ins (.pr .de [.a 0,.a 4])<| .ins (.pr (.cell w j) [.a 0,.a 4])<| .ins (.pr (.bin .rem) [.a c,.k (.int .i64 3)])<| .ins (.pr (.bin .eql) [.a (p+2),.k (.int .i64 0)])<|
  .ins (.pr (.bb .neq) [.a (p+1),.a (p+3)])<| .ite (p+4) (.ins (.pr .bM [.k (.int .i64 (-1))])<| .ret [.a (p+5)])<| .ins (.pr (.bin .add) [.a c,.k (.int .i64 1)])<|BT w fs gs (j+1) (p+5) (p+6) k
 | .sl _::fs,gs,j,c,p,k=>
  .ins (.pr .de [.a 0,.a 4])<| .ins (.pr (.cell w j) [.a 0,.a 4])<| .ins (.cl (gs.headD 0) [.a (p+1),.a c] 1)<| .ins (.pr (.bin .lss) [.a (p+2),.k (.int .i64 0)])<|
  .ite (p+3) (.ins (.pr .bM [.k (.int .i64 (-1))])<| .ret [.a (p+4)])<|BT w fs gs.tail (j+1) (p+2) (p+4) k
 |_::fs,gs,j,c,p,k=>
  .ins (.pr .de [.a 0,.a 4])<| .ins (.pr (.cell w j) [.a 0,.a 4])<| .ins (.pr (.bin .neq) [.a (p+1),.a c])<| .ite (p+2) (.ins (.pr .bM [.k (.int .i64 (-1))])<| .ret [.a (p+3)])<|
  .ins (.pr (.bin .add) [.a c,.k (.int .i64 1)])<|BT w fs gs (j+1) (p+3) (p+4) k
def Sf(fs:List Ty)(gs:List Nat):PL:=
 .loop [.a 1,.k (.int .i64 0),.k (.int .i64 0)]<|
  .ins (.pr .len [.a 0])<|
  .ins (.pr (.bin .lss) [.a 4,.a 5])<|
  .ite 6 (BT fs.length fs gs 0 2 7 λc p=>.ins (.pr (.bin .add) [.a 4,.k (.int .i64 1)])<| .go 0 [.a c,.a 3,.a p])
  (.ins (.pr .bM [.a 2])<| .ret [.a 7])
def Gw(S:Nat->af):List Ty->List Nat->Prop
 | [],_=>True
 | .sl fs::r,g::gs=>yk (S g) [.sl fs]∧Gw S r gs
 | .sl _::_,[]=>False
 |_::r,gs=>Gw S r gs
theorem m8{ρ:List T}{n:Nat}{t:T}(h:ρ.getD n T.cC=t)(hn:n<ρ.length)(B:List T):(ρ++B).getD n T.cC=t:=by
 rw[<-h]
 simp[List.getD,List.getElem?_append_left hn]
theorem DZ{ρ B:List T}{t:T}:(ρ++t::B).getD ρ.length T.cC=t:=by
 simp[List.getD]
theorem Sg(n:Nat):Prim.ev (.bin .rem) [.c (.int .i64 (n:Int)),.c (.int .i64 3)]=some (.c (.int .i64 ((n%3:Nat):Int))):=by
 simp only[Prim.ev,T.val,lD,Option.bind_some,if_true]
 rw[if_neg (by decide)]
 simp only[Option.bind_some]
 congr 3
theorem Sh(a b:Nat):(((a:Int))==(b:Int))=(a==b):=by
 rw[Bool.eq_iff_iff]
 simp only[beq_iff_eq]
 omega
set_option linter.unusedSimpArgs false
theorem s_{ρ:List T}{p:Nat}(hp:ρ.length=p)(m:Nat)(B:List T):(ρ++B).getD (p+m) T.cC=B.getD m T.cC:=by
 subst hp
 simp only[List.getD,List.getElem?_append_right (Nat.le_add_right _ _),Nat.add_sub_cancel_left]
theorem aeZ{α:Type}{r:List α}{j:Nat}{t:α}{ts:List α}(h:r.drop j=t::ts):r[j]?=some t∧r.drop (j+1)=ts:=by
 have hj:j<r.length:=by
  rcases Nat.lt_or_ge j r.length with h'|h'
  ·exact h'
  ·rw[List.drop_eq_nil_iff.2 h']at h;cases h
 rw[List.drop_eq_getElem_cons hj]at h
 cases h
 exact⟨List.getElem?_eq_getElem hj,rfl⟩
theorem D0{S:Nat->af}{R:Nat}{K:List af}{w i:Nat}{ys:List (List T)}{r:List T}{out:Option (List T)}(hr:ys[i]?=some r)(hw:r.length=w):∀(fs:List Ty) (gs:List Nat) (j c p:Nat) (k:Nat->Nat->PL) (ρ:List T) (n:Nat) (ts:List T),
  Gw S fs gs->lJ fs=true->dG fs ts->kt ts<=1048576->n+fs.length+64*kt ts<=1099511627776->r.drop j=(dy fs n ts).2->ρ.length=p->4<p->ρ.getD 0 T.cC=.l ys->ρ.getD 4 T.cC=.c (.int .i64 (i:Int))->c<p->ρ.getD c T.cC=.c (.int .i64 (n:Int))->
  (∀(c' p':Nat) (B:List T),(ρ++B).length=p'->c'<p'->(ρ++B).getD c' T.cC=.c (.int .i64 ((dy fs n ts).1:Int))->PL.den S R K (ρ++B) (k c' p')=out)->
  PL.den S R K ρ (BT w fs gs j c p k)=out
 | [],gs,j,c,p,k,ρ,n,ts,_,_,_,_,_,_,hp,h4,_,_,hc,hn,hk=>by
  have:=hk c p [] (by simpa using hp) hc (by simpa[Gv]using hn)
  simpa[BT]using this
 |f::fs,gs,j,c,p,k,ρ,n,ts,hS,hm,ht,hb,vS,hd,hp,h4,e0,e4,hc,hn,hk=>by
  unfold dG at ht
  obtain⟨t,lU,rfl,Pf,zj⟩:=ht
  have oT:=DW hm
  rw[Ag]at hd
  obtain⟨hj,jk⟩:=aeZ hd
  simp only[fQ,List.length_cons]at hb vS
  have x0:∀B,(ρ++B).getD 0 T.cC=.l ys:=λB=>m8 e0 (by omega) B
  have x4:∀B,(ρ++B).getD 4 T.cC=.c (.int .i64 (i:Int)):=λB=>m8 e4 (by omega) B
  have xc:∀B,(ρ++B).getD c T.cC=.c (.int .i64 (n:Int)):=λB=>m8 hn (by omega) B
  have xp:=s_ hp
  have xp0:∀B,(ρ++B).getD p T.cC=B.getD 0 T.cC:=λB=>xp 0 B
  have cell:=I5 (k:=.i64) hr hw hj
  have hle:=DY f n t oT.1 Pf
  have wr:IntKind.i64.wrap ((n:Int)+1)=((n+1:Nat):Int):=by rw[BR (by omega) (by omega)];simp
  cases f with
  |i kk=>
   cases kk with
   |i64=>
    rw[xk]at cell
    simp only[BT,kJ,p9,List.map_cons,List.map_nil,gN,eL,e0,e4,hn,x0,x4,xc,xp,xp0,List.append_assoc,List.cons_append,List.nil_append,List.getD_cons_zero,List.getD_cons_succ,eK,BS hr,cell,xi,bne_self_eq_false,rf,cond_false,Ab,wr]
    refine D0 hr hw fs gs (j+1) (p+3) (p+4) k _ (n+1) lU (by simpa[Gw]using hS) oT.2 zj (by omega) (by omega) (by rw[jk,xk]) (by simp[hp]) (by omega) (x0 _) (x4 _) (by omega) (by rw[xp];rfl) ?_
    intro c' p' B h1 h2 h3
    rw[List.append_assoc]at h1 h3⊢
    refine hk c' p' _ h1 h2 ?_
    rw[h3,Ag,xk]
   |_=>simp[u_]at oT
  |b=>
   rw[xl]at cell
   have Jc:(((n%3:Nat):Int)==(0:Int))=(n%3==0):=Sh (n%3) 0
   simp only[BT,kJ,p9,List.map_cons,List.map_nil,gN,eL,e0,e4,hn,x0,x4,xc,xp,xp0,List.append_assoc,List.cons_append,List.nil_append,List.getD_cons_zero,List.getD_cons_succ,eK,BS hr,cell,Sg,DP,Jc,DR,bne_self_eq_false,rf,cond_false,Ab,wr]
   refine D0 hr hw fs gs (j+1) (p+5) (p+6) k _ (n+1) lU (by simpa[Gw]using hS) oT.2 zj (by omega) (by omega) (by rw[jk,xl]) (by simp[hp]) (by omega) (x0 _) (x4 _) (by omega) (by rw[xp];rfl) ?_
   intro c' p' B h1 h2 h3
   rw[List.append_assoc]at h1 h3⊢
   refine hk c' p' _ h1 h2 ?_
   rw[h3,Ag,xl]
  |s=>simp[u_]at oT
  |sl es=>
   cases gs with
   |nil=>simp[Gw]at hS
   |cons g gs=>
    simp only[Gw]at hS
    have o_:=hS.1 n [t] (by unfold dG;exact⟨t,[],rfl,Pf,by unfold dG;rfl⟩) (by simp only[fQ,gL];omega) (by simp only[fQ,gL];omega)
    rw[Ag,Gv]at o_
    simp only[List.cons_append,List.nil_append]at o_
    have D1:¬(((oE (.sl es) n t).1:Int)<0):=by omega
    simp only[BT,kJ,yj,p9,List.map_cons,List.map_nil,gN,eL,e0,e4,hn,x0,x4,xc,xp,xp0,List.append_assoc,List.cons_append,List.nil_append,List.getD_cons_zero,List.getD_cons_succ,eK,BS hr,cell,List.headD_cons,o_,ia,uY,D1,decide_false,rf,cond_false]
    refine D0 hr hw fs gs (j+1) (p+2) (p+4) k _ (oE (.sl es) n t).1 lU hS.2 oT.2 zj (by omega) (by omega) jk (by simp[hp]) (by omega) (x0 _) (x4 _) (by omega) (by rw[xp];rfl) ?_
    intro c' p' B h1 h2 h3
    rw[List.append_assoc]at h1 h3⊢
    refine hk c' p' _ h1 h2 ?_
    rw[h3,Ag]
theorem D2{S:Nat->af}{fs:List Ty}{gs:List Nat}(hS:Gw S fs gs)(hm:u_ (.sl fs)=true):yk (λts=>(Sf fs gs).den S rounds [] ts) [.sl fs]:=by
 intro n ts ht hb hn
 obtain⟨xs,rfl,h2,h3⟩:=ht.R1
 have oT:=xm hm
 rw[fQ,gL,gG,Nat.add_zero]at hb hn
 have hlen:=NT xs
 rw[Ag,Gv,Ah]
 simp only[List.cons_append,List.nil_append,Sf]
 rw[Ad]
 have kH:∀i,iP (xs.take i)<=iP xs:=by
  intro i
  have:=RO (xs.take i) (xs.drop i)
  rw[List.take_append_drop]at this
  omega
 have ta:=λi=>DX (g:=dy fs) (xs:=xs.take i) (λm r hr=>by
  have:=xn fs m r oT.2 (h3 r (List.mem_of_mem_take hr))
  omega) n
 have key:=DS (n:=xs.length) (out:=[T.c (.int .i64 ((dD (dy fs) n xs).1:Int))]) (F:=λself ts=>(PL.den S rounds (self::[]) ([T.l (dD (dy fs) n xs).2,.c (.int .i64 (n:Int))]++ts) (
  .ins (.pr .len [.a 0])<|
  .ins (.pr (.bin .lss) [.a 4,.a 5])<|
  .ite 6 (BT fs.length fs gs 0 2 7 λc p=>.ins (.pr (.bin .add) [.a 4,.k (.int .i64 1)])<| .go 0 [.a c,.a 3,.a p])
  (.ins (.pr .bM [.a 2])<| .ret [.a 7])))) (λi=>[.c (.int .i64 ((dD (dy fs) n (xs.take i)).1:Int)),.c (.int .i64 0),.c (.int .i64 (i:Int))]) ?_ ?_ rounds (by unfold rounds;omega)
 ·exact key
 ·intro i hi self
  obtain⟨r,hr⟩:=NU hi
  have Ja:=h3 r (Gu hr)
  have hbr:=RN hr
  have fP:=Se (g:=dy fs) n hr
  have zC:=Sd (g:=dy fs) hr n
  have lI:=kH (i+1)
  have nh:=jJ_ hr
  have hm1:=ta i
  have a_:(i:Int)<xs.length:=by omega
  have e3:IntKind.i64.wrap ((i:Int)+1)=((i+1:Nat):Int):=by rw[BR (by omega) (by omega)];simp
  generalize hN:(dD (dy fs) n (xs.take i)).1=N at*
  have hlw:=Jb fs N r oT.2 Ja (by omega)
  simp only[kJ,p9,List.map_cons,List.map_nil,gN,eL,List.cons_append,List.nil_append,List.getD_cons_zero,List.getD_cons_succ,eK,s9,NV,uY,a_,decide_true,rf,cond_true]
  refine D0 fP (by rw[hlw.1.length]) fs gs 0 2 7 _ _ N r hS oT.2 Ja (by omega) (by omega) (by rw[List.drop_zero]) rfl (by omega) rfl rfl (by omega) rfl ?_
  intro c' p' B h1 h4 h5
  have h6:=DZ (ρ:=[T.l (dD (dy fs) n xs).2,.c (.int .i64 (n:Int)),.c (.int .i64 (N:Int)),.c (.int .i64 0),.c (.int .i64 (i:Int)),.c (.int .i64 (xs.length:Int)),.c (.bool true)]++B) (B:=[]) (t:=.c (.int .i64 ((i+1:Nat):Int)))
  rw[h1]at h6
  have h7:=m8 h5 (by rw[h1];exact h4) [.c (.int .i64 ((i+1:Nat):Int))]
  simp only[List.cons_append,List.nil_append,List.append_assoc]at h6 h7
  simp only[kJ,Ae,List.map_cons,List.map_nil,gN,eL,List.cons_append,List.nil_append,List.append_assoc,List.getD_cons_zero,List.getD_cons_succ,eK,Ab,e3,h6,h7,zC]
 ·intro self
  have:xs.take xs.length=xs:=List.take_length
  simp only[this,yi,kJ,p9,List.map_cons,List.map_nil,gN,eL,List.cons_append,List.nil_append,List.getD_cons_zero,List.getD_cons_succ,eK,s9,NV,uY,Int.lt_irrefl,decide_false,rf,cond_false,Aa]
set_option linter.unusedSimpArgs false
abbrev Pt:=List (Nat×Nat×Nat)
def fe:Pt->T->Option T
 | [],t=>some t
 |(i,w,j)::P,.l xs=>(xs[i]?).bind λr=>if r.length=w then(r[j]?).bind λt=>t.rows.bind λys=>fe P (.l ys)else none
 |_::_,.c _=>none
def cU:Pt->T->T->T
 | [],_,v=>v
 |(i,w,j)::P,.l xs,v=>.l (setRow xs i j [cU P (((xs[i]?).bind (·[j]?)).getD T.cC) v])
 |_::_,t,_=>t
theorem Jd{i w j:Nat}{P:Pt}{t d:T}(h:fe ((i,w,j)::P) t=some d):∃xs r ys,t=.l xs∧xs[i]?=some r∧r.length=w∧r[j]?=some (.l ys)∧fe P (.l ys)=some d:=by
 cases t with
 |c v=>simp[fe]at h
 |l xs=>
  simp only[fe,cm]at h
  obtain⟨r,hr,h⟩:=h
  split at h
  ·rename_i hw
   rw[cm]at h
   obtain⟨u,hu,h⟩:=h
   cases u with
   |c v=>simp[T.rows]at h
   |l ys=>exact⟨xs,r,ys,rfl,hr,hw,hu,by simpa[T.rows]using h⟩
  ·cases h
theorem Je{i w j:Nat}{P:Pt}{xs:List (List T)}{r:List T}{ys:List (List T)}{d:T}(h1:xs[i]?=some r)(h2:r.length=w)(h3:r[j]?=some (.l ys))(h4:fe P (.l ys)=some d):fe ((i,w,j)::P) (.l xs)=some d:=by
 simp[fe,h1,h2,h3,T.rows,h4]
theorem D3{xs:List (List T)}{i:Nat}{a b:List T}{t v:T}{j:Nat}(h:xs[i]?=some (a++t::b))(hj:a.length=j):setRow xs i j [v]=xs.set i (a++v::b):=by
 subst hj
 unfold setRow
 apply List.ext_getElem?
 intro k
 rw[List.getElem?_modify,List.getElem?_set]
 by_cases hk:i=k
 ·subst hk
  have hi:i<xs.length:=(List.getElem?_eq_some_iff.1 h).1
  rw[h]
  simp[hi]
 ·simp[hk]
theorem Jf{r:List T}{j:Nat}{t:T}(h:r[j]?=some t):∃a b,r=a++t::b∧a.length=j:=by
 obtain⟨hj,he⟩:=List.getElem?_eq_some_iff.1 h
 refine⟨r.take j,r.drop (j+1),?_,by simp;omega⟩
 rw[<-he,<-List.drop_eq_getElem_cons hj,List.take_append_drop]
theorem ae1{xs:List (List T)}{i:Nat}{r:List T}{t v:T}{j:Nat}(h:xs[i]?=some r)(hj:r[j]?=some t):∃r',(setRow xs i j [v])[i]?=some r'∧r'.length=r.length∧r'[j]?=some v:=by
 obtain⟨a,b,rfl,ha⟩:=Jf hj
 have hi:i<xs.length:=(List.getElem?_eq_some_iff.1 h).1
 rw[D3 h ha]
 refine⟨a++v::b,by simp[hi],by simp,?_⟩
 subst ha
 simp
theorem Ai:∀{P:Pt} {t d:T} {v:List (List T)},fe P t=some d->fe P (cU P t (.l v))=some (.l v)
 | [],t,d,v,_=>rfl
 |(i,w,j)::P,t,d,v,h=>by
  obtain⟨xs,r,ys,rfl,h1,h2,h3,h4⟩:=Jd h
  have ih:=Ai (v:=v) h4
  have e:((xs[i]?).bind (·[j]?)).getD T.cC=.l ys:=by simp[h1,h3]
  simp only[cU,e]
  cases hs:cU P (.l ys) (.l v)with
  |c u=>rw[hs]at ih;cases P with
   |nil=>simp[fe]at ih
   |cons q P=>obtain⟨q1,q2,q3⟩:=q;simp[fe]at ih
  |l zs=>
   obtain⟨r',g1,g2,g3⟩:=ae1 (v:=.l zs) h1 h3
   rw[hs]at ih
   exact Je g1 (by rw[g2,h2]) g3 ih
theorem Jg:∀{P:Pt} {t d:T} {v:List (List T)} {v':T},fe P t=some d->cU P (cU P t (.l v)) v'=cU P t v'
 | [],t,d,v,v',_=>rfl
 |(i,w,j)::P,t,d,v,v',h=>by
  obtain⟨xs,r,ys,rfl,h1,h2,h3,h4⟩:=Jd h
  have ih:=Jg (v:=v) (v':=v') h4
  have e:((xs[i]?).bind (·[j]?)).getD T.cC=.l ys:=by simp[h1,h3]
  obtain⟨a,b,rfl,ha⟩:=Jf h3
  have hi:i<xs.length:=(List.getElem?_eq_some_iff.1 h1).1
  have e2:∀u:T,(((setRow xs i j [u])[i]?).bind (·[j]?)).getD T.cC=u:=by
   intro u
   rw[D3 h1 ha]
   subst ha
   simp[hi]
  simp only[cU,e,e2,ih]
  congr 1
  have g1:(xs.set i (a++cU P (.l ys) (.l v)::b))[i]?=some (a++cU P (.l ys) (.l v)::b):=by simp[hi]
  rw[D3 h1 ha,D3 h1 ha,D3 g1 ha,List.set_set]
theorem Si{xs:List (List T)}{i:Nat}{r:List T}(h:xs[i]?=some r):xs.set i r=xs:=by
 apply List.ext_getElem?
 intro k
 rw[List.getElem?_set]
 by_cases hk:i=k
 ·subst hk
  have hi:i<xs.length:=(List.getElem?_eq_some_iff.1 h).1
  simp[hi,h.symm]
 ·simp[hk]
theorem Jh:∀{P:Pt} {t d:T},fe P t=some d->cU P t d=t
 | [],t,d,h=>by simp only[fe,bc]at h;exact h.symm
 |(i,w,j)::P,t,d,h=>by
  obtain⟨xs,r,ys,rfl,h1,h2,h3,h4⟩:=Jd h
  have ih:=Jh h4
  have e:((xs[i]?).bind (·[j]?)).getD T.cC=.l ys:=by simp[h1,h3]
  obtain⟨a,b,rfl,ha⟩:=Jf h3
  simp only[cU,e,ih]
  rw[D3 h1 ha,Si h1]
theorem Sj:∀{P Q:Pt} {t:T},fe (P++Q) t=(fe P t).bind (fe Q)
 | [],Q,t=>rfl
 |(i,w,j)::P,Q,.c v=>by simp[fe]
 |(i,w,j)::P,Q,.l xs=>by
  simp only[List.cons_append,fe]
  cases xs[i]? with
  |none=>rfl
  |some r=>
   simp only[Option.bind_some]
   split
   ·cases r[j]? with
    |none=>rfl
    |some u=>
     simp only[Option.bind_some]
     cases u with
     |c v=>rfl
     |l ys=>simp only[T.rows,Option.bind_some];exact Sj
   ·rfl
theorem Sk:∀{P Q:Pt} {t d v:T},fe P t=some d->cU (P++Q) t v=cU P t (cU Q d v)
 | [],Q,t,d,v,h=>by simp only[fe,bc]at h;subst h;rfl
 |(i,w,j)::P,Q,t,d,v,h=>by
  obtain⟨xs,r,ys,rfl,h1,h2,h3,h4⟩:=Jd h
  have e:((xs[i]?).bind (·[j]?)).getD T.cC=.l ys:=by simp[h1,h3]
  simp only[List.cons_append,cU,e,Sk h4]
def cG(ρ:List T):Pt->Pt->Prop
 | [],[]=>True
 |(a,w,j)::P,(i,w',j')::Q=>w=w'∧j=j'∧a<ρ.length∧ρ.getD a T.cC=.c (.int .i64 (i:Int))∧cG ρ P Q
 |_,_=>False
theorem cG.ext{ρ:List T}(B:List T):∀{P Q:Pt},cG ρ P Q->cG (ρ++B) P Q
 | [],[],_=>trivial
 |(a,w,j)::P,(i,w',j')::Q,⟨h1,h2,h3,h4,h5⟩=>⟨h1,h2,by simp;omega,m8 h4 h3 B,cG.ext B h5⟩
 | [],_::_,h=>h.elim
 |(_,_,_)::_,[],h=>h.elim
theorem cG.snoc{ρ:List T}{a i w j:Nat}(h1:a<ρ.length)(h2:ρ.getD a T.cC=.c (.int .i64 (i:Int))):∀{P Q:Pt},cG ρ P Q->cG ρ (P++[(a,w,j)]) (Q++[(i,w,j)])
 | [],[],_=>⟨rfl,rfl,h1,h2,trivial⟩
 |(a',w',j')::P,(i',w'',j'')::Q,⟨g1,g2,g3,g4,g5⟩=>⟨g1,g2,g3,g4,cG.snoc h1 h2 g5⟩
 | [],_::_,h=>h.elim
 |(_,_,_)::_,[],h=>h.elim
def p_:Pt->Nat->Nat->(Nat->Nat->PL)->PL
 | [],s,p,k=>k s p
 |(a,w,j)::P,s,p,k=>.ins (.pr (.bD w j) [.a s,.a a]) (p_ P p (p+1) k)
def xo:Pt->Nat->Nat->Nat->Nat->(Nat->Nat->PL)->PL
 | [],_,_,v,p,k=>k v p
 |(a,w,j)::P,e,e',v,p,k=>xo P e' (e'+1) v p λv' p'=>.ins (.pr (.dT w j) [.a e,.a a,.a v']) (k p' (p'+1))
theorem Sl{xs:List (List T)}{i w j:Nat}{r:List T}{ys:List (List T)}(h:xs[i]?=some r)(hw:r.length=w)(hj:r[j]?=some (.l ys)):Prim.ev (.bD w j) [.l xs,.c (.int .i64 (i:Int))]=some (.l ys):=by
 simp[Prim.ev,Ac h,hw,hj,T.rows]
theorem ae2{xs:List (List T)}{i w j:Nat}{r:List T}{v:T}(h:xs[i]?=some r)(hw:r.length=w)(hj:j<w):Prim.ev (.dT w j) [.l xs,.c (.int .i64 (i:Int)),v]=some (.l (setRow xs i j [v])):=by
 simp[Prim.ev,Ac h,hw,hj,T.rows,T.int]
def j9:Pt->T->List T
 | [],_=>[]
 |(i,w,j)::P,t=>match fe [(i,w,j)] t with
  |some u=>u::j9 P u
  |none=>[]
theorem Ji{i w j:Nat}{P:Pt}{xs:List (List T)}{r:List T}{ys:List (List T)}(h1:xs[i]?=some r)(h2:r.length=w)(h3:r[j]?=some (.l ys)):j9 ((i,w,j)::P) (.l xs)=.l ys::j9 P (.l ys):=by
 simp only[j9,Je h1 h2 h3 (P:=[]) rfl]
section
variable {S:Nat->af} {R:Nat} {K:List af} {out:Option (List T)}
theorem Gx:∀{P Q:Pt} {s p:Nat} {k:Nat->Nat->PL} {ρ:List T} {t d:T},cG ρ P Q->fe Q t=some d->ρ.length=p->s<p->ρ.getD s T.cC=t->
  (∀e,(j9 Q t).length=P.length->e<p+P.length->(ρ++j9 Q t).getD e T.cC=d->PL.den S R K (ρ++j9 Q t) (k e (p+P.length))=out)->PL.den S R K ρ (p_ P s p k)=out
 | [],[],s,p,k,ρ,t,d,_,hg,hp,hs,ht,hk=>by
  simp only[fe,bc]at hg
  subst hg
  have:=hk s rfl (by simpa using hs) (by simpa[j9]using ht)
  simpa[j9,p_]using this
 |(a,w,j)::P,(i,w',j')::Q,s,p,k,ρ,t,d,⟨z1,z2,h3,h4,h5⟩,hg,hp,hs,ht,hk=>by
  subst z1 z2
  obtain⟨xs,r,ys,rfl,g1,g2,g3,g4⟩:=Jd hg
  rw[Ji g1 g2 g3]at hk
  simp only[p_,kJ,List.map_cons,List.map_nil,eL,ht,h4,Sl g1 g2 g3,eK]
  refine Gx (cG.ext _ h5) g4 (by simp[hp]) (by omega) (by rw[<-hp];exact DZ) λe he1 he2 he3=>?_
  rw[List.append_assoc]at he3⊢
  have:=hk e (by simp[he1]) (by simp;omega) he3
  simpa[Nat.add_assoc,Nat.add_comm 1]using this
 | [],_::_,_,_,_,_,_,_,h,_,_,_,_,_=>h.elim
 |(_,_,_)::_,[],_,_,_,_,_,_,h,_,_,_,_,_=>h.elim
theorem Sm:∀{P Q:Pt} {e e' v p:Nat} {k:Nat->Nat->PL} {ρ:List T} {t d vv:T},cG ρ P Q->fe Q t=some d->ρ.length=p->e<p->ρ.getD e T.cC=t->(∀m x,(j9 Q t)[m]?=some x->e'+m<p∧ρ.getD (e'+m) T.cC=x)->v<p->ρ.getD v T.cC=vv->
  (∀(B:List T) (v' p':Nat),(ρ++B).length=p'->v'<p'->(ρ++B).getD v' T.cC=cU Q t vv->PL.den S R K (ρ++B) (k v' p')=out)->PL.den S R K ρ (xo P e e' v p k)=out
 | [],[],e,e',v,p,k,ρ,t,d,vv,_,hg,hp,he,ht,hc,hv,rM,hk=>by
  have:=hk [] v p (by simpa using hp) hv (by simpa[cU]using rM)
  simpa[xo]using this
 |(a,w,j)::P,(i,w',j')::Q,e,e',v,p,k,ρ,t,d,vv,⟨z1,z2,h3,h4,h5⟩,hg,hp,he,ht,hc,hv,rM,hk=>by
  subst z1 z2
  obtain⟨xs,r,ys,rfl,g1,g2,g3,g4⟩:=Jd hg
  rw[Ji g1 g2 g3]at hc
  have c0:=hc 0 _ rfl
  have hjw:j<w:=by rw[<-g2];exact(List.getElem?_eq_some_iff.1 g3).1
  rw[show xo ((a,w,j)::P) e e' v p k=xo P e' (e'+1) v p (λv' p'=>.ins (.pr (.dT w j) [.a e,.a a,.a v']) (k p' (p'+1))) from rfl]
  refine Sm h5 g4 hp c0.1 c0.2 (λm x hm=>?_) hv rM λB v' p' q1 q2 q3=>?_
  ·have:=hc (m+1) x (by simpa using hm)
   rw[show e'+1+m=e'+(m+1) by omega]
   exact this
  ·have x1:=m8 ht (by omega) B
   have x2:=m8 h4 h3 B
   simp only[kJ,List.map_cons,List.map_nil,eL,x1,x2,q3,ae2 g1 g2 hjw,eK]
   rw[List.append_assoc]
   have e0:((xs[i]?).bind (·[j]?)).getD T.cC=.l ys:=by simp[g1,g3]
   refine hk _ p' (p'+1) (by simp at q1⊢;omega) (by omega) ?_
   rw[<-List.append_assoc,<-q1,DZ]
   simp only[cU,e0]
 | [],_::_,_,_,_,_,_,_,_,_,_,h,_,_,_,_,_,_,_,_=>h.elim
 |(_,_,_)::_,[],_,_,_,_,_,_,_,_,_,h,_,_,_,_,_,_,_,_=>h.elim
def D4(P:Pt)(k w j s v p:Nat)(cont:Nat->Nat->PL):PL:=
 p_ P s p λd p1=>.ins (.pr .de [.a d,.a k])<|p_ P s (p1+1) λd2 p2=>.ins (.pr (.put true w j 1) [.a d2,.a k,.a v])<|
  match P with
  | []=>cont p2 (p2+1)
  |_::_=>p_ P s (p2+1) λ_ p3=>xo P s (p2+1) p2 p3 cont
theorem Sn{P Q:Pt}{k w j s v p kv:Nat}{cont:Nat->Nat->PL}{ρ:List T}{t vv:T}{xs:List (List T)}{r:List T}(hP:cG ρ P Q)(hg:fe Q t=some (.l xs))(hp:ρ.length=p)(hs:s<p)(ht:ρ.getD s T.cC=t)
  (hkp:k<p)(hk:ρ.getD k T.cC=.c (.int .i64 (kv:Int)))(hv:v<p)(rM:ρ.getD v T.cC=vv)(lR:eh vv=true)(hr:xs[kv]?=some r)(hw:r.length=w)(hj:j<w)
  (hc:∀(B:List T) (s' p':Nat),(ρ++B).length=p'->s'<p'->(ρ++B).getD s' T.cC=cU Q t (.l (setRow xs kv j [vv]))->PL.den S R K (ρ++B) (cont s' p')=out):PL.den S R K ρ (D4 P k w j s v p cont)=out:=by
 have kj:=I6 (sc:=true) (k:=.i64) (off:=j) (n:=1) (vs:=[vv]) hr hw (by omega) rfl (by simp[lR])
 unfold D4
 refine Gx hP hg hp hs ht λe a1 a2 a3=>?_
 have l1:(ρ++j9 Q t).length=p+P.length:=by simp[hp,a1]
 simp only[kJ,List.map_cons,List.map_nil,eL,a3,m8 hk (by omega) _,BS hr,eK,List.append_assoc]
 refine Gx (cG.ext _ hP) hg (by simp[hp,a1];omega) (by omega) (m8 ht (by omega) _) λe2 b1 b2 b3=>?_
 simp only[List.append_assoc]at b3⊢
 simp only[kJ,List.map_cons,List.map_nil,eL,b3,m8 hk (by omega) _,m8 rM (by omega) _,kj,eK,List.append_assoc]
 cases P with
 |nil=>
  cases Q with
  |cons _ _=>exact hP.elim
  |nil=>
   simp only[fe,bc]at hg
   refine hc _ _ _ (by simp[hp,j9]) (by simp) ?_
   simp only[j9,List.nil_append,List.length_nil,Nat.add_zero,List.cons_append]
   rw[show p+1=p+1 from rfl,s_ hp]
   rfl
 |cons q P=>
  simp only
  refine Gx (cG.ext _ hP) hg (by simp[hp,a1];omega) (by omega) (m8 ht (by omega) _) λe3 c1 c2 c3=>?_
  simp only[List.append_assoc]at c3⊢
  have l3:(ρ++(j9 Q t++([T.c (.bool true)]++(j9 Q t++([T.l (setRow xs kv j [vv])]++j9 Q t))))).length=p+(q::P).length+1+(q::P).length+1+(q::P).length:=by simp[hp,a1];omega
  refine Sm (cG.ext _ hP) hg l3 (by omega) (m8 ht (by omega) _) (λm x hm=>?_) (by omega) (vv:=.l (setRow xs kv j [vv])) ?_ λB s' p' d1 d2 d3=>?_
  ·have hml:m<(j9 Q t).length:=(List.getElem?_eq_some_iff.1 hm).1
   refine⟨by omega,?_⟩
   have:=s_ (ρ:=ρ++(j9 Q t++([T.c (.bool true)]++(j9 Q t++[T.l (setRow xs kv j [vv])])))) (p:=p+(q::P).length+1+(q::P).length+1) (by simp[hp,a1];omega) m (j9 Q t)
   simp only[List.append_assoc]at this
   rw[this]
   simp[List.getD,hm]
  ·have:=s_ (ρ:=ρ++(j9 Q t++([T.c (.bool true)]++j9 Q t))) (p:=p+(q::P).length+1+(q::P).length) (by simp[hp,a1];omega) 0 ([T.l (setRow xs kv j [vv])]++j9 Q t)
   simp only[List.append_assoc,Nat.add_zero]at this
   rw[this]
   rfl
  ·rw[List.append_assoc]at d1 d3⊢
   exact hc _ s' p' d1 d2 d3
end
set_option linter.unusedSimpArgs false
abbrev vd:=Pt->Nat->Nat->Nat->Nat->Nat->(Nat->Nat->Nat->Nat->PL)->PL
def NW(oF:vd)(P:Pt)(cl:Lf)(s p:Nat)(cont:Nat->Nat->Nat->PL):PL:=
 .loop [cl,.k (.int .i64 0),.a s] (p_ P (p+2) (p+3) λd p1=>.ins (.pr .len [.a d])<| .ins (.pr (.bin .lss) [.a (p+1),.a p1])<|
  .ite (p1+1) (oF P (p+1) (p+2) p (p1+2) 0 λs c p' q=>.ins (.pr (.bin .add) [.a (p+1),.k (.int .i64 1)])<| .go q [.a c,.a p',.a s]) (cont p (p+2) (p1+2)))
mutual
def Aj:Ty->Nat->Nat->vd
 | .i _,w,j,P,k,s,c,p,q,cont=>D4 P k w j s c p λs' p'=>.ins (.pr (.bin .add) [.a c,.k (.int .i64 1)]) (cont s' p' (p'+1) q)
 | .b,w,j,P,k,s,c,p,q,cont=>.ins (.pr (.bin .rem) [.a c,.k (.int .i64 3)])<| .ins (.pr (.bin .eql) [.a p,.k (.int .i64 0)])<|
   D4 P k w j s (p+1) (p+2) λs' p'=>.ins (.pr (.bin .add) [.a c,.k (.int .i64 1)]) (cont s' p' (p'+1) q)
 | .s,w,j,P,k,s,c,p,q,cont=>cont s c p q
 | .sl es,w,j,P,k,s,c,p,q,cont=>p_ P s p λd p1=>.ins (.pr .de [.a d,.a k])<|p_ P s (p1+1) λd2 p2=>.ins (.pr (.bD w j) [.a d2,.a k])<|
   NW (tb es es.length 0) (P++[(k,w,j)]) (.a c) s (p2+1) λc' s' p'=>cont s' c' p' (q+1)
def tb:List Ty->Nat->Nat->vd
 | [],w,j,P,k,s,c,p,q,cont=>cont s c p q
 |f::fs,w,j,P,k,s,c,p,q,cont=>Aj f w j P k s c p q λs' c' p' q'=>tb fs w (j+1) P k s' c' p' q' cont
end
def NX(S:Nat->af)(w:Nat)(fs:List Ty)(j:Nat)(oF:vd):Prop:=
 ∀(out:Option (List T)) (K:List af) (P Q:Pt) (k s c p q kv n:Nat) (cont:Nat->Nat->Nat->Nat->PL) (ρ:List T) (t:T) (xs:List (List T)) (dn ts:List T),cG ρ P Q->fe Q t=some (.l xs)->ρ.length=p->s<p->ρ.getD s T.cC=t->
  k<p->ρ.getD k T.cC=.c (.int .i64 (kv:Int))->c<p->ρ.getD c T.cC=.c (.int .i64 (n:Int))->xs[kv]?=some (dn++ts)->dn.length=j->(dn++ts).length=w->dG fs ts->kt ts<=1048576->n+fs.length+64*kt ts<=1099511627776->
  (∀(Ks:List af) (B:List T) (s' c' p':Nat),(ρ++B).length=p'->s'<p'->c'<p'->(ρ++B).getD c' T.cC=.c (.int .i64 ((dy fs n ts).1:Int))->(ρ++B).getD s' T.cC=cU Q t (.l (xs.set kv (dn++(dy fs n ts).2)))->
   PL.den S rounds (Ks++K) (ρ++B) (cont s' c' p' (q+Ks.length))=out)->PL.den S rounds K ρ (oF P k s c p q cont)=out
theorem So{S:Nat->af}{R:Nat}{f:af}{K:List af}{ρ:List T}(xs:List Lf):∀Ks:List af,PL.den S R (Ks++f::K) ρ (.go Ks.length xs)=f (xs.map (Lf.ev ρ))
 | []=>by simp only[List.nil_append,List.length_nil,Ae]
 |g::Ks=>by simp only[List.cons_append,List.length_cons,RY];exact So xs Ks
theorem Sp{S:Nat->af}{out:Option (List T)}{K:List af}{es:List Ty}{oF:vd}(hF:NX S es.length es 0 oF)(hl:es.length<=64)(hm:lJ es=true){P Q:Pt}{cl:Lf}{s p n:Nat}{cont:Nat->Nat->Nat->PL}{ρ:List T}{t:T}{xs:List (List T)}
  (hP:cG ρ P Q)(hg:fe Q t=some (.l xs))(hp:ρ.length=p)(hs:s<p)(ht:ρ.getD s T.cC=t)(hc:Lf.ev ρ cl=.c (.int .i64 (n:Int)))(hw:∀r∈xs,dG es r)(hb:iP xs<=1048576)(hn:n+64*iP xs<=1099511627776)
  (hk:∀f:af,PL.den S rounds (f::K) (ρ++([T.c (.int .i64 ((dD (dy es) n xs).1:Int)),T.c (.int .i64 (xs.length:Int)),cU Q t (.l (dD (dy es) n xs).2)]++(j9 Q (cU Q t (.l (dD (dy es) n xs).2))++[T.c (.int .i64 (xs.length:Int)),T.c (.bool false)])))
   (cont p (p+2) (p+3+P.length+2))=out):PL.den S rounds K ρ (NW oF P cl s p cont)=out:=by
 have hlen:=NT xs
 have kH:∀i,iP (xs.take i)<=iP xs:=by
  intro i
  have:=RO (xs.take i) (xs.drop i)
  rw[List.take_append_drop]at this
  omega
 have ta:=λi=>DX (g:=dy es) (xs:=xs.take i) (λm r hr=>by
  have:=xn es m r hm (hw r (List.mem_of_mem_take hr))
  omega) n
 unfold NW
 rw[Ad]
 simp only[List.map_cons,List.map_nil,hc,gN,eL,ht]
 have jx:∀i,(dD (dy es) n (xs.take i)).2.length=(xs.take i).length:=λi=>NV _ _
 refine aeW (n:=xs.length) (Inv:=λi x=>x=[T.c (.int .i64 ((dD (dy es) n (xs.take i)).1:Int)),T.c (.int .i64 (i:Int)),cU Q t (.l ((dD (dy es) n (xs.take i)).2++xs.drop i))]) (Q:=λo=>o=out) ?_ ?_ ?_ (by unfold rounds;omega)
 ·rintro i x hi rfl self
  left
  refine⟨_,rfl,?_⟩
  obtain⟨r,hr⟩:=NU hi
  have Ja:=hw r (Gu hr)
  have hbr:=RN hr
  have lI:=kH (i+1)
  have nh:=jJ_ hr
  have hm1:=ta i
  have zC:=Sd (g:=dy es) hr n
  have O6:=jx i
  have hil:(xs.take i).length=i:=by simp;omega
  have a_:(i:Int)<xs.length:=by omega
  have e3:IntKind.i64.wrap ((i:Int)+1)=((i+1:Nat):Int):=by rw[BR (by omega) (by omega)];simp
  generalize hN:(dD (dy es) n (xs.take i)).1=N at*
  generalize hA:(dD (dy es) n (xs.take i)).2=A at*
  have hdr:xs.drop i=r::xs.drop (i+1):=by
   rw[List.drop_eq_getElem_cons hi]
   rw[List.getElem?_eq_getElem hi]at hr
   cases hr
   rfl
  have hgi:=Ai (v:=A++xs.drop i) hg
  have Rt:(A++xs.drop i)[i]?=some r:=by
   rw[List.getElem?_append_right (by omega),hdr,O6,hil,Nat.sub_self]
   rfl
  have hll:(A++xs.drop i).length=xs.length:=by simp;omega
  refine Gx (cG.ext _ hP) hgi (s:=p+2) (p:=p+3) (by simp[hp]) (by omega) (by rw[s_ hp];rfl) λd a1 a2 a3=>?_
  have tc:(ρ++[T.c (.int .i64 (N:Int)),T.c (.int .i64 (i:Int)),cU Q t (.l (A++xs.drop i))]++j9 Q (cU Q t (.l (A++xs.drop i)))).length=p+3+P.length:=by simp[hp,a1];omega
  have x1:∀B,(ρ++[T.c (.int .i64 (N:Int)),T.c (.int .i64 (i:Int)),cU Q t (.l (A++xs.drop i))]++j9 Q (cU Q t (.l (A++xs.drop i)))++B).getD (p+1) T.cC=.c (.int .i64 (i:Int)):=λB=>by
   rw[List.append_assoc,List.append_assoc,s_ hp];rfl
  have x0:∀B,(ρ++[T.c (.int .i64 (N:Int)),T.c (.int .i64 (i:Int)),cU Q t (.l (A++xs.drop i))]++j9 Q (cU Q t (.l (A++xs.drop i)))++B).getD p T.cC=.c (.int .i64 (N:Int)):=λB=>by
   have:=s_ hp 0 ([T.c (.int .i64 (N:Int)),T.c (.int .i64 (i:Int)),cU Q t (.l (A++xs.drop i))]++(j9 Q (cU Q t (.l (A++xs.drop i)))++B))
   rw[List.append_assoc,List.append_assoc];exact this
  have x2:∀B,(ρ++[T.c (.int .i64 (N:Int)),T.c (.int .i64 (i:Int)),cU Q t (.l (A++xs.drop i))]++j9 Q (cU Q t (.l (A++xs.drop i)))++B).getD (p+2) T.cC=cU Q t (.l (A++xs.drop i)):=λB=>by
   rw[List.append_assoc,List.append_assoc,s_ hp];rfl
  have hPx:∀B,cG (ρ++[T.c (.int .i64 (N:Int)),T.c (.int .i64 (i:Int)),cU Q t (.l (A++xs.drop i))]++j9 Q (cU Q t (.l (A++xs.drop i)))++B) P Q:=λB=>by
   rw[List.append_assoc,List.append_assoc];exact cG.ext _ hP
  generalize mA:ρ++[T.c (.int .i64 (N:Int)),T.c (.int .i64 (i:Int)),cU Q t (.l (A++xs.drop i))]++j9 Q (cU Q t (.l (A++xs.drop i)))=ρ1 at*
  have y1:=x1 [T.c (.int .i64 (xs.length:Int))]
  have y2:(ρ1++[T.c (.int .i64 (xs.length:Int))]).getD (p+3+P.length) T.cC=.c (.int .i64 (xs.length:Int)):=by rw[<-tc];exact DZ
  have y3:(ρ1++[T.c (.int .i64 (xs.length:Int)),T.c (.bool true)]).getD (p+3+P.length+1) T.cC=.c (.bool true):=by rw[s_ tc];rfl
  simp only[kJ,p9,List.map_cons,List.map_nil,eL,a3,s9,hll,eK,y1,y2,uY,a_,decide_true,List.append_assoc,List.cons_append,List.nil_append,y3,rf,cond_true]
  refine hF _ (self::K) P Q (p+1) (p+2) p (p+3+P.length+2) 0 i N _ _ _ (A++xs.drop i) [] r (hPx _) hgi (by simp only[List.length_append,tc,List.length_cons,List.length_nil]) (by omega) (x2 _) (by omega) (x1 _) (by omega) (x0 _) Rt rfl Ja.length Ja (by omega) (by omega) ?_
  intro Ks B s' c' p' q1 q2 q3 q4 q5
  have z1:(ρ1++([T.c (.int .i64 (xs.length:Int)),T.c (.bool true)]++B)).getD (p+1) T.cC=.c (.int .i64 (i:Int)):=x1 _
  rw[List.append_assoc]at q1 q4 q5⊢
  have z2:((ρ1++([T.c (.int .i64 (xs.length:Int)),T.c (.bool true)]++B))++[T.c (.int .i64 ((i+1:Nat):Int))]).getD p' T.cC=.c (.int .i64 ((i+1:Nat):Int)):=by rw[<-q1];exact DZ
  have z3:=m8 q4 (by rw[q1];exact q3) [T.c (.int .i64 ((i+1:Nat):Int))]
  have z4:=m8 q5 (by rw[q1];exact q2) [T.c (.int .i64 ((i+1:Nat):Int))]
  rw[kJ]
  simp only[List.map_cons,List.map_nil,eL,gN,z1,Ab,e3,eK,Nat.zero_add]
  rw[So]
  simp only[List.map_cons,List.map_nil,eL,z2,z3,z4]
  rw[zC]
  congr 4
  rw[Jg hg]
  congr 2
  rw[hdr,List.set_append_right _ _ (by omega),O6,hil,Nat.sub_self]
  simp
 ·rintro x rfl self
  rw[show xs.take xs.length=xs from List.take_length,show xs.drop xs.length=[] from List.drop_length,List.append_nil]
  have hgi:=Ai (v:=(dD (dy es) n xs).2) hg
  refine Gx (cG.ext _ hP) hgi (s:=p+2) (p:=p+3) (by simp[hp]) (by omega) (by rw[s_ hp];rfl) λd a1 a2 a3=>?_
  have tc:(ρ++[T.c (.int .i64 ((dD (dy es) n xs).1:Int)),T.c (.int .i64 (xs.length:Int)),cU Q t (.l (dD (dy es) n xs).2)]++j9 Q (cU Q t (.l (dD (dy es) n xs).2))).length=p+3+P.length:=by simp[hp,a1];omega
  have x1:∀B,(ρ++[T.c (.int .i64 ((dD (dy es) n xs).1:Int)),T.c (.int .i64 (xs.length:Int)),cU Q t (.l (dD (dy es) n xs).2)]++j9 Q (cU Q t (.l (dD (dy es) n xs).2))++B).getD (p+1) T.cC=.c (.int .i64 (xs.length:Int)):=λB=>by
   rw[List.append_assoc,List.append_assoc,s_ hp];rfl
  have x0:∀B,(ρ++([T.c (.int .i64 ((dD (dy es) n xs).1:Int)),T.c (.int .i64 (xs.length:Int)),cU Q t (.l (dD (dy es) n xs).2)]++(j9 Q (cU Q t (.l (dD (dy es) n xs).2))++B))).getD p T.cC=.c (.int .i64 ((dD (dy es) n xs).1:Int)):=λB=>s_ hp 0 _
  have x2:∀B,(ρ++([T.c (.int .i64 ((dD (dy es) n xs).1:Int)),T.c (.int .i64 (xs.length:Int)),cU Q t (.l (dD (dy es) n xs).2)]++(j9 Q (cU Q t (.l (dD (dy es) n xs).2))++B))).getD (p+2) T.cC=cU Q t (.l (dD (dy es) n xs).2):=λB=>by
   rw[s_ hp];rfl
  have y1:=x1 [T.c (.int .i64 (xs.length:Int))]
  have y2:(ρ++[T.c (.int .i64 ((dD (dy es) n xs).1:Int)),T.c (.int .i64 (xs.length:Int)),cU Q t (.l (dD (dy es) n xs).2)]++j9 Q (cU Q t (.l (dD (dy es) n xs).2))++[T.c (.int .i64 (xs.length:Int))]).getD (p+3+P.length) T.cC=.c (.int .i64 (xs.length:Int)):=by rw[<-tc];exact DZ
  have y3:(ρ++[T.c (.int .i64 ((dD (dy es) n xs).1:Int)),T.c (.int .i64 (xs.length:Int)),cU Q t (.l (dD (dy es) n xs).2)]++j9 Q (cU Q t (.l (dD (dy es) n xs).2))++[T.c (.int .i64 (xs.length:Int)),T.c (.bool false)]).getD (p+3+P.length+1) T.cC=.c (.bool false):=by rw[s_ tc];rfl
  rw[kJ]
  simp only[List.map_cons,List.map_nil,eL,a3,s9,NV,eK]
  rw[kJ]
  simp only[List.map_cons,List.map_nil,eL,y1,y2,uY,Int.lt_irrefl,decide_false,eK]
  rw[p9,List.append_assoc _ [_] [_]]
  simp only[List.cons_append,List.nil_append]at y3⊢
  rw[y3]
  simp only[rf,cond_false]
  have:=hk self
  simpa using this
 ·rw[List.take_zero,List.drop_zero]
  simp only[dD,List.nil_append,Jh hg]
  rfl
theorem ae4{S:Nat->af}{out:Option (List T)}{K:List af}{es:List Ty}{oF:vd}(hF:NX S es.length es 0 oF)(hl:es.length<=64)(hm:lJ es=true){P Q:Pt}{cl:Lf}{s p n:Nat}{cont:Nat->Nat->Nat->PL}{ρ:List T}{t:T}{xs:List (List T)}
  (hP:cG ρ P Q)(hg:fe Q t=some (.l xs))(hp:ρ.length=p)(hs:s<p)(ht:ρ.getD s T.cC=t)(hc:Lf.ev ρ cl=.c (.int .i64 (n:Int)))(hw:∀r∈xs,dG es r)(hb:iP xs<=1048576)(hn:n+64*iP xs<=1099511627776)
  (hk:∀(f:af) (B:List T) (c' s' p':Nat),(ρ++B).length=p'->c'<p'->s'<p'->(ρ++B).getD c' T.cC=.c (.int .i64 ((dD (dy es) n xs).1:Int))->(ρ++B).getD s' T.cC=cU Q t (.l (dD (dy es) n xs).2)->
   PL.den S rounds (f::K) (ρ++B) (cont c' s' p')=out):PL.den S rounds K ρ (NW oF P cl s p cont)=out:=by
 refine Sp hF hl hm hP hg hp hs ht hc hw hb hn λf=>?_
 have hPQ:∀{P Q:Pt} {t d:T},cG ρ P Q->fe Q t=some d->(j9 Q t).length=P.length:=by
  intro P
  induction P with
  |nil=>intro Q t d hP hg;cases Q with
   |nil=>rfl
   |cons _ _=>exact hP.elim
  |cons q P ih=>
   intro Q t d hP hg
   obtain⟨a,w,j⟩:=q
   cases Q with
   |nil=>exact hP.elim
   |cons q Q=>
    obtain⟨i,w',j'⟩:=q
    obtain⟨_,_,_,_,h5⟩:=hP
    obtain⟨xs,r,ys,rfl,g1,g2,g3,g4⟩:=Jd hg
    rw[Ji g1 g2 g3,List.length_cons,List.length_cons,ih h5 g4]
 have mI:=hPQ hP (Ai (v:=(dD (dy es) n xs).2) hg)
 refine hk f _ _ _ _ (by simp[hp,mI];omega) (by omega) (by omega) ?_ ?_
 ·exact s_ hp 0 _
 ·rw[s_ hp];rfl
theorem ae5{S:Nat->af}{out:Option (List T)}{K:List af}{es:List Ty}{oF:vd}(hF:NX S es.length es 0 oF)(hl:es.length<=64)(hm:lJ es=true){cl:Lf}{s p n:Nat}{rest:PL}{ρ:List T}{xs:List (List T)}
  (hp:ρ.length=p)(hs:s<p)(ht:ρ.getD s T.cC=.l xs)(hc:Lf.ev ρ cl=.c (.int .i64 (n:Int)))(hw:∀r∈xs,dG es r)(hb:iP xs<=1048576)(hn:n+64*iP xs<=1099511627776)
  (hk:∀f:af,PL.den S rounds (f::K) (ρ++[T.c (.int .i64 ((dD (dy es) n xs).1:Int)),T.c (.int .i64 (xs.length:Int)),.l (dD (dy es) n xs).2,T.c (.int .i64 (xs.length:Int)),T.c (.bool false)]) rest=out):
  PL.den S rounds K ρ (NW oF [] cl s p λ_ _ _=>rest)=out:=
 Sp hF hl hm (P:=[]) (Q:=[]) trivial rfl hp hs ht hc hw hb hn hk
set_option linter.unusedSimpArgs false
def TOk(S:Nat->af)(f:Ty):Prop:=
 ∀(w j:Nat) (out:Option (List T)) (K:List af) (P Q:Pt) (k s c p q kv n:Nat) (cont:Nat->Nat->Nat->Nat->PL) (ρ:List T) (t:T) (xs:List (List T)) (dn ts:List T) (u:T),cG ρ P Q->fe Q t=some (.l xs)->ρ.length=p->s<p->ρ.getD s T.cC=t->
  k<p->ρ.getD k T.cC=.c (.int .i64 (kv:Int))->c<p->ρ.getD c T.cC=.c (.int .i64 (n:Int))->xs[kv]?=some (dn++u::ts)->dn.length=j->(dn++u::ts).length=w->WT f u->bulk u<=1048576->n+1+64*bulk u<=1099511627776->
  (∀(Ks:List af) (B:List T) (s' c' p':Nat),(ρ++B).length=p'->s'<p'->c'<p'->(ρ++B).getD c' T.cC=.c (.int .i64 ((oE f n u).1:Int))->(ρ++B).getD s' T.cC=cU Q t (.l (xs.set kv (dn++(oE f n u).2::ts)))->
   PL.den S rounds (Ks++K) (ρ++B) (cont s' c' p' (q+Ks.length))=out)->PL.den S rounds K ρ (Aj f w j P k s c p q cont)=out
theorem ae6{S:Nat->af}:TOk S (.i .i64):=by
 intro w j out K P Q k s c p q kv n cont ρ t xs dn ts u hP hg hp hs ht hk xa hc hn hr hj hw hu hb vS iV
 rw[xk]at iV
 have e3:IntKind.i64.wrap ((n:Int)+1)=((n+1:Nat):Int):=by rw[BR (by omega) (by omega)];simp
 simp only[Aj]
 refine Sn hP hg hp hs ht hk xa hc hn rfl hr hw (by simp at hw;omega) λB s' p' q1 q2 q3=>?_
 have x:=m8 hn (by omega) B
 rw[kJ]
 simp only[List.map_cons,List.map_nil,eL,gN,x,Ab,e3,eK,List.append_assoc]
 rw[D3 hr hj]at q3
 refine iV [] _ s' p' (p'+1) (by simp at q1⊢;omega) (by omega) (by omega) ?_ ?_
 ·rw[<-List.append_assoc,<-q1];exact DZ
 ·rw[<-List.append_assoc];exact m8 q3 (by rw[q1];exact q2) _
theorem ae7{S:Nat->af}:TOk S .b:=by
 intro w j out K P Q k s c p q kv n cont ρ t xs dn ts u hP hg hp hs ht hk xa hc hn hr hj hw hu hb vS iV
 rw[xl]at iV
 have e3:IntKind.i64.wrap ((n:Int)+1)=((n+1:Nat):Int):=by rw[BR (by omega) (by omega)];simp
 have Jc:(((n%3:Nat):Int)==(0:Int))=(n%3==0):=Sh (n%3) 0
 have y1:(ρ++[T.c (.int .i64 ((n%3:Nat):Int))]).getD p T.cC=.c (.int .i64 ((n%3:Nat):Int)):=by rw[<-hp];exact DZ
 simp only[Aj]
 rw[kJ]
 simp only[List.map_cons,List.map_nil,eL,gN,hn,Sg,eK]
 rw[kJ]
 simp only[List.map_cons,List.map_nil,eL,gN,y1,DP,Jc,eK,List.append_assoc,List.cons_append,List.nil_append]
 have y2:(ρ++[T.c (.int .i64 ((n%3:Nat):Int)),T.c (.bool (n%3==0))]).getD (p+1) T.cC=T.c (.bool (n%3==0)):=by rw[s_ hp];rfl
 refine Sn (cG.ext _ hP) hg (by simp[hp]) (by omega) (m8 ht (by omega) _) (by omega) (m8 xa (by omega) _) (by omega) y2 rfl hr hw (by simp at hw;omega) λB s' p' q1 q2 q3=>?_
 simp only[List.append_assoc]at q1 q3⊢
 have x:=m8 hn (by omega) ([T.c (.int .i64 ((n%3:Nat):Int)),T.c (.bool (n%3==0))]++B)
 rw[kJ]
 simp only[List.map_cons,List.map_nil,eL,gN,x,Ab,e3,eK]
 rw[D3 hr hj]at q3
 rw[List.append_assoc]
 refine iV [] _ s' p' (p'+1) (by simp at q1⊢;omega) (by omega) (by omega) ?_ ?_
 ·rw[<-List.append_assoc,<-q1];exact DZ
 ·rw[<-List.append_assoc];exact m8 q3 (by rw[q1];exact q2) _
theorem ae8{S:Nat->af}{es:List Ty}(hF:NX S es.length es 0 (tb es es.length 0))(hl:es.length<=64)(hm:lJ es=true):TOk S (.sl es):=by
 intro w j out K P Q k s c p q kv n cont ρ t xs dn ts u hP hg hp hs ht hk xa hc hn hr hj hw hu hb vS iV
 unfold WT at hu
 obtain⟨ys,rfl,_,hy⟩:=hu
 rw[Ah]at iV
 rw[gG]at hb vS
 have F_:(dn++T.l ys::ts)[j]?=some (.l ys):=by subst hj;simp
 have Pb:fe (Q++[(kv,w,j)]) t=some (.l ys):=by rw[Sj,hg];exact Je hr hw F_ rfl
 simp only[Aj]
 refine Gx hP hg hp hs ht λe a1 a2 a3=>?_
 rw[kJ]
 simp only[List.map_cons,List.map_nil,eL,a3,m8 xa (by omega) _,BS hr,eK,List.append_assoc]
 refine Gx (cG.ext _ hP) hg (by simp[hp,a1];omega) (by omega) (m8 ht (by omega) _) λe2 b1 b2 b3=>?_
 simp only[List.append_assoc]at b3⊢
 rw[kJ]
 simp only[List.map_cons,List.map_nil,eL,b3,m8 xa (by omega) _,Sl hr hw F_,eK,List.append_assoc]
 refine ae4 hF hl hm (cG.snoc (by simp;omega) (m8 xa (by omega) _) (cG.ext _ hP)) Pb (by simp[hp,a1];omega) (by omega) (m8 ht (by omega) _) (n:=n) (by rw[eL];exact m8 hn (by omega) _) hy hb (by omega) λf B c' s' p' q1 q2 q3 q4 q5=>?_
 rw[List.append_assoc]at q1 q4 q5⊢
 refine iV [f] _ s' c' p' q1 q3 q2 q4 ?_
 rw[q5,Sk hg]
 congr 1
 have e0:((xs[kv]?).bind (·[j]?)).getD T.cC=.l ys:=by rw[hr];simp[F_]
 simp only[cU,e0]
 rw[D3 hr hj]
mutual
theorem ae9{S:Nat->af}:∀(f:Ty),u_ f=true->TOk S f
 | .i k,h=>by
  cases k with
  |i64=>exact ae6
  |_=>simp[u_]at h
 | .b,h=>ae7
 | .s,h=>by simp[u_]at h
 | .sl es,h=>ae8 (pP es 0 (xm h).2 es.length) (xm h).1 (xm h).2
theorem pP{S:Nat->af}:∀(fs:List Ty) (j:Nat),lJ fs=true->∀w,NX S w fs j (tb fs w j)
 | [],j,h,w=>by
  intro out K P Q k s c p q kv n cont ρ t xs dn ts hP hg hp hs ht hk xa hc hn hr hj hw hu hb vS iV
  unfold dG at hu
  subst hu
  simp only[tb]
  have:=iV [] [] s c p (by simpa using hp) hs hc (by simpa[Gv]using hn) (by
   rw[Gv,Si hr,Jh hg];simpa using ht)
  simpa using this
 |f::fs,j,h,w=>by
  intro out K P Q k s c p q kv n cont ρ t xs dn ts hP hg hp hs ht hk xa hc hn hr hj hw hu hb vS iV
  unfold dG at hu
  obtain⟨u,lU,rfl,h1,h2⟩:=hu
  have hm:=DW h
  have hle:=DY f n u hm.1 h1
  simp only[fQ,List.length_cons]at hb vS
  simp only[tb]
  refine ae9 f hm.1 w j out K P Q k s c p q kv n _ ρ t xs dn lU u hP hg hp hs ht hk xa hc hn hr hj hw h1 (by omega) (by omega) λKs B s' c' p' q1 q2 q3 q4 q5=>?_
  have DD:kv<xs.length:=(List.getElem?_eq_some_iff.1 hr).1
  refine pP fs (j+1) hm.2 w out (Ks++K) P Q k s' c' p' (q+Ks.length) kv (oE f n u).1 cont (ρ++B) _ (xs.set kv (dn++(oE f n u).2::lU)) (dn++[(oE f n u).2]) lU (cG.ext _ hP) (Ai hg) q1 q2 q5 (by simp at q1;omega) (m8 xa (by omega) _) q3 q4
   (by simp[DD]) (by simp[hj]) (by simp at hw⊢;omega) h2 (by omega) (by omega) λKs2 B2 s2 c2 p2 r1 r2 r3 r4 r5=>?_
  rw[List.append_assoc]at r1 r4 r5⊢
  have:=iV (Ks2++Ks) (B++B2) s2 c2 p2 r1 r2 r3 (by rw[r4,Ag]) (by
   rw[r5,Jg hg,List.set_set,Ag,List.append_assoc]
   rfl)
  rw[List.append_assoc,List.length_append]at this
  rw[show q+Ks.length+Ks2.length=q+(Ks2.length+Ks.length) by omega]
  exact this
end
set_option linter.defProp false in
def pb:=(aj (aj (aj (aj (aj (@yi) (@kJ)) (aj (@yj) (aj (@p9) (@Ae)))) (aj (aj (@RY) (aj (@List.map_cons.{0,0}) (@List.map_nil.{0,0}))) (aj (@gN) (aj (@I7) (@eL))))) (aj (aj (aj (@List.cons_append.{0}) (@List.nil_append.{0})) (aj (@List.append_assoc.{0}) (aj (@List.getD_cons_zero.{0}) (@List.getD_cons_succ.{0})))) (aj (aj (@eK) (aj (@rf) (@cond_true.{1}))) (aj (@cond_false.{1}) (aj (@decide_true) (@decide_false)))))) (aj (aj (aj (aj (@s9) (@RP)) (aj (@Aa) (aj (@DO) (@RQ)))) (aj (aj (@uY) (aj (@RR) (@RS))) (aj (@RT) (aj (@DP) (@xi))))) (aj (aj (aj (@Ab) (@DQ)) (aj (@RU) (aj (@RV) (@DR)))) (aj (aj (@RW) (aj (@I4) (@Bool.not_true))) (aj (@Bool.not_false) (aj (@bne_self_eq_false.{0}) (@beq_self_eq_true.{0})))))))
set_option linter.unusedSimpArgs false
theorem ae'{sc:Bool}{w:Nat}{xs ys:List (List T)}(h:xs.length+ys.length<rL)(hs:(!sc||ys.all (·.all eh))=true)(h1:okW w xs=true)(h2:okW w ys=true):Prim.ev (.app sc w) [.l xs,.l ys]=some (.l (xs++ys)):=by
 simp only[Prim.ev,h,hs,h1,h2,if_true]
theorem n6{w:Nat}{ms:List Bool}{ts:List T}(hw:0<w)(hm:uo ms ts=true)(hl:ts.length=w):Prim.ev (.lit w ms) ts=some (.l [ts]):=by
 have h1:ts.length/w=1:=by rw[hl];exact Nat.div_self hw
 have h2:ts.take w=ts:=by rw[<-hl];exact List.take_length
 simp only[Prim.ev,hw,hm,h1,if_true,pU,h2]
theorem td{fs:List Ty}{xs:List (List T)}(h1:xs.length<=maxLen)(h2:∀r∈xs,dG fs r):WT (.sl fs) (.l xs):=by
 unfold WT
 exact⟨xs,rfl,h1,h2⟩
theorem afa{fs:List Ty}{xs:List (List T)}(h1:xs.length<=maxLen)(h2:∀r∈xs,dG fs r):dG [.sl fs] [.l xs]:=by
 unfold dG
 refine⟨_,[],rfl,td h1 h2,?_⟩
 unfold dG
 rfl
set_option linter.unusedSimpArgs false
def xq:List (Nat×mV)->Nat->Option mV
 | [],_=>none
 |e::l,g=>bif Nat.beq e.1 g then some e.2 else xq l g
theorem Sq:∀{l:List (Nat×mV)} {g:Nat} {sg:mV},xq l g=some sg->(g,sg)∈l
 | [],_,_,h=>by cases h
 |e::l,g,sg,h=>by
  unfold xq at h
  cases hb:Nat.beq e.1 g with
  |true=>
   rw[hb]at h
   simp only[cond_true,bc]at h
   have:=du hb
   subst this;subst h
   exact .head _
  |false=>
   rw[hb]at h
   exact .tail _ (Sq h)
def Cx.on(cx:Cx)(l:List (Nat×mV)):Cx:={cx with sg:=xq l}
def Jj(P:Program)(sg:mV)(g:Nat)(F:af):Prop:=fZ P g∧Dk P sg g F
structure Jk (P:Program) (cx:Cx):Prop where
 dC:dU P cx
 cP:∀g fn,cx.fn g=some fn->P.funcs[g]?=some fn∧fZ P g
 mx:P.follows .mixedOrders=true
def Sr:List ((Nat×Nat×Nat)×Js)->Nat->Nat->Nat->Option Js
 | [],_,_,_=>none
 |e::l,f,k,j=>bif Nat.beq e.1.1 f&&(Nat.beq e.1.2.1 k&&Nat.beq e.1.2.2 j)then some e.2 else Sr l f k j
def Ss:List (Nat×Nat×Nat)->Nat->Nat->Nat->Bool
 | [],_,_,_=>false
 |e::l,f,k,j=>(Nat.beq e.1 f&&(Nat.beq e.2.1 k&&Nat.beq e.2.2 j))||Ss l f k j
def Su:List Nat->Nat->Bool
 | [],_=>false
 |e::l,f=>Nat.beq e f||Su l f
theorem Jj.mk{P:Program}{cx:Cx}(Z:Jk P cx){R n g:Nat}{fn:Func}{sg:mV}{pl:PL}{l:List (Nat×mV)}{S:Nat->af}(jI:fZ P g)(hf:P.funcs[g]?=some fn)
  (hl:∀x∈l,Jj P x.2 x.1 (S x.1))(h:yZ (cx.on l) n g fn sg=some pl):Jj P sg g λts=>pl.den S R [] ts:=
 ⟨jI,RH (cx:=cx.on l) ⟨⟨Z.dC.ty⟩,λg' sg' h'=>hl _ (Sq h'),Z.cP⟩ Z.mx hf h⟩
theorem fZ.mk{P:Program}{g:Nat}{fn:Func}(h:P.funcs[g]?=some fn)(h1:(fn.name== "runtime.NumGoroutine")=false)(h2:fn.body.isNone=false):fZ P g:=⟨fn,h,h1,h2⟩
structure iC (P:Program) where
 g:Nat
 sg:mV
 F:af
 ok:Jj P sg g F
def Sv{P:Program}(l:List (iC P)):List (Nat×mV):=l.map λk=>(k.g,k.sg)
def kS{P:Program}(l:List (iC P)):List (Nat×af):=l.map λk=>(k.g,k.F)
theorem Sw{P:Program}:∀{ks:List (iC P)} {g:Nat} {sg:mV},xq (Sv ks) g=some sg->Jj P sg g (pick (kS ks) g)
 | [],g,sg,h=>by cases h
 |k::ks,g,sg,h=>by
  simp only[Sv,List.map_cons,xq]at h
  simp only[kS,List.map_cons,pick]
  cases hb:Nat.beq k.g g with
  |true=>
   rw[hb,cond_true]at h
   cases h
   rw[cond_true,<-du hb]
   exact k.ok
  |false=>
   rw[hb,cond_false]at h
   rw[cond_false]
   exact Sw h
def iC.dO{P:Program}{cx:Cx}(Z:Jk P cx)(g:Nat){fn:Func}(sg:mV)(pl:PL)(F:af)(ks:List (iC P))(hf:P.funcs[g]?=some fn)(h:yZ (cx.on (Sv ks)) 8 g fn sg=some pl)
  (h1:((fn.name== "runtime.NumGoroutine")||fn.body.isNone)=false)(hF:F=Fs pl (kS ks)):iC P:=
 ⟨g,sg,F,⟨fn,hf,(Bool.or_eq_false_iff.1 h1).1,(Bool.or_eq_false_iff.1 h1).2⟩,by
  rw[hF]
  exact RH (cx:=cx.on (Sv ks)) ⟨⟨Z.dC.ty⟩,λg' sg' h'=>Sw h',Z.cP⟩ Z.mx hf h⟩
def afb(P:Program)(l:List (Nat×TI)):Bool:=l.all λx=>tyB P x.1 x.2
def Ak:List (Nat×TI)->Nat->Option TI
 | [],_=>none
 |e::l,g=>bif Nat.beq e.1 g then some e.2 else Ak l g
theorem Sx:∀{l:List (Nat×TI)} {g:Nat} {sg:TI},Ak l g=some sg->(g,sg)∈l
 | [],_,_,h=>by cases h
 |e::l,g,sg,h=>by
  unfold Ak at h
  cases hb:Nat.beq e.1 g with
  |true=>
   rw[hb]at h
   simp only[cond_true,bc]at h
   have:=du hb
   subst this;subst h
   exact .head _
  |false=>
   rw[hb]at h
   exact .tail _ (Sx h)
theorem afc{P:Program}{cx:Cx}{l:List (Nat×TI)}(h:afb P l=true)(he:cx.ty=Ak l):dU P cx:=by
 refine⟨λt ti ht=>?_⟩
 rw[he]at ht
 exact abW (List.all_eq_true.1 h _ (Sx ht))
def D5:List (Nat×Func)->Nat->Option Func
 | [],_=>none
 |e::l,g=>bif Nat.beq e.1 g then some e.2 else D5 l g
theorem afd{P:Program}{cx:Cx}{l:List (Nat×Func)}(h:∀x∈l,P.funcs[x.1]?=some x.2∧fZ P x.1)(he:cx.fn=D5 l):∀g fn,cx.fn g=some fn->P.funcs[g]?=some fn∧fZ P g:=by
 intro g fn hg
 rw[he]at hg
 clear he
 induction l with
 |nil=>cases hg
 |cons e l ih=>
  unfold D5 at hg
  cases hb:Nat.beq e.1 g with
  |true=>
   rw[hb]at hg
   simp only[cond_true,bc]at hg
   have:=du hb
   subst this;subst hg
   exact h _ (.head _)
  |false=>
   rw[hb]at hg
   exact ih (λx hx=>h x (.tail _ hx)) hg
end Go.Proofs.YtjimmglpkndemaaGreatC

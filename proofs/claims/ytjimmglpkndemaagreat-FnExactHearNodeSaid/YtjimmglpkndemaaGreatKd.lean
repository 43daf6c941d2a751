/- The walk by reflection: a part of its laws, for any function. Conditions: none. -/
import Derived.Test.YtjimmglpkndemaaGreatKc
import Derived.LoopN
import Derived.Test.YtjimmglpkndemaaGreatKa
import Derived.ChangeSame
import Derived.JoinedOf
import Derived.JoinedAt
import Derived.RowKit3
import Derived.Carry
namespace Go.Proofs.YtjimmglpkndemaaGreatC
set_option linter.unusedVariables false
def Gh.gT(G:Gh)(i0:Nat)(rn:nr):Gh where
 ω:=λb=>match G.ω b with
  |some .f=>some .f
  |some (.x j)=>if j<i0 then some (.x j)else none
  |some (.o j p)=>match nE rn j with
   |some k=>some (.o k p)
   |none=>if j<i0 then some (.o j p)else none
  |none=>none
 β:=G.β
 H:=λj=>match n9 rn j with
  |some (some id)=>G.H id
  |some none=>λ_=>.slice none 0 0
  |none=>G.H j
 hs:=λj p=>by
  rcases hr:n9 rn j with _|(_|id)
  ·exact G.hs j p
  ·exact⟨_,_,_,rfl⟩
  ·exact G.hs _ p
section
variable {M:Nat->Prop} {B:e_} {d:Nat} {up:Nat->Nat->Value} {ρ:List T} {G:Gh} {a:Act} {w:World} {s:St}
def Gh.sj(G:Gh)(id tk:Nat):Gh where
 ω:=λb=>match G.ω b with
  |some (.o i p)=>if i=id then(match p with| []=>none|x::p=>some (.o tk (x::p)))else some (.o i p)
  |l=>l
 β:=G.β
 H:=λi=>if i=tk then G.H id else G.H i
 hs:=λi p=>by
  by_cases h:i=tk
  ·simp only[h,if_true];exact G.hs id p
  ·simp only[h,if_false];exact G.hs i p
theorem ajt{id tk:Nat}(ht:tk%4=2){I:Lb->Prop}(hI:∀p,I (.o id p)):dF I (λi=>i=tk) G w (G.sj id tk) w:=by
 refine⟨Nat.le_refl _,λb _ hb=>⟨uB hb (λh0=>by simp[Gh.sj,h0]) λl hl hq=>?_,rfl⟩,λb _ hb=>by simp[Gh.sj,hb],λb l hl hn=>⟨?_,rfl⟩,λi hi=>⟨rfl,λp _=>by simp[Gh.sj,hi]⟩⟩
 ·cases l with
  |o i p=>
   simp only[Gh.sj,hl]
   split
   ·cases p with
    |nil=>exact .inl rfl
    |cons x p=>exact .inr ⟨_,rfl,KS ht⟩
   ·exact .inr ⟨_,rfl,hq⟩
  |_=>simp[qt]at hq
 ·cases l with
  |o i p=>
   have:i≠id:=λe=>hn (e▸hI p)
   simp[Gh.sj,hl,this]
  |_=>simp[Gh.sj,hl]
theorem Rel.aju(h:Rel M B d up s ρ G a w){id tk:Nat}{x:Lf}(hx:s.get (.o id)=.ob true x)(ht:tk%4=2)(hM:¬M tk){M':Nat->Prop}(AA:∀i,M i∨i=tk->M' i):
  ∃G',Rel M' B d up ((s.set (.o id) (.fz (.w tk x (.k (.int .i64 0))) x)).set (.o tk) (.tk x x)) ρ G' a w:=by
 have uT:M id:=h.key id (.inr (by rw[hx];simp))
 have dH:id≠tk:=λe=>hM (e▸uT)
 obtain⟨t,jy,bU⟩:=(by simpa only[hx]using h.ob id:cL G w ρ id (.ob true x))
 obtain⟨xs,rfl⟩:∃ys,t=.l ys:=by cases bU<;>exact⟨_,rfl⟩
 have mI:∀i j ys,d_ xs i j=some (.l ys)->fB (G.sj id tk) w tk true [(i,j)] (.l ys):=by
  intro i j ys bI
  refine(bU.rows i j ys bI).move rfl (λb q hb=>⟨?_,rfl⟩) λq=>?_
  ·simp only[List.cons_append,List.nil_append]at hb⊢
   simp[Gh.sj,hb]
  ·simp[Gh.sj]
 have jQ:∀p,pk [(bE.o tk,SV.tk x x),(bE.o id,SV.fz (.w tk x (.k (.int .i64 0))) x)] (.o id p):=by
  intro p
  show St.look _ (bE.o id)≠none
  simp only[St.look]
  cases(bE.o tk).beq (.o id)<;>simp[(bE.beq_iff (r:=bE.o id)).2 rfl]
 have Mg:(G.sj id tk).H id []=G.H id []:=by simp[Gh.sj,dH]
 refine⟨G.sj id tk,(h.TL (M':=M') (N:=λi=>i=tk) (W:=[(.o tk,.tk x x),(.o id,.fz (.w tk x (.k (.int .i64 0))) x)]) (ajt ht jQ) (λi hi=>by subst hi;exact hM) (λi hi=>AA i (.inl hi)) (λr u hl=>?_) λb l hb=>?_).congr λr=>?_⟩
 ·rcases j8 hl with⟨e1,e2⟩|hl
  ·subst e1 e2
   refine⟨tk,rfl,⟨ht,xs,xs,jy,jy,rfl,λi r hr _=>⟨hr,λj ys hy=>mI i j ys (by simp[d_,hr,hy])⟩⟩,AA tk (.inr rfl),λi hi=>by simp[dA]at hi⟩
  ·rcases j8 hl with⟨e1,e2⟩|hl
   ·subst e1 e2
    refine⟨id,rfl,⟨.l xs,jy,?_,ht,xs,0,xs,jy,by simp[mf,Lf.fW,kW],rfl,λi r hr=>by rw[Nat.zero_add];exact hr,?_,λ_ b off k c hv=>?_⟩,AA id (.inl uT),λi hi=>by simp[dA]at hi;subst hi;exact AA _ (.inr rfl)⟩
    ·rw[Mg]
     cases bU with
     |nil hH=>rw[hH];exact .nil
     | @l _ _ _ b wd cap b9 elem cv g1 g2 g3 g4 g5 g6 g7 g8 g9 zb FN=>
      rw[g1]
      refine .l (cv:=cv) g6 g2.1 (Bd (by simp[Gh.sj,g3])) (Rp g4) (λi j t ht=>by rw[yY g4,Nat.zero_add];exact g7 i j t ht) λi j t jV=>?_
      cases t with
      |c v=>obtain⟨hv,hs⟩:=g8 i j v jV;rw[hv];exact .c hs
      |l ys=>
       have e:=zb i j ys jV rfl
       simp only[List.nil_append]at e
       rw[e]
       have:=(mI i j ys jV).SU (.inl ht) rfl
       rwa[show(G.sj id tk).H tk=G.H id by simp[Gh.sj]]at this
    ·rw[Mg]
     intro b off k c hv
     cases bU with
     |nil hH=>rw[hH]at hv;cases hv
     | @l _ _ _ b0 wd cap b9 elem cv g1 g2 g3 g4 g5 g6 g7 g8 g9 zb FN=>
      rw[g1]at hv
      cases hv
      refine⟨wd,g6,λi j ys bI=>?_⟩
      rw[yY g4,Nat.zero_add,g7 i j _ bI,zb i j ys bI rfl]
      simp[Gh.sj]
    ·rw[Mg]at hv
     cases bU with
     |nil hH=>rw[hH]at hv;cases hv
     |l g1=>rw[g1]at hv;cases hv;rfl
   ·cases hl
 ·cases hg:G.ω b with
  |none=>simp[Gh.sj,hg]at hb
  |some l0=>
   have uP:=h.iG b l0 hg
   refine⟨?_,uP.2⟩
   cases l0 with
   |o i p=>
    simp only[Gh.sj,hg]at hb
    split at hb
    ·cases p with
     |nil=>cases hb
     |cons x p=>cases hb;exact AA tk (.inr rfl)
    ·cases hb;exact AA _ (.inl uP.1)
   |_=>simp[Gh.sj,hg]at hb;subst hb;exact AA _ (.inl uP.1)
 ·simp only[St.fK]
theorem Rel.iL:∀{js:List (Nat×Bool)} {cs:List Ce} {s:St} {ct:Ct} {G:Gh},Rel (λi=>i<ct.i) B d up s ρ G a w->
  (∃G',Rel (λi=>i<(Go.Proofs.YtjimmglpkndemaaGreatC.iL s ct cs js).2.i) B d up (Go.Proofs.YtjimmglpkndemaaGreatC.iL s ct cs js).1 ρ G' a w)∧(Go.Proofs.YtjimmglpkndemaaGreatC.iL s ct cs js).2.a=ct.a∧ct.i<=(Go.Proofs.YtjimmglpkndemaaGreatC.iL s ct cs js).2.i
 | [],cs,s,ct,G,h=>⟨⟨G,h⟩,rfl,Nat.le_refl _⟩
 |(j,b)::js,cs,s,ct,G,h=>by
  unfold Go.Proofs.YtjimmglpkndemaaGreatC.iL
  split
  ·rename_i id _
   split
   ·rename_i x hx
    cases he:Nat.beq (id%2) 0 with
    |false=>exact Rel.iL h
    |true=>
     simp only[cond_true]
     have hle:=SG ct.i
     obtain⟨G',h'⟩:=h.aju hx (SH ct.i) (by omega) (M':=λi=>i<nq ct.i+1) (λi hi=>by rcases hi with hi|hi<;>omega)
     obtain⟨g1,g2,g3⟩:=Rel.iL (js:=js) (cs:=cs) (ct:=⟨ct.a,nq ct.i+1⟩) h'
     exact⟨g1,g2,Nat.le_trans (by show ct.i<=nq ct.i+1;omega) g3⟩
   ·exact Rel.iL h
  ·exact Rel.iL h
theorem Rel.j6{d':Nat}:∀{js:Js} {s:St} {ct:Ct} {G:Gh},Rel (λi=>i<ct.i) B d up s ρ G a w->
  (∃G',Rel (λi=>i<(Go.Proofs.YtjimmglpkndemaaGreatC.j6 d' s ct js).2.i) B d up (Go.Proofs.YtjimmglpkndemaaGreatC.j6 d' s ct js).1 ρ G' a w)∧(Go.Proofs.YtjimmglpkndemaaGreatC.j6 d' s ct js).2.a=ct.a∧ct.i<=(Go.Proofs.YtjimmglpkndemaaGreatC.j6 d' s ct js).2.i
 | [],s,ct,G,h=>⟨⟨G,h⟩,rfl,Nat.le_refl _⟩
 |(n,bx,.rows rj)::l,s,ct,G,h=>by
  simp only[Go.Proofs.YtjimmglpkndemaaGreatC.j6]
  obtain⟨⟨G',h'⟩,g2,g3⟩:=h.iL (js:=rj) (cs:=pP (s.get (ql d' s n bx)))
  obtain⟨f1,f2,f3⟩:=Rel.j6 (d':=d') (js:=l) h'
  exact⟨f1,f2.trans g2,Nat.le_trans g3 f3⟩
 |(n,bx,.drop)::l,s,ct,G,h=>Rel.j6 (js:=l) h
 |(n,bx,.ft _ _)::l,s,ct,G,h=>Rel.j6 (js:=l) h
theorem Rel.Cd:∀{l:List (Nat×Bool)} {s:St} {G:Gh},Rel M B d up s ρ G a w->∃G',Rel M B d up (uz s l) ρ G' a w∧iI G G'
 | [],s,G,h=>⟨G,h,.refl _⟩
 |(id,all)::l,s,G,h=>by
  simp only[uz]
  split
  ·rename_i dp x hx
   cases all with
   |true=>obtain⟨G',h1,h2⟩:=Rel.Cd (l:=l) (h.mw hx);exact⟨G',h1,(G.oE id true).trans h2⟩
   |false=>obtain⟨G',h1,h2⟩:=Rel.Cd (l:=l) (h.flat hx);exact⟨G',h1,(G.oE id false).trans h2⟩
  ·exact Rel.Cd (l:=l) h
theorem Rel.iF:∀{js:List (Nat×Bool)} {cs:List Ce} {s:St} {G:Gh},Rel M B d up s ρ G a w->∃G',Rel M B d up (Go.Proofs.YtjimmglpkndemaaGreatC.iF s cs js) ρ G' a w
 | [],cs,s,G,h=>⟨G,h⟩
 |(j,all)::js,cs,s,G,h=>by
  simp only[Go.Proofs.YtjimmglpkndemaaGreatC.iF]
  split
  ·split
   ·rename_i dp x hx
    cases all with
    |true=>exact Rel.iF (js:=js) (h.mw hx)
    |false=>exact Rel.iF (js:=js) (h.flat hx)
   ·exact Rel.iF (js:=js) h
  ·exact Rel.iF (js:=js) h
theorem Rel.jO{d':Nat}:∀{js:Js} {s:St} {G:Gh},Rel M B d up s ρ G a w->∃G',Rel M B d up (Go.Proofs.YtjimmglpkndemaaGreatC.jO d' s js) ρ G' a w
 | [],s,G,h=>⟨G,h⟩
 |(n,bx,.rows js)::l,s,G,h=>by
  simp only[Go.Proofs.YtjimmglpkndemaaGreatC.jO]
  obtain⟨G',h'⟩:=h.iF (js:=js) (cs:=pP (s.get (ql d' s n bx)))
  exact Rel.jO (js:=l) h'
 |(n,bx,.drop)::l,s,G,h=>Rel.jO (js:=l) h
 |(n,bx,.ft _ _)::l,s,G,h=>Rel.jO (js:=l) h
theorem U5{a0 i0 i1:Nat}{xs:List Lf}{rn:nr}(hi:∀j x,n9 rn j=some x->j<i1)(U6:i0<=i1):∀{cs hs:List Ce},qn s a0 i0 xs rn cs hs=true->∀j∈dV hs,j<i1
 | [],[],_,j,hj=>by simp[dV]at hj
 |c::cs,h::hs,hc,j,hj=>by
  simp only[qn,bD]at hc
  rw[yW]at hj
  rcases List.mem_append.1 hj with hj|hj
  ·have h1:=hc.1
   unfold KK at h1
   rw[Bool.or_eq_true]at h1
   rcases h1 with h1|h1
   ·simp only[bD]at h1
    exact Nat.lt_of_lt_of_le (JU (n:=a0) (i:=i0) (by simp[qm,h1.2]) j hj) U6
   ·split at h1
    ·simp[dV]at hj
    ·simp[dV]at hj
    ·simp[dV]at hj
    ·simp only[bD]at h1
     have h2:=h1.2
     split at h2
     ·rename_i s9;simp[dV]at hj;subst hj;exact hi _ _ s9
     ·cases h2
    ·simp only[bD]at h1
     have h2:=h1.2
     split at h2
     ·rename_i s9;simp[dV]at hj;subst hj;exact hi _ _ s9
     ·cases h2
    ·simp[dV]at hj
    ·cases h1
  ·exact U5 hi U6 hc.2 j hj
 | [],_::_,hc,_,_=>by simp[qn]at hc
 |_::_,[],hc,_,_=>by simp[qn]at hc
theorem U7{G':Gh}{a0 i0:Nat}{xs:List Lf}{rn:nr}{pF e:List T}(hr:Rel M B d up s (pF++e) G a w)(hl:pF.length=a0)(k:dF (λl=>True) (λj=>¬j<i0) G w G' w)
  (hH:∀j x,n9 rn j=some x->G'.H j=match x with|some id=>G.H id|none=>λ_=>.slice none 0 0):
  ∀{cs hs:List Ce} {vs:List Value},qn s a0 i0 xs rn cs hs=true->bk G w (pF++e) cs vs->bk G' w (pF++xs.map (Lf.ev (pF++e))) hs vs
 | [],[],[],_,_=>trivial
 |c::cs,h::hs,v::vs,hc,jR=>by
  simp only[qn,bD]at hc
  refine⟨?_,U7 hr hl k hH hc.2 jR.2⟩
  have zt:zr a0 (pF++e) (pF++xs.map (Lf.ev (pF++e))):=λm hm=>by
   rw[List.getElem?_append_left (by omega),List.getElem?_append_left (by omega)]
  have h1:=hc.1
  have sf:=jR.1
  clear hc jR
  unfold KK at h1
  rw[Bool.or_eq_true]at h1
  rcases h1 with h1|h1
  ·simp only[bD]at h1
   have:=Ce.beq_eq h1.1
   subst this
   have hb:∀j∈dV [h],j<i0:=JU (n:=a0) (by simp[qm,h1.2])
   exact(sf.ta zt h1.2).bm k λj hj hn=>hn (hb j hj)
  ·split at h1
   ·rename_i n x
    obtain⟨t,ht,hd⟩:=sf
    exact⟨t,by rw[<-Lf.bW ht];exact Mf h1 hl,hd.bm k.size k.free⟩
   ·rename_i n
    have hv:v=.slice none 0 0:=sf
    subst hv
    exact⟨.l [],Mf h1 hl,.nil⟩
   ·rename_i n id
    split at h1
    ·rename_i x hx
     have eH:=hr.ob id
     rw[hx]at eH
     obtain⟨t,ht,hd,_⟩:=eH
     obtain⟨p,hp,hv⟩:=sf
     simp only[mD,bG]at hp
     subst hp
     rw[hv]
     exact⟨t,by rw[<-Lf.bW ht];exact Mf h1 hl,hd.bm k.size k.free⟩
    ·cases h1
   ·rename_i j
    simp only[bD]at h1
    have h2:=h1.2
    split at h2
    ·rename_i s9
     have hv:v=.slice none 0 0:=sf
     subst hv
     exact⟨[],rfl,by rw[hH _ _ s9]⟩
    ·cases h2
   ·rename_i j id
    simp only[bD]at h1
    have h2:=h1.2
    split at h2
    ·rename_i id' s9
     have:=ef h2
     subst this
     obtain⟨p,hp,hv⟩:=sf
     simp only[mD,bG]at hp
     subst hp
     exact⟨[],rfl,by rw[hH _ _ s9];exact hv⟩
    ·cases h2
   ·exact sf.one
   ·cases h1
 | [],_::_,_,hc,_=>by simp[qn]at hc
 |_::_,[],_,hc,_=>by simp[qn]at hc
 | [],[],_::_,_,h=>h.elim
 |_::_,_::_,[],_,h=>h.elim
theorem U8{h:Head}{xs:List Lf}{d':Nat}{pF e:List T}(hm:Go.Proofs.YtjimmglpkndemaaGreatC.gT d' h s=some xs)(hr:Rel M B d up s (pF++e) G a w)(hl:pF.length=h.c0.a)(ki:∀i b,B.bt i=some b->i<h.c0.i):
  (pF++xs.map (Lf.ev (pF++e))).length=h.ct.a∧∃G',Rel (λi=>i<h.ct.i) B d up h.st (pF++xs.map (Lf.ev (pF++e))) G' a w:=by
 unfold Go.Proofs.YtjimmglpkndemaaGreatC.gT at hm
 simp only[cN]at hm
 obtain⟨⟨xs',rn⟩,_,hm⟩:=hm
 obtain⟨G1,hr,_⟩:=hr.Cd (l:=wE d' h.s0 s h.js)
 generalize uz s (wE d' h.s0 s h.js)=s1 at hm hr
 cases hc:KL h s1 xs' rn with
 |false=>simp[hc]at hm
 |true=>
  simp only[hc,cond_true,bG]at hm
  subst hm
  unfold KL at hc
  simp only[bD]at hc
  obtain⟨⟨⟨⟨⟨⟨c1,c2⟩,c3⟩,c4⟩,c5⟩,c6⟩,c7⟩:=hc
  have hlen:=ef c1
  have JV:=Nat.le_of_ble_eq_true c3
  have Mc:=x_ c2
  have Cf:=UZ c4
  refine⟨by rw[List.length_append,List.length_map,hl,hlen],G1.gT h.c0.i rn,?_⟩
  have zt:zr h.c0.a (pF++e) (pF++xs'.map (Lf.ev (pF++e))):=λm hm=>by
   rw[List.getElem?_append_left (by omega),List.getElem?_append_left (by omega)]
  have w8:∀b,G1.ω b=none->(G1.gT h.c0.i rn).ω b=none:=λb hb=>by simp[Gh.gT,hb]
  have dj:∀b,G1.q b=none->(G1.gT h.c0.i rn).q b=none:=λb hb=>by
   refine uB hb (w8 b) λl hl hq=>?_
   cases l with
   |o j p=>
    simp only[Gh.gT,hl]
    cases s9:nE rn j with
    |some k=>
     refine .inr ⟨.o k p,rfl,wN (U0 c4 _ _ (RE s9)) λe=>?_⟩
     subst e
     rw[sJ (U1 c4 _ _ (RE s9))]at hq
     cases hq
    |none=>
     by_cases hj:j<h.c0.i
     ·exact .inr ⟨.o j p,by simp[hj],hq⟩
     ·exact .inl (by simp[hj])
   |_=>simp[qt]at hq
  have nH:∀j,j<h.c0.i->(G1.gT h.c0.i rn).H j=G1.H j:=by
   intro j hj
   have:n9 rn j=none:=by
    cases s9:n9 rn j with
    |none=>rfl
    |some x=>have:=(Cf j x (RF s9)).1;omega
   simp[Gh.gT,this]
  have hHr:∀j x,n9 rn j=some x->(G1.gT h.c0.i rn).H j=match x with|some id=>G1.H id|none=>λ_=>.slice none 0 0:=by
   intro j x hj
   show(match n9 rn j with|some (some id)=>G1.H id|some none=>_|none=>G1.H j)=_
   rw[hj]
   cases x<;>rfl
  have kI:dF (λl=>match l with| .f=>False| .x j=>¬j<h.c0.i| .o j _=>nE rn j≠none∨¬j<h.c0.i) (λj=>¬j<h.c0.i) G1 w (G1.gT h.c0.i rn) w:=by
   refine⟨Nat.le_refl _,λb _ hb=>⟨dj b hb,rfl⟩,λb _ hb=>w8 b hb,λb l hb hl=>⟨?_,rfl⟩,λj hj=>⟨rfl,λp _=>by rw[nH j (Decidable.not_not.1 hj)]⟩⟩
   cases l with
   |f=>simp[Gh.gT,hb]
   |x j=>simp only[Gh.gT,hb];rw[if_pos (Decidable.not_not.1 hl)]
   |o j p=>
    have h1:nE rn j=none:=by
     cases s9:nE rn j with
     |none=>rfl
     |some k=>exact absurd (.inl (by rw[s9];simp)) hl
    have h2:j<h.c0.i:=Decidable.not_not.1 λhn=>hl (.inr hn)
    simp only[Gh.gT,hb,h1];rw[if_pos h2]
  have kT:=kI.mono (I':=λ_=>True) (λ_ _=>trivial) λ_ hn=>hn
  have bU:∀r v,(r,v)∈h.own->∃j,r=.o j∧j<h.ct.i∧cL (G1.gT h.c0.i rn) w (pF++xs'.map (Lf.ev (pF++e))) j v∧dA v=[]:=by
   intro r v hm
   rcases U3 c6 r v hm with⟨j,dp,n,rfl,rfl,nL⟩|⟨j,x,n,m,rfl,rfl,h1,h2,h3,h4,h5⟩
   case inr=>
    refine⟨j,rfl,by omega,?_,rfl⟩
    have eH:=hr.ob j
    rw[h4]at eH
    obtain⟨g0,F,u,g1,g2,g3,g4⟩:=eH
    refine⟨g0,F,u,by rw[<-Lf.gL zt h3];exact g1,by rw[<-Lf.bW g2];exact Mf h5 hl,g3,λi r hi dH=>⟨(g4 i r hi dH).1,λc ys hy=>((g4 i r hi dH).2 c ys hy).bm kI (λp hp=>?_) λhn=>hn h1⟩⟩
    rcases hp with hp|hp
    ·exact hp h2
    ·exact hp h1
   rcases nL with⟨id,x,h1,h2,h3⟩|⟨h1,h3⟩|⟨x,h1,h2,h3,h4,h5⟩
   ·obtain⟨q1,q2,q3⟩:=Cf j (some id) (RF h1)
    refine⟨j,rfl,q2,?_,rfl⟩
    have eH:=hr.ob id
    rw[h2]at eH
    obtain⟨t,ht,ho⟩:=eH
    refine⟨t,by rw[<-Lf.bW ht];exact Mf h3 hl,?_⟩
    have pD:=q3 id rfl
    have iq:∀c p,G1.ω c=some (.o id p)->(G1.gT h.c0.i rn).ω c=some (.o j p):=λc p jh=>by simp[Gh.gT,jh,pD]
    have hHj:=hHr j _ h1
    cases dp with
    |true=>exact ho.move rfl (λc p jh=>⟨iq c p jh,rfl⟩) λp=>by rw[hHj]
    |false=>exact ho.qI (λc jh=>iq c [] jh) (by rw[hHj]) dj
   ·obtain⟨q1,q2,_⟩:=Cf j none (RF h1)
    exact⟨j,rfl,q2,⟨.l [],Mf h3 hl,.nil (by rw[hHr j _ h1])⟩,rfl⟩
   ·refine⟨j,rfl,by omega,?_,rfl⟩
    have eH:=hr.ob j
    rw[h4]at eH
    obtain⟨t,ht,ho⟩:=eH
    refine⟨t,by rw[<-Lf.bW ht];exact Mf h5 hl,ho.bm kI (λp hp=>?_) λhn=>hn h2⟩
    rcases hp with hp|hp
    ·exact hp h3
    ·exact hp h2
  have hX:∀r v,(r,v)∈h.new->∃ag hs cs,v=.v ag hs∧s1.get r=.v ag cs∧(∀vs,bk G1 w (pF++e) cs vs->bk (G1.gT h.c0.i rn) w (pF++xs'.map (Lf.ev (pF++e))) hs vs)∧(∀j∈dA v,j<h.ct.i)∧(∀j,r≠.o j)∧∀b,r=.x b->b<h.c0.i:=by
   intro r v hm
   obtain⟨ag,hs,cs,rfl,h1,h2,h3,h4⟩:=U4 c7 r v hm
   exact⟨ag,hs,cs,rfl,h1,λvs hv=>U7 hr hl kT hHr h2 hv,λj hj=>U5 (i1:=h.ct.i) (λj x hj=>(Cf j x (RF hj)).2.1) JV h2 j hj,h3,h4⟩
  have cf:∀r,h.st.get r=.un∨(r,h.st.get r)∈h.kept∨(r,h.st.get r)∈h.own∨(r,h.st.get r)∈h.new:=by
   intro r
   rw[St.uD]
   cases Rv:h.st.look r with
   |none=>exact .inl rfl
   |some v=>
    have:=F7 Rv
    simp only[Head.st,List.mem_append]at this
    exact .inr (by simpa[or_assoc]using this)
  have u_:=U2 c5
  refine⟨λx n hx=>?_,λb=>?_,λi=>?_,λr i hi=>?_,λi hi=>?_,λb l hb=>?_,hr.dn,?_,λi b hb=>⟨Nat.lt_of_lt_of_le (ki i b hb) JV,(hr.bt i b hb).2⟩⟩
  ·rcases cf (.t x n)with hu|hm|hm|hm
   ·rw[hu];trivial
   ·rcases u_ _ _ hm with hu|⟨he,hb,_,_⟩
    ·rw[hu];trivial
    ·rw[he]
     rw[he]at hb
     exact((hr.tm x n hx).ta zt hb).bm kT λj hj hn=>hn (SV.qa hb j hj)
   ·obtain⟨j,e1,_⟩:=bU _ _ hm;cases e1
   ·obtain⟨ag,hs,cs,e1,e2,e3,_⟩:=hX _ _ hm
    rw[e1]
    have:=hr.tm x n hx
    rw[e2]at this
    cases ag with
    |true=>obtain⟨vs,g1,g2⟩:=this;exact⟨vs,g1,e3 vs g2⟩
    |false=>
     obtain⟨c,rfl,g2,g3⟩:=this
     have:=e3 [pi up d a x n] ⟨g2,trivial⟩
     match hs,this with
     | [c'],this=>exact⟨c',rfl,this.1,g3⟩
  ·rcases cf (.x b)with hu|hm|hm|hm
   ·rw[hu];trivial
   ·rcases u_ _ _ hm with hu|⟨he,hb,_,hxb⟩
    ·rw[hu];trivial
    ·rw[he]
     rw[he]at hb
     have bf:=hxb b rfl
     exact((hr.bx b).ta zt hb).bm kI (λhf=>hf bf) (λhn=>hn bf) λj hj hn=>hn (SV.qa hb j hj)
   ·obtain⟨j,e1,_⟩:=bU _ _ hm;cases e1
   ·obtain⟨ag,hs,cs,e1,e2,e3,_,_,e4⟩:=hX _ _ hm
    rw[e1]
    have:=hr.bx b
    rw[e2]at this
    obtain⟨g1,b9,elem,g2,g3⟩:=this
    refine⟨?_,b9,elem,g2,e3 _ g3⟩
    show(G1.gT h.c0.i rn).ω (G1.β b)=_
    simp only[Gh.gT,g1]
    rw[if_pos (e4 b rfl)]
  ·rcases cf (.o i)with hu|hm|hm|hm
   ·rw[hu];trivial
   ·rcases u_ _ _ hm with hu|⟨he,hb,hoi,_⟩
    ·rw[hu];trivial
    ·rw[he]
     rw[he]at hb
     obtain⟨q1,q2⟩:=hoi i rfl
     refine((hr.ob i).ta zt hb).bm kI (λp hp=>?_) (λhn=>hn q1) λj hj hn=>hn (SV.qa hb j hj)
     rcases hp with hp|hp
     ·exact hp q2
     ·exact hp q1
   ·obtain⟨j,e1,_,e2,_⟩:=bU _ _ hm;cases e1;exact e2
   ·obtain⟨ag,hs,cs,e1,e2,e3,_,e4,_⟩:=hX _ _ hm;exact absurd rfl (e4 i)
  ·rcases cf r with hu|hm|hm|hm
   ·rw[hu]at hi;simp[dA]at hi
   ·rcases u_ _ _ hm with hu|⟨he,hb,_,_⟩
    ·rw[hu]at hi;simp[dA]at hi
    ·exact Nat.lt_of_lt_of_le (SV.qa hb i hi) JV
   ·obtain⟨j,_,_,_,e2⟩:=bU _ _ hm;rw[e2]at hi;cases hi
   ·obtain⟨ag,hs,cs,e1,e2,e3,e4,_⟩:=hX _ _ hm;exact e4 i hi
  ·have key:∀r:bE,(r=.x i∨r=.o i)->h.st.get r≠.un->i<h.ct.i:=by
    intro r U9 dH
    rcases cf r with hu|hm|hm|hm
    ·exact absurd hu dH
    ·rcases u_ _ _ hm with hu|⟨he,hb,g1,g2⟩
     ·exact absurd hu dH
     ·rcases U9 with rfl|rfl
      ·exact Nat.lt_of_lt_of_le (g2 i rfl) JV
      ·exact Nat.lt_of_lt_of_le (g1 i rfl).1 JV
    ·obtain⟨j,e1,e2,_⟩:=bU _ _ hm
     rcases U9 with rfl|rfl
     ·cases e1
     ·cases e1;exact e2
    ·obtain⟨ag,hs,cs,e1,e2,e3,_,e4,e5⟩:=hX _ _ hm
     rcases U9 with rfl|rfl
     ·exact Nat.lt_of_lt_of_le (e5 i rfl) JV
     ·exact absurd rfl (e4 i)
   rcases hi with hi|hi
   ·exact key _ (.inl rfl) hi
   ·exact key _ (.inr rfl) hi
  ·cases oG:G1.ω b with
   |none=>simp[Gh.gT,oG]at hb
   |some l'=>
    have bf:=(hr.iG b l' oG).2
    refine⟨?_,bf⟩
    cases l' with
    |f=>simp[Gh.gT,oG]at hb;subst hb;exact Mc
    |x j=>
     simp only[Gh.gT,oG]at hb
     split at hb
     ·rename_i hj;cases hb;exact Nat.lt_of_lt_of_le hj JV
     ·cases hb
    |o j p=>
     simp only[Gh.gT,oG]at hb
     split at hb
     ·rename_i k hk
      cases hb
      exact(Cf k _ (RE hk)).2.1
     ·split at hb
      ·rename_i hj;cases hb;exact Nat.lt_of_lt_of_le hj JV
      ·cases hb
  ·obtain⟨b1,b2,b3,b4,b5,b6,b7⟩:=hr.base
   refine⟨b1,b2,b3,b4,λb hb h0=>⟨w8 b (b5 b hb h0).1,(b5 b hb h0).2⟩,λb hb=>⟨by simp[Gh.gT,(b6 b hb).1],(b6 b hb).2⟩,b7⟩
end
def Gv:Ex->Exit
 | .normal=>.normal
 | .exit id=>.exit id
 | .ret=>.ret
section
variable {B:e_} {f:Fr} {S:Nat->af} {P:Program} {cx:Cx} {di:nD} {cJ fA:Nat} {R:Nat} {out:List T}
theorem zq.ext{Z Z':Zb}{k:KP}{Ψ:Act->World->Prop}(h:zq S R out B f Z k Ψ)(hK:∃pre,Z'.K=pre++Z.K)(ny:∃e,Z'.ρ=Z.ρ++e):zq S R out B f Z' k Ψ:=by
 rintro lv s ct fs p a w hk ⟨K,ρ,G,h1,h2,⟨pre,h3⟩,⟨e,h4⟩,h5⟩
 obtain⟨ajw,h6⟩:=hK
 obtain⟨e',h7⟩:=ny
 exact h lv s ct fs p a w hk ⟨K,ρ,G,h1,h2,⟨pre++ajw,by rw[h3,h6,List.append_assoc]⟩,⟨e'++e,by rw[h4,h7,List.append_assoc]⟩,h5⟩
theorem U_{K:List af}{ρ:List T}{J:af}{h:Head}{lv tag:Nat}{Ψ:Act->World->Prop}(hlv:K.length=lv)(hl:ρ.length=h.c0.a)(ki:∀i b,B.bt i=some b->i<h.c0.i)
  (hJ:∀ts a w G,J ts=some out->(ρ++ts).length=h.ct.a->Rel (λi=>i<h.ct.i) B f.d f.up h.st (ρ++ts) G a w->a.tmps.size=f.nt->Ψ a w):zq S R out B f ⟨J::K,ρ⟩ (SN f.d h lv tag) Ψ:=by
 rintro lv2 s' g_ jC p a w hk ⟨K2,Gw,G,h1,h2,⟨pre,h3⟩,⟨e,h4⟩,h5,h6,h7,h8,_⟩
 unfold SN at hk
 split at hk
 ·rename_i xs hm
  cases hk
  simp only at h3 h4
  subst h4
  obtain⟨g1,G',g2⟩:=U8 hm h7 hl ki
  simp only[PL.den]at h1
  have ajx:K2[lv2-lv-1]?=some J:=by
   rw[h3]
   have:K2.length=pre.length+(K.length+1):=by rw[h3];simp
   rw[List.getElem?_append_right (by omega),show lv2-lv-1-pre.length=0 by omega]
   rfl
  rw[ajx]at h1
  exact hJ _ a w G' h1 g1 g2 h8
 ·cases hk;cases h1
theorem Mh{Z:Zb}{K0:KP}{h:Head}{lv:Nat}{fs:jZ}{k b:PL}{a:Act}{w:World}{s:St}{ct:Ct}{js:Js}{Ψ:Act->World->Prop}(hh:h=Eu f.d s ct js)(hk:K0 lv h.st h.ct fs=some k)(hS:zq S R out B f Z K0 Ψ)
  (bI:At S R out B f Z XT (.join k b) lv s ct fs a w):∃Z',(∃pre,Z'.K=pre++Z.K)∧(∃e,Z'.ρ=Z.ρ++e)∧At S R out B f Z' XT b (lv+1) s ct fs a w∧∀tag,zq S R out B f Z' (SN f.d h lv tag) Ψ:=by
 obtain⟨K,ρ,G,h1,h2,⟨pre,h3⟩,⟨e,h4⟩,h5,h6,h7,h8,_⟩:=bI
 simp only[PL.den]at h1
 have JD:h.c0=ct:=by rw[hh];rfl
 refine⟨⟨(λts=>k.den S R K (ρ++ts))::K,ρ⟩,⟨_::pre,by simp[h3];rfl⟩,⟨e,h4⟩,⟨_,ρ,G,h1,by simp[h2],⟨[],rfl⟩,⟨[],by simp⟩,h5,h6,h7,h8,trivial⟩,λtag=>?_⟩
 refine U_ h2 (by rw[JD];exact h5) (λi b hb=>by rw[JD];exact(h7.bt i b hb).1) λts a w G' hd hl hr hs=>?_
 exact hS lv h.st h.ct fs k a w hk ⟨K,ρ++ts,G',hd,h2,⟨pre,h3⟩,⟨e++ts,by rw[h4,List.append_assoc]⟩,hl,h6.ext,hr,hs,trivial⟩
theorem At.at{Z:Zb}{X:Gh->World->List T->Prop}{p:PL}{lv:Nat}{s:St}{ct:Ct}{fs:jZ}{a:Act}{w:World}(h:At S R out B f Z X p lv s ct fs a w):True:=trivial
theorem U'{Z:Zb}{c:Operand}{x y:Code}{tag lv:Nat}{s:St}{ct:Ct}{fs:jZ}{p:PL}{a:Act}{w:World}{Q:Exit->Act->World->Prop}{cx' cy':jZ->Option PL}
  (h:Fx tag (cn f.d s.get c) cx' cy' s fs=some p)(bI:At S R out B f Z XT p lv s ct fs a w)(hx:∀fs p,cx' fs=some p->At S R out B f Z XT p lv s ct fs a w->x.wp P Q a w)
  (hy:∀fs p,cy' fs=some p->At S R out B f Z XT p lv s ct fs a w->y.wp P Q a w):(Code.cond c x y).wp P Q a w:=by
 obtain⟨K,ρ,G,h1,h2,h3,h4,h5,h6,h7,h8,_⟩:=bI
 have jR:=(Ew h7 c).1
 unfold Fx at h
 split at h
 ·rename_i b hd
  have hc:=Gc hd jR h6
  refine wp_cond hc ?_
  cases b with
  |true=>exact hx fs p h ⟨K,ρ,G,h1,h2,h3,h4,h5,h6,h7,h8,trivial⟩
  |false=>exact hy fs p h ⟨K,ρ,G,h1,h2,h3,h4,h5,h6,h7,h8,trivial⟩
 ·rename_i n hd
  simp only[cN,bG]at h
  obtain⟨px,hpx,py,hpy,rfl⟩:=h
  obtain⟨b,hb,hp⟩:=LX h1
  have hc:=Gc (Ge (b:=b) hd) jR (h6.cons hb)
  refine wp_cond hc ?_
  cases b with
  |true=>exact hx _ px hpx ⟨K,ρ,G,hp,h2,h3,h4,h5,h6.cons hb,h7,h8,trivial⟩
  |false=>exact hy _ py hpy ⟨K,ρ,G,hp,h2,h3,h4,h5,h6.cons hb,h7,h8,trivial⟩
 ·cases h;cases h1
 ·cases h;cases h1
theorem Va(E:Env P cx S)(hI:B5 P S R out B di)(uS:P.follows .mixedOrders=true):∀(c:Code) (wH lv:Nat) (s:St) (ct:Ct) (fs:jZ) (KE:KE) (p:PL) (a:Act) (w:World) (Z:Zb) (Q:Exit->Act->World->Prop),
  xJ f.nt c=true->comp cx di cJ f.d c wH lv s ct fs KE=some p->At S R out B f Z XT p lv s ct fs a w->(∀e,zq S R out B f Z (KE e) (Q (Gv e)))->c.wp P Q a w:=by
 intro c
 induction c with
 |skip=>intro wH lv s ct fs KE p a w Z Q _ h bI hK;exact wp_skip (hK .normal lv s ct fs p a w h bI)
 |label l=>intro wH lv s ct fs KE p a w Z Q _ h bI hK;exact wp_label (hK .normal lv s ct fs p a w h bI)
 |seq x y ihx ihy=>
  intro wH lv s ct fs KE p a w Z Q hd h bI hK
  simp only[xJ,bD]at hd
  refine wp_seq (ihx 0 lv s ct fs _ p a w Z _ hd.1 h bI λe=>?_)
  cases e with
  |normal=>exactλlv s ct fs p a w hk bI=>ihy 0 lv s ct fs KE p a w Z Q hd.2 hk bI hK
  |exit id=>exact hK (.exit id)
  |ret=>exact hK .ret
 |region id ops draw=>
  intro wH lv s ct fs KE p a w Z Q hd h bI hK
  have hn:∀o∈ops.toList,∀n,o.dst=some n->n<f.nt:=by
   intro o ho n hn
   have:=List.all_eq_true.1 hd o ho
   rw[hn]at this
   exact x_ this
  have ajy:∀p,At S R out B f Z XT p lv s ct fs a w->At S R out B f Z XT p lv (KN cx cJ f.d id s) ct fs a w:=by
   rintro p ⟨K,ρ,G,h1,h2,h3,h4,h5,h6,h7,h8,_⟩
   unfold KN
   cases cx.rH cJ 4 id with
   |none=>exact⟨K,ρ,G,h1,h2,h3,h4,h5,h6,h7,h8,trivial⟩
   |some js=>
    obtain⟨G',h7'⟩:=h7.jO (js:=js) (d':=f.d)
    exact⟨K,ρ,G',h1,h2,h3,h4,h5,h6,h7',h8,trivial⟩
  have Vb:∀(s0:St) p,At S R out B f Z XT p lv s0 ct fs a w->At S R out B f Z XT p lv (Fy cx cJ f.d id s0 ct).1 (Fy cx cJ f.d id s0 ct).2 fs a w:=by
   rintro s0 p ⟨K,ρ,G,h1,h2,h3,h4,h5,h6,h7,h8,_⟩
   unfold Fy
   cases cx.rH cJ 5 id with
   |none=>exact⟨K,ρ,G,h1,h2,h3,h4,h5,h6,h7,h8,trivial⟩
   |some js=>
    obtain⟨⟨G',h7'⟩,g2,_⟩:=h7.j6 (js:=js) (d':=f.d)
    exact⟨K,ρ,G',h1,h2,h3,h4,h5.trans g2.symm,h6,h7',h8,trivial⟩
  have lM:=Vb _ p (ajy p bI)
  simp only[comp]at h
  split at h
  ·exact UQ E hI uS hn (hK .normal) h lM
  ·rename_i js hj
   simp only[cN,bG]at h
   obtain⟨k,hk,b,hb,rfl⟩:=h
   obtain⟨Z',z1,z2,wX,hS⟩:=Mh rfl hk (hK .normal) lM
   exact UQ E hI uS hn (hS _) hb wX
 |cond c x y ihx ihy=>
  intro wH lv s ct fs KE p a w Z Q hd h bI hK
  simp only[xJ,bD]at hd
  simp only[comp]at h
  split at h
  ·exact U' h bI (λfs p hp bI=>ihx 0 lv s ct fs KE p a w Z Q hd.1 hp bI hK) (λfs p hp bI=>ihy 0 lv s ct fs KE p a w Z Q hd.2 hp bI hK)
  ·rename_i js hj
   simp only[cN,bG]at h
   obtain⟨k,hk,b,hb,rfl⟩:=h
   obtain⟨Z',z1,z2,wX,hS⟩:=Mh rfl hk (hK .normal) bI
   have hKE:∀tag e,zq S R out B f Z' (Ba f.d (Eu f.d s ct js) lv tag KE e) (Q (Gv e)):=by
    intro tag e
    cases e with
    |normal=>exact hS tag
    |exit id=>exact(hK (.exit id)).ext z1 z2
    |ret=>exact(hK .ret).ext z1 z2
   exact U' hb wX (λfs p hp bI=>ihx 0 (lv+1) s ct fs _ p a w Z' Q hd.1 hp bI (hKE _)) (λfs p hp bI=>ihy 0 (lv+1) s ct fs _ p a w Z' Q hd.2 hp bI (hKE _))
 |block id body ih=>
  intro wH lv s ct fs KE p a w Z Q hd h bI hK
  have ya:∀(Z:Zb) (KE':Go.Proofs.YtjimmglpkndemaaGreatC.KE),(∀e,zq S R out B f Z (KE' e) (Q (Gv e)))->∀e,zq S R out B f Z (Fu id KE' e) (Exit.inBlock id Q (Gv e)):=by
   intro Z KE' hK e
   cases e with
   |normal=>exact hK .normal
   |ret=>exact hK .ret
   |exit i=>
    intro lv s ct fs p a w hk bI
    simp only[Fu]at hk
    show(if i=id then Q .normal a w else Q (.exit i) a w)
    cases hb:Nat.beq i id with
    |true=>
     rw[hb]at hk
     rw[if_pos (ef hb)]
     exact hK .normal lv s ct fs p a w hk bI
    |false=>
     rw[hb]at hk
     rw[if_neg (λe=>by subst e;simp at hb)]
     exact hK (.exit i) lv s ct fs p a w hk bI
  simp only[comp]at h
  split at h
  ·exact wp_block (ih id lv s ct fs _ p a w Z _ hd h bI (ya Z KE hK))
  ·rename_i js hj
   simp only[cN,bG]at h
   obtain⟨k,hk,b,hb,rfl⟩:=h
   obtain⟨Z',z1,z2,wX,hS⟩:=Mh rfl hk (hK .normal) bI
   refine wp_block (ih id (lv+1) s ct fs _ b a w Z' _ hd hb wX (ya Z' _ λe=>?_))
   cases e with
   |normal=>exact hS _
   |exit id=>exact(hK (.exit id)).ext z1 z2
   |ret=>exact(hK .ret).ext z1 z2
 |loop body ih=>
  intro wH lv s ct fs KE p a w Z Q hd h bI hK
  simp only[comp]at h
  split at h
  ·cases h;obtain⟨K,ρ,G,h1,_⟩:=bI;cases h1
  ·rename_i js hj
   split at h
   ·cases h;obtain⟨K,ρ,G,h1,_⟩:=bI;cases h1
   ·rename_i xs hm
    simp only[cN,bG]at h
    obtain⟨b,hb,rfl⟩:=h
    obtain⟨K,ρ,G,h1,h2,⟨pre,h3⟩,⟨e,h4⟩,h5,h6,h7,h8,_⟩:=bI
    have ki:∀i b,B.bt i=some b->i<(Eu f.d s ct js).c0.i:=λi b hb=>(h7.bt i b hb).1
    have key:∀(n:Nat) (ts:List T) (a:Act) (w:World) (G:Gh),iter (λself ts=>b.den S R (self::K) (ρ++ts)) n ts=some out->(ρ++ts).length=(Eu f.d s ct js).ct.a->
      Rel (λi=>i<(Eu f.d s ct js).ct.i) B f.d f.up (Eu f.d s ct js).st (ρ++ts) G a w->a.tmps.size=f.nt->Code.rounds P body Q n a w:=by
     intro n
     induction n with
     |zero=>intro ts a w G hi;cases hi
     |succ n ihn=>
      intro ts a w G hi hl hr hs
      rw[rounds_succ]
      refine ih 0 (lv+1) _ _ fs _ b a w ⟨iter (λself ts=>b.den S R (self::K) (ρ++ts)) n::K,ρ⟩ _ hd hb ⟨_,ρ++ts,G,hi,by simp[h2],⟨[],rfl⟩,⟨ts,rfl⟩,hl,h6.ext,hr,hs,trivial⟩ λe'=>?_
      cases e' with
      |normal=>exact U_ h2 h5 ki λts a w G hJ hl hr hs=>ihn ts a w G hJ hl hr hs
      |exit id=>exact(hK (.exit id)).ext ⟨_::pre,by simp[h3];rfl⟩ ⟨e,h4⟩
      |ret=>exact(hK .ret).ext ⟨_::pre,by simp[h3];rfl⟩ ⟨e,h4⟩
    simp only[PL.den]at h1
    obtain⟨g1,G',g2⟩:=U8 (e:=[]) hm (by rw[List.append_nil];exact h7) h5 ki
    rw[List.append_nil]at g1 g2
    exact wp_loop_rounds R (key R _ a w G' h1 g1 g2 h8)
 |exit id=>intro wH lv s ct fs KE p a w Z Q _ h bI hK;exact wp_exit (hK (.exit id) lv s ct fs p a w h bI)
 |ret=>intro wH lv s ct fs KE p a w Z Q _ h bI hK;exact wp_ret (hK .ret lv s ct fs p a w h bI)
 |_=>intros;rename_i h bI _;simp only[comp,bG]at h;subst h;obtain⟨K,ρ,G,h1,_⟩:=bI;cases h1
end
section
variable {M:Nat->Prop} {B:e_} {d:Nat} {up:Nat->Nat->Value} {ρ:List T} {G:Gh} {a:Act} {w:World} {s:St} {S:Nat->af} {P:Program} {cx:Cx} {R:Nat} {out:List T}
theorem ajB{t:Nat}{ti:TI}(hT:uF P t ti){b off:Nat}{vs:List Value}(hl:vs.length=ti.sz)(hc:∀j v,vs[j]?=some v->w.cell? ⟨b,off+j,none⟩=some v):
  (loadVar t ⟨b,off,none⟩).run P w=.ok (if ti.ag then .agg vs.toArray else vs.getD 0 undef) w:=by
 have:=Bl (P:=P) hT hl hc
 simpa[Instr.loadAt,Instr.sureAddr]using this
def zu(tmps:Array Value):ResultVar->Sem Value
 | .tmp t=>pure (tmps.getD t undef)
 | .cell a t=>do loadVar t (<-asAddr (tmps.getD a undef))
theorem Gx(ek:eL P cx)(hr:Rel M B d up s ρ G a w):∀{rvs:List ResultVar} {rs:List SV},Go.Proofs.YtjimmglpkndemaaGreatC.results cx d s rvs=some rs->
  ∃us:List Value,(rvs.mapM (zu a.tmps)).run P w=.ok us w∧db G w ρ rs us∧∀v∈rs,∀i∈dA v,M i
 | [],rs,h=>by
  simp[Go.Proofs.YtjimmglpkndemaaGreatC.results]at h
  subst h
  exact⟨[],rfl,trivial,λv hv=>by cases hv⟩
 | .tmp t::rvs,rs,h=>by
  simp only[Go.Proofs.YtjimmglpkndemaaGreatC.results,cN,bG]at h
  obtain⟨vs,pU,rfl⟩:=h
  obtain⟨us,g1,g2,g3⟩:=Gx ek hr pU
  have ht:=hr.tm d t (Nat.le_refl _)
  simp only[pi,if_true]at ht
  refine⟨a.tmps.getD t undef::us,?_,⟨ht,g2⟩,λv hv=>?_⟩
  ·rw[List.mapM_cons,Sem.run_bind]
   simp only[zu,Sem.run_pure,Result.andThen_ok,Sem.run_bind,g1]
  ·rcases List.mem_cons.1 hv with rfl|hv
   ·exact hr.gm _
   ·exact g3 v hv
 | .cell ad t::rvs,rs,h=>by
  simp only[Go.Proofs.YtjimmglpkndemaaGreatC.results,cN]at h
  obtain⟨ti,f_,h⟩:=h
  have ht:=hr.tm d ad (Nat.le_refl _)
  simp only[pi,if_true]at ht
  split at h
  ·rename_i bx off hpt
   split at h
   ·rename_i ag cs vR
    cases hb:Nat.ble (off+ti.sz) cs.length with
    |false=>simp[hb]at h
    |true=>
     simp only[hb,cond_true,cN,bG]at h
     obtain⟨vs,pU,rfl⟩:=h
     obtain⟨us,g1,g2,g3⟩:=Gx ek hr pU
     rw[hpt]at ht
     have qH:=hr.bx bx
     rw[vR]at qH
     obtain⟨_,b9,elem,hh,kZ⟩:=qH
     have hle:=Nat.le_of_ble_eq_true hb
     have hlen:=kZ.length
     simp only[Array.length_toList]at hlen
     have hT:=ek.ty _ _ f_
     have pu:=bk.take ti.sz (bk.drop off kZ)
     have p_:((b9.toList.drop off).take ti.sz).length=ti.sz:=by simp;omega
     have eR:=ajB (P:=P) (w:=w) (b:=G.β bx) (off:=off) hT p_ (λj v hj=>by
      rw[yY hh]
      have bf:=(List.getElem?_eq_some_iff.1 hj).1
      rw[List.getElem?_take,if_pos (by omega),List.getElem?_drop]at hj
      simpa using hj)
     refine⟨_::us,?_,⟨Bm hT pu p_,g2⟩,λv hv=>?_⟩
     ·rw[List.mapM_cons,Sem.run_bind]
      simp only[zu,Sem.run_bind]
      rw[show a.tmps.getD ad undef=.pointer (some ⟨G.β bx,off,none⟩) from ht]
      simp only[asAddr,Sem.run_pure,Result.andThen_ok,eR,g1]
     ·rcases List.mem_cons.1 hv with rfl|hv
      ·intro i hi
       have hm:=hr.gm (.x bx)
       rw[vR]at hm
       exact hm i (KZ _ _ i (K1 _ _ i hi))
      ·exact g3 v hv
   ·cases h
  ·cases h
theorem Vc{fn:Func}{us:List Value}(h:(fn.results.toList.mapM (zu a.tmps)).run P w=.ok us w):(Go.results fn a.tmps).run P w=.ok (nN us) w:=by
 have h2:(fn.results.mapM (zu a.tmps)).run P w=.ok us.toArray w:=by
  rw[Array.mapM_eq_mapM_toList,Sem.run_map,h]
  rfl
 have h3:Go.results fn a.tmps=(do let vs <-fn.results.mapM (zu a.tmps);pure (if h:vs.size=1 then vs[0]else .tuple vs)):=by
  unfold Go.results
  congr 1
 rw[h3,Sem.run_bind,h2]
 simp only[Result.andThen_ok,Sem.run_pure,nN,List.size_toArray]
 by_cases hl:us.length=1
 ·simp[hl]
 ·simp[hl]
theorem Gy(d e n:Nat):∀s:St,(sH d s).get (.t e n)=if d<=e then .un else s.get (.t e n)
 | []=>by simp[sH,St.get]
 |(.t e' n',v)::s=>by
  simp only[sH]
  cases hb:Nat.ble d e' with
  |true=>
   have:=Nat.le_of_ble_eq_true hb
   simp only[cond_true]
   rw[Gy d e n s]
   split
   ·rfl
   ·simp only[St.get]
    have:(bE.t e' n').beq (.t e n)=false:=by
     cases hq:(bE.t e' n').beq (.t e n)with
     |false=>rfl
     |true=>have:=bE.beq_iff.1 hq;cases this;omega
    rw[this];rfl
  |false=>
   have bf:¬d<=e':=λh=>by rw[Nat.ble_eq_true_of_le h]at hb;cases hb
   simp only[cond_false,St.get]
   cases hq:(bE.t e' n').beq (.t e n)with
   |true=>have:=bE.beq_iff.1 hq;cases this;simp[bf]
   |false=>simp only[cond_false];exact Gy d e n s
 |(.x b,v)::s=>by
  simp only[sH,St.get]
  rw[show(bE.x b).beq (.t e n)=false from rfl]
  exact Gy d e n s
 |(.o b,v)::s=>by
  simp only[sH,St.get]
  rw[show(bE.o b).beq (.t e n)=false from rfl]
  exact Gy d e n s
theorem Gz(d:Nat)(r:bE)(hr:∀e n,r≠.t e n):∀s:St,(sH d s).get r=s.get r
 | []=>rfl
 |(.t e' n',v)::s=>by
  have hb:(bE.t e' n').beq r=false:=by
   cases hq:(bE.t e' n').beq r with
   |false=>rfl
   |true=>exact absurd (bE.beq_iff.1 hq).symm (hr e' n')
  simp only[sH]
  cases Nat.ble d e' with
  |true=>simp only[cond_true,St.get,hb,cond_false];exact Gz d r hr s
  |false=>simp only[cond_false,St.get,hb];exact Gz d r hr s
 |(.x b,v)::s=>by
  simp only[sH,St.get]
  rw[Gz d r hr s]
 |(.o b,v)::s=>by
  simp only[sH,St.get]
  rw[Gz d r hr s]
theorem GA(d:Nat):∀(vs:List SV) (s:St) (i:Nat) (r:bE),(wI d s i vs).get r=match r with
  | .t e n=>if e=d∧i<=n∧n<i+vs.length then vs.getD (n-i) .un else s.get (.t e n)
  |r=>s.get r
 | [],s,i,r=>by
  cases r with
  |t e n=>simp only[wI,List.length_nil];rw[if_neg (by omega)]
  |_=>rfl
 |v::vs,s,i,r=>by
  simp only[wI]
  rw[GA d vs (s.set (.t d i) v) (i+1) r]
  cases r with
  |t e n=>
   simp only[List.length_cons]
   by_cases h1:e=d∧i+1<=n∧n<i+1+vs.length
   ·rw[if_pos h1,if_pos ⟨h1.1,by omega,by omega⟩]
    rw[show n-i=(n-(i+1))+1 by omega]
    simp
   ·rw[if_neg h1]
    by_cases h2:e=d∧n=i
    ·obtain⟨rfl,rfl⟩:=h2
     rw[if_pos ⟨rfl,by omega,by omega⟩,St.ci]
     simp
    ·rw[if_neg (by omega),St.eG _ _ (λh=>by cases h;exact h2 ⟨rfl,rfl⟩)]
  |x b=>exact St.eG _ _ (by simp)
  |o b=>exact St.eG _ _ (by simp)
theorem db.get{vs:List SV}{us:List Value}(h:db G w ρ vs us):∀(i:Nat) (v:SV),vs[i]?=some v->∃u,us[i]?=some u∧cK G w ρ v u:=by
 induction vs generalizing us with
 |nil=>intro i v hi;simp at hi
 |cons x vs ih=>
  cases us with
  |nil=>exact h.elim
  |cons u us=>
   intro i v hi
   cases i with
   |zero=>simp at hi;subst hi;exact⟨u,rfl,h.1⟩
   |succ i=>simpa using ih h.2 i v (by simpa using hi)
theorem Rel.enter{vs:List SV}{args:List Value}{nt:Nat}(hr:Rel M B d up s ρ G a w)(hv:db G w ρ vs args)(hm:∀v∈vs,∀i∈dA v,M i)(hn:vs.length<=nt):
  Rel M B (d+1) (pi up d a) (wI (d+1) (sH (d+1) s) 0 vs) ρ G {tmps:=args.toArray++Array.replicate (nt-args.toArray.size) undef,defers:=[]} w∧
   (args.toArray++Array.replicate (nt-args.toArray.size) undef:Array Value).size=nt:=by
 have hl:=hv.length
 have hg:∀r,(∀e n,r≠.t e n)->(wI (d+1) (sH (d+1) s) 0 vs).get r=s.get r:=by
  intro r hr
  rw[GA]
  cases r with
  |t e n=>exact absurd rfl (hr e n)
  |x b=>exact Gz _ _ hr s
  |o b=>exact Gz _ _ hr s
 refine⟨⟨λe n he=>?_,λb=>?_,λi=>?_,λr i hi=>?_,λi hi=>?_,hr.iG,rfl,hr.base,hr.bt⟩,by simp;omega⟩
 ·rw[GA]
  simp only[Nat.zero_le,true_and,Nat.zero_add,Nat.sub_zero]
  by_cases RL:e=d+1
  ·subst RL
   by_cases hnl:n<vs.length
   ·rw[if_pos ⟨rfl,hnl⟩]
    obtain⟨u,hu,rv⟩:=hv.get n vs[n] (List.getElem?_eq_getElem hnl)
    rw[List.getD_eq_getElem?_getD,List.getElem?_eq_getElem hnl]
    have:pi (pi up d a) (d+1) {tmps:=args.toArray++Array.replicate (nt-args.toArray.size) undef,defers:=[]} (d+1) n=u:=by
     simp only[pi,if_true]
     rw[Array.getD_eq_getD_getElem?,Array.getElem?_append_left (by simp;omega),List.getElem?_toArray,hu]
     rfl
    rw[this]
    exact rv
   ·rw[if_neg (by omega),Gy,if_pos (Nat.le_refl _)]
    trivial
  ·rw[if_neg (by omega),Gy,if_neg (by omega)]
   have:pi (pi up d a) (d+1) {tmps:=args.toArray++Array.replicate (nt-args.toArray.size) undef,defers:=[]} e n=pi up d a e n:=by
    show(if e=d+1 then _ else _)=_
    rw[if_neg RL]
   rw[this]
   exact hr.tm e n (by omega)
 ·rw[hg _ (by simp)];exact hr.bx b
 ·rw[hg _ (by simp)];exact hr.ob i
 ·rw[GA]at hi
  cases r with
  |t e n=>
   simp only[Nat.zero_le,true_and,Nat.zero_add,Nat.sub_zero]at hi
   split at hi
   ·rename_i hc
    rw[List.getD_eq_getElem?_getD,List.getElem?_eq_getElem hc.2]at hi
    exact hm _ (List.getElem_mem hc.2) i hi
   ·rw[Gy]at hi
    split at hi
    ·simp[dA]at hi
    ·exact hr.gm _ i hi
  |x b=>
   simp only at hi
   exact hr.gm (.x b) i (by rwa[Gz _ _ (by simp) s]at hi)
  |o b=>
   simp only at hi
   exact hr.gm (.o b) i (by rwa[Gz _ _ (by simp) s]at hi)
 ·rw[hg _ (by simp),hg _ (by simp)]at hi;exact hr.key i hi
theorem Rel.Vd{a2:Act}{w2:World}{G2:Gh}{s2:St}{Gw:List T}(hd:a.defers=[])(hr:Rel M B (d+1) (pi up d a) s2 Gw G2 a2 w2):Rel M B d up (sH (d+1) s2) Gw G2 a w2:=by
 have hg:∀r,(∀e n,r≠.t e n)->(sH (d+1) s2).get r=s2.get r:=λr hr=>Gz _ _ hr s2
 refine⟨λe n he=>?_,λb=>?_,λi=>?_,λr i hi=>?_,λi hi=>?_,hr.iG,hd,hr.base,hr.bt⟩
 ·rw[Gy,if_neg (by omega)]
  have:=hr.tm e n (by omega)
  have e1:pi (pi up d a) (d+1) a2 e n=pi up d a e n:=by
   show(if e=d+1 then _ else _)=_
   rw[if_neg (by omega)]
  rw[e1]at this
  exact this
 ·rw[hg _ (by simp)];exact hr.bx b
 ·rw[hg _ (by simp)];exact hr.ob i
 ·cases r with
  |t e n=>
   rw[Gy]at hi
   split at hi
   ·simp[dA]at hi
   ·exact hr.gm _ i hi
  |x b=>exact hr.gm (.x b) i (by rwa[hg _ (by simp)]at hi)
  |o b=>exact hr.gm (.o b) i (by rwa[hg _ (by simp)]at hi)
 ·rw[hg _ (by simp),hg _ (by simp)]at hi;exact hr.key i hi
theorem Ve(E:Env P cx S)(uS:P.follows .mixedOrders=true):∀n,B5 P S R out B (Fz cx n)
 |0=>by intro f g vs lv s ct fs kk p K0 a w args Ψ h;cases h
 |n+1=>by
  intro f g vs lv s ct fs kk p Z a w args Ψ h bI hk
  simp only[Fz,cN]at h
  obtain⟨fn,Ur,c,hc,h⟩:=h
  obtain⟨hf,km⟩:=E.di g fn Ur
  refine⟨km,?_⟩
  cases hb:(Nat.ble vs.length fn.ntmps&&xJ fn.ntmps c)with
  |false=>simp[hb]at h
  |true=>
   simp only[hb,cond_true]at h
   simp only[bD]at hb
   obtain⟨K,ρ,G,h1,h2,h3,h4,h5,h6,h7,h8,h9,n_⟩:=bI
   have hle:=Nat.le_of_ble_eq_true hb.1
   obtain⟨q1,q2⟩:=h7.enter h9 n_ hle
   refine calls_of_wp hf hc ?_
   refine Va (f:=⟨f.d+1,pi f.up f.d a,fn.ntmps⟩) E (Ve E uS n) uS c 0 lv _ ct fs _ p _ w Z _ hb.2 h ⟨K,ρ,G,h1,h2,h3,h4,h5,h6,q1,q2,trivial⟩ λe=>?_
   have fin:∀(ry:Nat) (s':St) (g_:Ct) (jC:jZ) (p':PL) (a2:Act) (w2:World),(Go.Proofs.YtjimmglpkndemaaGreatC.results cx (f.d+1) s' fn.results.toList).bind (λrs=>kk rs ry (sH (f.d+1) s') g_ jC)=some p'->
     At S R out B ⟨f.d+1,pi f.up f.d a,fn.ntmps⟩ Z XT p' ry s' g_ jC a2 w2->a2.defers=[]∧∃v,(Go.results fn a2.tmps).run P w2=.ok v w2∧∃v',Ending.returned v=.returned v'∧Ψ v' w2:=by
    rintro ry s' g_ jC p' a2 w2 c_ ⟨K2,Gw,G2,g1,g2,g3,g4,g5,g6,g7,g8,_⟩
    rw[cN]at c_
    obtain⟨rs,LQ,c_⟩:=c_
    obtain⟨us,u1,u2,u3⟩:=Gx E.ek g7 LQ
    refine⟨g7.dn,nN us,Vc u1,nN us,rfl,?_⟩
    exact hk rs ry _ g_ jC p' w2 us c_ ⟨K2,Gw,G2,g1,g2,g3,g4,g5,g6,g7.Vd h7.dn,h8,u2,u3⟩
   cases e with
   |normal=>intro ry s' g_ jC p' a2 w2 c_ lM;exact fin ry s' g_ jC p' a2 w2 c_ lM
   |ret=>intro ry s' g_ jC p' a2 w2 c_ lM;exact fin ry s' g_ jC p' a2 w2 c_ lM
   |exit id=>intro ry s' g_ jC p' a2 w2 c_ lM;cases c_
theorem Vf{k:Wk}{c:Ce}{x:Lf}{v:Value}(hk:∀id,cL G w ρ id (k.get (.o id)))(h:k.plain c=some x)(hr:gv G w ρ c v):∃t,x.ev ρ=t∧fm G.q w t v:=by
 unfold Wk.plain at h
 split at h
 ·cases h;obtain⟨t,h1,h2⟩:=hr;exact⟨t,Lf.bW h1,h2⟩
 ·cases h
  have hv:v=.slice none 0 0:=hr
  subst hv
  exact⟨_,rfl,.nil⟩
 ·rename_i id
  split at h
  ·rename_i y hy
   cases h
   have eH:=hk id
   rw[hy]at eH
   obtain⟨t,h1,h2,_⟩:=eH
   obtain⟨p,hp,hv⟩:=hr
   simp only[mD,bG]at hp
   subst hp
   exact⟨t,Lf.bW h1,by rw[hv];exact h2⟩
  ·cases h
 ·cases h
theorem Vg{k:Wk}(hk:∀id,cL G w ρ id (k.get (.o id))):∀{cs:List Ce} {xs:List Lf} {vs:List Value},k.qo cs=some xs->bk G w ρ cs vs->eO G.q w (xs.map (Lf.ev ρ)) vs∧xs.length=cs.length
 | [],xs,vs,h,hr=>by
  simp[Wk.qo]at h
  subst h
  cases vs with
  |nil=>exact⟨trivial,rfl⟩
  |cons _ _=>exact hr.elim
 |c::cs,xs,[],h,hr=>hr.elim
 |c::cs,xs,v::vs,h,hr=>by
  simp only[Wk.qo,cN,bG]at h
  obtain⟨x,hx,ys,TU,rfl⟩:=h
  obtain⟨t,ht,hd⟩:=Vf hk hx hr.1
  obtain⟨g1,g2⟩:=Vg hk TU hr.2
  exact⟨⟨by rw[ht];exact hd,g1⟩,by simp[g2]⟩
theorem Cg:∀{cs:List Ce} {ks:List Ck} {k k1:Wk} {xs:List Lf} {ids:List Nat} {vs:List Value},mz k cs ks=some (k1,xs,ids)->(∀id,cL G w ρ id (k.get (.o id)))->bk G w ρ cs vs->k1.bJ S ρ->
  k.bJ S ρ∧k.fq k1∧∃is,b_ G w ks vs (xs.map (Lf.ev ρ)) is∧is.filterMap id=ids∧∀j,some j∈is->j%4≠2
 | [],[],k,k1,xs,ids,vs,h,hk,hr,hd=>by
  simp only[mz,bG,Prod.mk.injEq]at h
  obtain⟨rfl,rfl,rfl⟩:=h
  cases vs with
  |nil=>exact⟨hd,.refl _,[],trivial,rfl,λj hj=>by cases hj⟩
  |cons _ _=>exact hr.elim
 |c::cs,ck::ks,k,k1,xs,ids,[],h,hk,hr,hd=>hr.elim
 |c::cs,.p::ks,k,k1,xs,ids,v::vs,h,hk,hr,hd=>by
  have h':(k.plain c).bind (λx=>(mz k cs ks).bind λr=>some (r.1,x::r.2.1,r.2.2))=some (k1,xs,ids):=by
   cases c with
   |o id q=>cases q<;>exact h
   |p x=>exact h
   |n=>exact h
   |d=>exact h
  simp only[cN,bG,Prod.mk.injEq]at h'
  obtain⟨x,hx,⟨k2,ys,rM⟩,h2,rfl,rfl,rfl⟩:=h'
  obtain⟨g1,g2,is,g3,g4,g5⟩:=Cg h2 hk hr.2 hd
  obtain⟨t,ht,ez⟩:=Vf hk hx hr.1
  exact⟨g1,g2,none::is,⟨rfl,by rw[ht];exact ez,g3⟩,by simpa using g4,λj hj=>g5 j (by simpa using hj)⟩
 | .p x::cs,.s::ks,k,k1,xs,ids,v::vs,h,hk,hr,hd=>by
  simp only[mz,cN,bG,Prod.mk.injEq]at h
  obtain⟨⟨k2,ys,rM⟩,h2,rfl,rfl,rfl⟩:=h
  obtain⟨pR,r,sS,pn⟩:=Wk.bX hd
  obtain⟨g1,g2,is,g3,g4,g5⟩:=Cg h2 hk hr.2 pR
  obtain⟨t,ht,ez⟩:=hr.1
  simp only[List.map_cons,List.map_nil,Lf.bW ht,Prim.ev]at sS
  split at sS
  ·rename_i mF
   cases sS
   refine⟨g1,g2.trans (Wk.bR _ _ _),none::is,⟨rfl,?_,?_,g3⟩,by simpa using g4,λj hj=>g5 j (by simpa using hj)⟩
   ·rw[Lf.bW pn];exact ez
   ·rw[Lf.bW pn];exact mF
  ·cases sS
 | .n::cs,.o dp::ks,k,k1,xs,ids,v::vs,h,hk,hr,hd=>by
  simp only[mz,cN,bG,Prod.mk.injEq]at h
  obtain⟨⟨k2,ys,rM⟩,h2,rfl,rfl,rfl⟩:=h
  obtain⟨g1,g2,is,g3,g4,g5⟩:=Cg h2 hk hr.2 hd
  exact⟨g1,g2,none::is,⟨hr.1,rfl,g3⟩,by simpa using g4,λj hj=>g5 j (by simpa using hj)⟩
 | .o id []::cs,.o dp::ks,k,k1,xs,ids,v::vs,h,hk,hr,hd=>by
  simp only[mz]at h
  split at h
  ·rename_i vL x hx
   cases gR:(vL==dp&& !Nat.beq (id%4) 2)with
   |false=>simp[gR]at h
   |true=>
    simp only[gR,cond_true,cN,bG,Prod.mk.injEq]at h
    simp only[bD,beq_iff_eq,Bool.not_eq_true']at gR
    obtain⟨gR,BF⟩:=gR
    subst gR
    obtain⟨⟨k2,ys,rM⟩,h2,rfl,rfl,rfl⟩:=h
    obtain⟨g1,g2,is,g3,g4,g5⟩:=Cg h2 hk hr.2 hd
    have eH:=hk id
    rw[hx]at eH
    obtain⟨t,ht,bU⟩:=eH
    obtain⟨p,hp,hv⟩:=hr.1
    simp only[mD,bG]at hp
    subst hp
    refine⟨g1,g2,some id::is,⟨hv,by rw[Lf.bW ht];exact bU,g3⟩,by simpa using g4,λj hj=>?_⟩
    rcases List.mem_cons.1 hj with hj|hj
    ·cases hj;intro e;rw[e]at BF;cases BF
    ·exact g5 j hj
  ·cases h
 | [],_::_,k,k1,xs,ids,vs,h,_,_,_=>by simp[mz]at h
 |c::_,[],k,k1,xs,ids,vs,h,_,_,_=>by simp[mz]at h
 | .p _::_,.o _::_,k,k1,xs,ids,_::_,h,_,_,_=>by simp[mz]at h
 | .n::_,.s::_,k,k1,xs,ids,_::_,h,_,_,_=>by simp[mz]at h
 | .d::_,.s::_,k,k1,xs,ids,_::_,h,_,_,_=>by simp[mz]at h
 | .d::_,.o _::_,k,k1,xs,ids,_::_,h,_,_,_=>by simp[mz]at h
 | .o _ _::_,.s::_,k,k1,xs,ids,_::_,h,_,_,_=>by simp[mz]at h
 | .o _ (_::_)::_,.o _::_,k,k1,xs,ids,_::_,h,_,_,_=>by simp[mz]at h
theorem Ch:∀{cs:List Ce} {ks:List Ck} {k k1:Wk} {xs:List Lf} {ids:List Nat},mz k cs ks=some (k1,xs,ids)->k.fq k1
 | [],[],k,k1,xs,ids,h=>by
  simp only[mz,bG,Prod.mk.injEq]at h
  obtain⟨rfl,rfl,rfl⟩:=h
  exact .refl _
 |c::cs,.p::ks,k,k1,xs,ids,h=>by
  have h':(k.plain c).bind (λx=>(mz k cs ks).bind λr=>some (r.1,x::r.2.1,r.2.2))=some (k1,xs,ids):=by
   cases c with
   |o id q=>cases q<;>exact h
   |p x=>exact h
   |n=>exact h
   |d=>exact h
  simp only[cN,bG,Prod.mk.injEq]at h'
  obtain⟨x,hx,⟨k2,ys,rM⟩,h2,rfl,rfl,rfl⟩:=h'
  exact Ch h2
 | .p x::cs,.s::ks,k,k1,xs,ids,h=>by
  simp only[mz,cN,bG,Prod.mk.injEq]at h
  obtain⟨⟨k2,ys,rM⟩,h2,rfl,rfl,rfl⟩:=h
  exact(Ch h2).trans (Wk.bR _ _ _)
 | .n::cs,.o dp::ks,k,k1,xs,ids,h=>by
  simp only[mz,cN,bG,Prod.mk.injEq]at h
  obtain⟨⟨k2,ys,rM⟩,h2,rfl,rfl,rfl⟩:=h
  exact Ch h2
 | .o id []::cs,.o dp::ks,k,k1,xs,ids,h=>by
  simp only[mz]at h
  split at h
  ·rename_i vL x hx
   cases gR:(vL==dp&& !Nat.beq (id%4) 2)with
   |false=>simp[gR]at h
   |true=>
    simp only[gR,cond_true,cN,bG,Prod.mk.injEq]at h
    obtain⟨⟨k2,ys,rM⟩,h2,rfl,rfl,rfl⟩:=h
    exact Ch h2
  ·cases h
 | [],_::_,k,k1,xs,ids,h=>by simp[mz]at h
 |c::_,[],k,k1,xs,ids,h=>by simp[mz]at h
 | .p _::_,.o _::_,k,k1,xs,ids,h=>by simp[mz]at h
 | .n::_,.s::_,k,k1,xs,ids,h=>by simp[mz]at h
 | .d::_,.s::_,k,k1,xs,ids,h=>by simp[mz]at h
 | .d::_,.o _::_,k,k1,xs,ids,h=>by simp[mz]at h
 | .o _ _::_,.s::_,k,k1,xs,ids,h=>by simp[mz]at h
 | .o _ (_::_)::_,.o _::_,k,k1,xs,ids,h=>by simp[mz]at h
theorem Mi:∀{vs:List SV} {rs:List (Bool×List Ck)} {k k1:Wk} {xs:List Lf} {ids:List Nat},me k vs rs=some (k1,xs,ids)->k.fq k1
 | [],[],k,k1,xs,ids,h=>by
  simp only[me,bG,Prod.mk.injEq]at h
  obtain⟨rfl,rfl,rfl⟩:=h
  exact .refl _
 | .v ag cs::vs,(xI,ks)::rs,k,k1,xs,ids,h=>by
  simp only[me]at h
  cases od:(ag==xI)with
  |false=>simp[od]at h
  |true=>
   simp only[od,cond_true,cN,bG,Prod.mk.injEq]at h
   obtain⟨⟨k2,ys,rM⟩,h2,⟨k3,zs,Vh⟩,h3,rfl,rfl,rfl⟩:=h
   exact(Mi h2).trans (Ch h3)
 | [],_::_,k,k1,xs,ids,h=>by simp[me]at h
 |v::_,[],k,k1,xs,ids,h=>by cases v<;>simp[me]at h
 | .un::_,_::_,k,k1,xs,ids,h=>by simp[me]at h
 | .pt _ _::_,_::_,k,k1,xs,ids,h=>by simp[me]at h
 | .ep _ _ _ _ _::_,_::_,k,k1,xs,ids,h=>by simp[me]at h
 | .fp _ _ _ _::_,_::_,k,k1,xs,ids,h=>by simp[me]at h
 | .tp _::_,_::_,k,k1,xs,ids,h=>by simp[me]at h
 | .cl _ _::_,_::_,k,k1,xs,ids,h=>by simp[me]at h
 | .ob _ _::_,_::_,k,k1,xs,ids,h=>by simp[me]at h
 | .fz _ _::_,_::_,k,k1,xs,ids,h=>by simp[me]at h
 | .tk _ _::_,_::_,k,k1,xs,ids,h=>by simp[me]at h
 | .fl _::_,_::_,k,k1,xs,ids,h=>by simp[me]at h
 | .fr _::_,_::_,k,k1,xs,ids,h=>by simp[me]at h
theorem Vi:∀{vs:List SV} {rs:List (Bool×List Ck)} {k k1:Wk} {xs:List Lf} {ids:List Nat} {us:List Value},me k vs rs=some (k1,xs,ids)->(∀id,cL G w ρ id (k.get (.o id)))->db G w ρ vs us->k1.bJ S ρ->
  k.bJ S ρ∧k.fq k1∧∃is,jj G w rs us (xs.map (Lf.ev ρ)) is∧is.filterMap id=ids∧∀j,some j∈is->j%4≠2
 | [],[],k,k1,xs,ids,us,h,hk,hr,hd=>by
  simp only[me,bG,Prod.mk.injEq]at h
  obtain⟨rfl,rfl,rfl⟩:=h
  cases us with
  |nil=>exact⟨hd,.refl _,[],trivial,rfl,λj hj=>by cases hj⟩
  |cons _ _=>exact hr.elim
 | .v ag cs::vs,(xI,ks)::rs,k,k1,xs,ids,[],h,hk,hr,hd=>hr.elim
 | .v ag cs::vs,(xI,ks)::rs,k,k1,xs,ids,u::us,h,hk,hr,hd=>by
  simp only[me]at h
  cases od:(ag==xI)with
  |false=>simp[od]at h
  |true=>
   simp only[od,cond_true,cN,bG,Prod.mk.injEq]at h
   simp only[beq_iff_eq]at od
   subst od
   obtain⟨⟨k2,ys,rM⟩,h2,⟨k3,zs,Vh⟩,h3,rfl,rfl,rfl⟩:=h
   have h0:=hr.1
   have key:∀ws:List Value,bk G w ρ cs ws->(∀is,b_ G w ks ws (zs.map (Lf.ev ρ)) is->T7 G w (ag,ks) u (zs.map (Lf.ev ρ)) is)->
     k.bJ S ρ∧k.fq k3∧∃is,jj G w ((ag,ks)::rs) (u::us) ((zs++ys).map (Lf.ev ρ)) is∧is.filterMap id=Vh++rM∧∀j,some j∈is->j%4≠2:=by
    intro ws hws ajE
    have uK:∀{k':Wk},k.fq k'->∀id,cL G w ρ id (k'.get (.o id)):=λhs id=>by rw[hs.get];exact hk id
    have pre:k.fq k2:=Mi h2
    obtain⟨g1,g2,is,g3,g4,g5⟩:=Cg h3 (uK pre) hws hd
    obtain⟨f1,f2,is2,f3,f4,f5⟩:=Vi h2 hk hr.2 g1
    exact⟨f1,f2.trans g2,is++is2,⟨_,_,is,is2,List.map_append,rfl,ajE is g3,f3⟩,by rw[List.filterMap_append,g4,f4],λj hj=>(List.mem_append.1 hj).elim (g5 j) (f5 j)⟩
   cases ag with
   |true=>obtain⟨ws,rfl,hws⟩:=h0;exact key ws hws λis ho=>⟨ws,rfl,ho⟩
   |false=>obtain⟨c,rfl,hc,FL⟩:=h0;exact key [u] ⟨hc,trivial⟩ λis ho=>⟨ho,FL⟩
 | [],_::_,k,k1,xs,ids,us,h,_,_,_=>by simp[me]at h
 |v::_,[],k,k1,xs,ids,us,h,_,_,_=>by cases v<;>simp[me]at h
 | .un::_,_::_,k,k1,xs,ids,us,h,_,_,_=>by simp[me]at h
 | .pt _ _::_,_::_,k,k1,xs,ids,us,h,_,_,_=>by simp[me]at h
 | .ep _ _ _ _ _::_,_::_,k,k1,xs,ids,us,h,_,_,_=>by simp[me]at h
 | .fp _ _ _ _::_,_::_,k,k1,xs,ids,us,h,_,_,_=>by simp[me]at h
 | .tp _::_,_::_,k,k1,xs,ids,us,h,_,_,_=>by simp[me]at h
 | .cl _ _::_,_::_,k,k1,xs,ids,us,h,_,_,_=>by simp[me]at h
 | .ob _ _::_,_::_,k,k1,xs,ids,us,h,_,_,_=>by simp[me]at h
 | .fz _ _::_,_::_,k,k1,xs,ids,us,h,_,_,_=>by simp[me]at h
 | .tk _ _::_,_::_,k,k1,xs,ids,us,h,_,_,_=>by simp[me]at h
 | .fl _::_,_::_,k,k1,xs,ids,us,h,_,_,_=>by simp[me]at h
 | .fr _::_,_::_,k,k1,xs,ids,us,h,_,_,_=>by simp[me]at h
end
section
variable {ρ:List T} {w:World} {S:Nat->af} {P:Program} {cx:Cx} {R:Nat} {out:List T}
def Gh.JW(ω:Nat->Option Lb)(bl:Nat->Option Nat):Gh where
 ω:=ω
 β:=λi=>(bl i).getD 0
 H:=λ_ _=>.slice none 0 0
 hs:=λ_ _=>⟨_,_,_,rfl⟩
theorem Mk{oa:Nat->Option Lb}{bl:Nat->Option Nat}:∀{ps:List PS} {args:List Value} {ts:List T} {i a:Nat},zo oa w bl i ps args ts->(∀j t,ts[j]?=some t->ρ[a+j]?=some t)->
  (vN a i ps).1=a+ts.length∧args.length=ps.length∧(∀n,(∃m,ps[n]?=some (.x m))->bl (i+n)≠none)∧
  ∀r v,(r,v)∈(vN a i ps).2->(∃n c,r=.t 0 (i+n)∧n<ps.length∧args[n]?=some c∧cK (Gh.JW oa bl) w ρ v c∧∀j∈dA v,j<i+ps.length)∨
   (∃b,r=.x b∧b<i+ps.length∧gk (Gh.JW oa bl) w ρ b v∧dA v=[])
 | [],args,ts,i,a,h,ny=>by
  obtain⟨rfl,rfl⟩:=h
  exact⟨rfl,rfl,λn ⟨m,hm⟩=>by simp at hm,λr v hm=>by simp[vN]at hm⟩
 | .v ag n::ps,args,ts,i,a,h,ny=>by
  obtain⟨c,fu,vs,t1,t2,rfl,rfl,hl,od,hd,h⟩:=h
  obtain⟨g1,g2,g3,g4⟩:=Mk (i:=i+1) (a:=a+n) h (λj t hj=>by
   have:=ny (n+j) t (by rw[List.getElem?_append_right (by omega),hl];simpa using hj)
   rw[<-this];congr 1;omega)
  obtain⟨r1,r2⟩:=F9 (a:=a) (G:=Gh.JW oa bl) hl (hd.bm (Nat.le_refl _) λb _ hb=>⟨Bd hb,rfl⟩) (λj t hj=>ny j t (by rw[List.getElem?_append_left (List.getElem?_eq_some_iff.1 hj).1];exact hj))
  refine⟨by simp only[vN,List.length_append];omega,by simp[g2],λn' ⟨m,hm⟩=>?_,λr v hm=>?_⟩
  ·cases n' with
   |zero=>simp at hm
   |succ n'=>have:=g3 n' ⟨m,by simpa using hm⟩;rwa[show i+1+n'=i+(n'+1) by omega]at this
  ·simp only[vN,List.mem_cons,Prod.mk.injEq]at hm
   simp only[List.length_cons]
   rcases hm with⟨rfl,rfl⟩|hm
   ·left
    refine⟨0,c,by simp,by omega,rfl,?_,λj hj=>by rw[show dA (.v ag (Et a n))=dV (Et a n) from rfl,r2]at hj;cases hj⟩
    cases ag with
    |true=>exact⟨vs,od,r1⟩
    |false=>
     obtain⟨rfl,FL⟩:=od
     match h0:Et a n,r1 with
     | [x],r1=>exact⟨x,h0.symm▸h0,r1.1,FL⟩
   ·rcases g4 r v hm with⟨n',c',e1,e2,e3,e4,e5⟩|⟨b,e1,e2,e3,e4⟩
    ·exact .inl ⟨n'+1,c',by rw[e1];congr 1;omega,by omega,by simpa using e3,e4,λj hj=>by have:=e5 j hj;omega⟩
    ·exact .inr ⟨b,e1,by omega,e3,e4⟩
 | .x n::ps,args,ts,i,a,h,ny=>by
  obtain⟨c,fu,b,b9,elem,t1,t2,rfl,hc,hb,iq,hh,rfl,hl,hd,h⟩:=h
  obtain⟨g1,g2,g3,g4⟩:=Mk (i:=i+1) (a:=a+n) h (λj t hj=>by
   have:=ny (n+j) t (by rw[List.getElem?_append_right (by omega),hl];simpa using hj)
   rw[<-this];congr 1;omega)
  obtain⟨r1,r2⟩:=F9 (a:=a) (G:=Gh.JW oa bl) hl (hd.bm (Nat.le_refl _) λb _ hb=>⟨Bd hb,rfl⟩) (λj t hj=>ny j t (by rw[List.getElem?_append_left (List.getElem?_eq_some_iff.1 hj).1];exact hj))
  have FE:(Gh.JW oa bl).β i=b:=by simp[Gh.JW,hb]
  refine⟨by simp only[vN,List.length_append];omega,by simp[g2],λn' ⟨m,hm⟩=>?_,λr v hm=>?_⟩
  ·cases n' with
   |zero=>rw[Nat.add_zero,hb];simp
   |succ n'=>have:=g3 n' ⟨m,by simpa using hm⟩;rwa[show i+1+n'=i+(n'+1) by omega]at this
  ·simp only[vN,List.mem_cons,Prod.mk.injEq]at hm
   simp only[List.length_cons]
   rcases hm with⟨rfl,rfl⟩|⟨rfl,rfl⟩|hm
   ·exact .inl ⟨0,c,by simp,by omega,rfl,by rw[cK,FE];exact hc,λj hj=>by simp[dA]at hj;omega⟩
   ·exact .inr ⟨i,rfl,by omega,⟨by rw[FE];exact iq,b9,elem,by rw[FE];exact hh,r1⟩,r2⟩
   ·rcases g4 r v hm with⟨n',c',e1,e2,e3,e4,e5⟩|⟨b,e1,e2,e3,e4⟩
    ·exact .inl ⟨n'+1,c',by rw[e1];congr 1;omega,by omega,by simpa using e3,e4,λj hj=>by have:=e5 j hj;omega⟩
    ·exact .inr ⟨b,e1,by omega,e3,e4⟩
theorem Ml{G:Gh}{bl:Nat->Option Nat}{k:Wk}(hk:∀id,cL G w ρ id (k.get (.o id)))(hx:∀b,gk G w ρ b (k.get (.x b)))(vW:∀i b,bl i=some b->G.β i=b):
  ∀{ps:List PS} {i:Nat} {xs:List Lf},yV k i ps=some xs->(∀n,(∃m,ps[n]?=some (.x m))->bl (i+n)≠none)->iH G w bl i ps (xs.map (Lf.ev ρ))
 | [],i,xs,h,_=>by simp[yV]at h;subst h;rfl
 | .v _ _::ps,i,xs,h,hn=>Ml (ps:=ps) (i:=i+1) hk hx vW h λn ⟨m,hm⟩=>by have:=hn (n+1) ⟨m,by simpa using hm⟩;rwa[show i+1+n=i+(n+1) by omega]
 | .x n::ps,i,xs,h,hn=>by
  simp only[yV]at h
  split at h
  ·rename_i ag cs kZ
   cases hb:Nat.beq cs.length n with
   |false=>simp[hb]at h
   |true=>
    simp only[hb,cond_true,cN,bG]at h
    obtain⟨x1,h1,x2,h2,rfl⟩:=h
    have qH:=hx i
    rw[kZ]at qH
    obtain⟨g1,b9,elem,g2,g3⟩:=qH
    obtain⟨f1,f2⟩:=Vg hk h1 g3
    cases hbi:bl i with
    |none=>exact absurd hbi (by have:=hn 0 ⟨n,rfl⟩;simpa using this)
    |some b=>
     have FE:=vW i b hbi
     rw[FE]at g1 g2
     exact⟨b,b9,elem,_,_,hbi,g1,g2,List.map_append,by rw[List.length_map,f2];exact ef hb,f1,
      Ml hk hx vW h2 λn ⟨m,hm⟩=>by have:=hn (n+1) ⟨m,by simpa using hm⟩;rwa[show i+1+n=i+(n+1) by omega]⟩
  ·cases h
theorem jj.len{G':Gh}{w':World}:∀{rs:List (Bool×List Ck)} {vs:List Value} {ts:List T} {is:List (Option Nat)},jj G' w' rs vs ts is->rs.length=vs.length
 | [],[],[],[],_=>rfl
 |r::rs,v::vs,ts,is,h=>by
  obtain⟨t1,t2,i1,i2,rfl,rfl,h1,h2⟩:=h
  simp[jj.len h2]
 | [],[],_::_,_,h=>h.elim
 | [],[],[],_::_,h=>h.elim
 | [],_::_,_,_,h=>h.elim
 |_::_,[],_,_,h=>h.elim
theorem Vj{G':Gh}{w':World}{rs:List (Bool×List Ck)}{vs:List Value}{ts:List T}{is:List (Option Nat)}(h:jj G' w' rs vs ts is):LH G' w' rs (nN vs) ts is:=by
 have hl:=h.len
 match rs,vs,h,hl with
 | [],[],h,_=>
  cases ts with
  |nil=>cases is with
   |nil=>exact⟨rfl,rfl⟩
   |cons _ _=>exact h.elim
  |cons _ _=>exact h.elim
 | [r],[v],h,_=>exact h
 |r::r'::rs,v::v'::vs,h,_=>
  refine⟨v::v'::vs,?_,h⟩
  unfold nN
  rw[dif_neg (by simp)]
theorem db.ext{G:Gh}{e:List T}:∀{vs:List SV} {us:List Value},db G w ρ vs us->db G w (ρ++e) vs us
 | [],[],_=>trivial
 |_::_,_::_,h=>⟨h.1.ext,db.ext h.2⟩
 | [],_::_,h=>h.elim
 |_::_,[],h=>h.elim
def Gh.gM(G:Gh):Gh:={G with ω:=G.q}
theorem Gh.nO(G:Gh):G.gM.q=G.q:=by
 funext b
 show qf (qf G.ω) b=qf G.ω b
 unfold qf
 cases hb:G.ω b with
 |none=>rfl
 |some l=>cases hq:qt l<;>simp[hq]
theorem ajG{sg:nZ}(h:FC sg=true)(hp:qj sg=true):∀r∈sg.rs,∀k∈r.2,k≠.o true:=by
 intro r hr k hk e
 subst e
 simp only[FC,hp,Bool.true_and,Bool.not_eq_true']at h
 have h1:=List.any_eq_false.1 h r hr
 exact absurd (List.any_eq_true.2 ⟨Ck.o true,hk,rfl⟩) h1
theorem b_.gM{G:Gh}:∀{ks:List Ck} {vs:List Value} {ts:List T} {is:List (Option Nat)},b_ G w ks vs ts is->(∀k∈ks,k≠.o true)->(∀j,some j∈is->j%4≠2)->b_ G.gM w ks vs ts is
 | [],[],[],[],_,_,_=>trivial
 | .s::ks,v::vs,t::ts,x::is,h,hk,h2=>⟨h.1,by rw[Gh.nO];exact h.2.1,h.2.2.1,b_.gM h.2.2.2 (λk hm=>hk k (by simp[hm])) λj hj=>h2 j (by simp[hj])⟩
 | .p::ks,v::vs,t::ts,x::is,h,hk,h2=>⟨h.1,by rw[Gh.nO];exact h.2.1,b_.gM h.2.2 (λk hm=>hk k (by simp[hm])) λj hj=>h2 j (by simp[hj])⟩
 | .o dp::ks,v::vs,t::ts,none::is,h,hk,h2=>⟨h.1,h.2.1,b_.gM h.2.2 (λk hm=>hk k (by simp[hm])) λj hj=>h2 j (by simp[hj])⟩
 | .o true::ks,v::vs,t::ts,some id::is,h,hk,h2=>absurd rfl (hk _ (by simp))
 | .o false::ks,v::vs,t::ts,some id::is,h,hk,h2=>
  ⟨h.1,h.2.1.qI (λc hc=>Be hc (sJ (h2 id (by simp)))) rfl (λb hb=>by rw[Gh.nO];exact hb),b_.gM h.2.2 (λk hm=>hk k (by simp[hm])) λj hj=>h2 j (by simp[hj])⟩
 | [],[],[],_::_,h,_,_=>h.elim
 | [],[],_::_,_,h,_,_=>h.elim
 | [],_::_,_,_,h,_,_=>h.elim
 |k::_,[],_,_,h,_,_=>by cases k<;>exact h.elim
 |k::_,_::_,[],_,h,_,_=>by cases k<;>exact h.elim
 |k::_,_::_,_::_,[],h,_,_=>by cases k<;>exact h.elim
theorem jj.gM{G:Gh}:∀{rs:List (Bool×List Ck)} {vs:List Value} {ts:List T} {is:List (Option Nat)},jj G w rs vs ts is->(∀r∈rs,∀k∈r.2,k≠.o true)->(∀j,some j∈is->j%4≠2)->jj G.gM w rs vs ts is
 | [],[],[],[],_,_,_=>trivial
 |(ag,ks)::rs,v::vs,ts,is,h,hk,h2=>by
  obtain⟨t1,t2,i1,i2,rfl,rfl,h1,h3⟩:=h
  refine⟨t1,t2,i1,i2,rfl,rfl,?_,jj.gM h3 (λr hr=>hk r (by simp[hr])) λj hj=>h2 j (by simp[hj])⟩
  have h20:∀j,some j∈i1->j%4≠2:=λj hj=>h2 j (by simp[hj])
  have h0:=hk (ag,ks) (by simp)
  cases ag with
  |true=>obtain⟨us,e,h3⟩:=h1;exact⟨us,e,h3.gM h0 h20⟩
  |false=>exact⟨h1.1.gM h0 h20,h1.2⟩
 | [],[],_::_,_,h,_,_=>h.elim
 | [],[],[],_::_,h,_,_=>h.elim
 | [],_::_,_,_,h,_,_=>h.elim
 |_::_,[],_,_,h,_,_=>h.elim
theorem iH.gM{G:Gh}{bl:Nat->Option Nat}:∀{ps:List PS} {i:Nat} {ts:List T},iH G w bl i ps ts->iH G.gM w bl i ps ts
 | [],i,ts,h=>h
 | .v _ _::ps,i,ts,h=>iH.gM (ps:=ps) (i:=i+1) h
 | .x n::ps,i,ts,h=>by
  obtain⟨b,b9,elem,t1,t2,h1,h2,h3,h4,h5,h6,h7⟩:=h
  exact⟨b,b9,elem,t1,t2,h1,Be h2 rfl,h3,h4,h5,by rw[Gh.nO];exact h6,iH.gM h7⟩
theorem Vk{n cJ:Nat}{fn:Func}{sg:nZ}{pl:PL}(E:Env P cx S)(uS:P.follows .mixedOrders=true)(hf:P.funcs[cJ]?=some fn)(h:Bc cx n cJ fn sg=some pl):
  F6 P sg cJ λts=>pl.den S R [] ts:=by
 intro w oa bl args ts outs hF cf km
 unfold Bc at h
 simp only[cN]at h
 obtain⟨c,hc,h⟩:=h
 cases hb:(xJ fn.ntmps c&&Nat.ble sg.ps.length fn.ntmps&&FC sg)with
 |false=>simp[hb]at h
 |true=>
  simp only[hb,cond_true]at h
  simp only[bD]at hb
  obtain⟨hb,ajH⟩:=hb
  have nx:=Nat.le_of_ble_eq_true hb.2
  obtain⟨g1,g2,g3,g4⟩:=Mk (ρ:=ts) (i:=0) (a:=0) km (λj t hj=>by rw[Nat.zero_add];exact hj)
  simp only[Nat.zero_add]at g1 g3 g4
  have sk:∀r,(vN 0 0 sg.ps).2.get r=.un∨(r,(vN 0 0 sg.ps).2.get r)∈(vN 0 0 sg.ps).2:=by
   intro r
   rw[St.uD]
   cases hl:(vN 0 0 sg.ps).2.look r with
   |none=>exact .inl rfl
   |some v=>exact .inr (F7 hl)
  refine calls_of_wp hf hc ?_
  have iw:(args.toArray++Array.replicate (fn.ntmps-args.toArray.size) undef:Array Value).size=fn.ntmps:=by simp;omega
  have jR:Rel (λi=>i<sg.ps.length+1) ⟨w,oa,bl⟩ 0 (λ_ _=>undef) (vN 0 0 sg.ps).2 ts (Gh.JW oa bl) {tmps:=args.toArray++Array.replicate (fn.ntmps-args.toArray.size) undef,defers:=[]} w:=by
   refine⟨λe m he=>?_,λb=>?_,λi=>?_,λr i hi=>?_,λi hi=>?_,λb l hb=>?_,rfl,⟨rfl,rfl,rfl,Nat.le_refl _,λb _ hb=>⟨hb,rfl⟩,λb hb=>⟨hb,rfl⟩,cf.gl⟩,λi b hb=>⟨by have:=(cf.bl i b hb).1;omega,by show(bl i).getD 0=b;rw[show bl i=some b from hb];rfl⟩⟩
   ·obtain rfl:e=0:=by omega
    rcases sk (.t 0 m)with hu|hm
    ·rw[hu];trivial
    ·rcases g4 _ _ hm with⟨k,c',e1,e2,e3,e4,_⟩|⟨b,e1,_⟩
     ·cases e1
      simp only[pi,if_true]
      rw[Array.getD_eq_getD_getElem?,Array.getElem?_append_left (by simp;omega),List.getElem?_toArray,e3]
      exact e4
     ·cases e1
   ·rcases sk (.x b)with hu|hm
    ·rw[hu];trivial
    ·rcases g4 _ _ hm with⟨k,c',e1,_⟩|⟨b',e1,_,e2,_⟩
     ·cases e1
     ·cases e1;exact e2
   ·rcases sk (.o i)with hu|hm
    ·rw[hu];trivial
    ·rcases g4 _ _ hm with⟨k,c',e1,_⟩|⟨b',e1,_⟩<;>cases e1
   ·rcases sk r with hu|hm
    ·rw[hu]at hi;simp[dA]at hi
    ·rcases g4 _ _ hm with⟨k,c',_,_,_,_,e5⟩|⟨b',_,_,_,e4⟩
     ·have:=e5 i hi;omega
     ·rw[e4]at hi;cases hi
   ·rcases hi with hi|hi
    ·rcases sk (.x i)with hu|hm
     ·exact absurd hu hi
     ·rcases g4 _ _ hm with⟨k,c',e1,_⟩|⟨b',e1,e2,_⟩
      ·cases e1
      ·cases e1;omega
    ·rcases sk (.o i)with hu|hm
     ·exact absurd hu hi
     ·rcases g4 _ _ hm with⟨k,c',e1,_⟩|⟨b',e1,_⟩<;>cases e1
   ·obtain⟨q1,q2⟩:=cf.iG b l hb
    refine⟨?_,q1⟩
    rcases q2 with rfl|⟨i,rfl,hi⟩
    ·show 0<sg.ps.length+1;omega
    ·have:=(cf.bl i b hi).1;show i<_;omega
  refine Va (f:=⟨0,λ_ _=>undef,fn.ntmps⟩) (R:=R) (out:=outs) (B:=⟨w,oa,bl⟩) E (Ve E uS n) uS c 0 0 _ ⟨(vN 0 0 sg.ps).1,sg.ps.length+1⟩ [] _ pl _ w ⟨[],ts⟩ _ hb.1 h
   ⟨[],ts,Gh.JW oa bl,hF,rfl,⟨[],rfl⟩,⟨[],by simp⟩,g1.symm,λn b hn=>by simp[fact]at hn,jR,iw,trivial⟩ λe=>?_
  have fin:∀(ry:Nat) (s':St) (g_:Ct) (jC:jZ) (p':PL) (a2:Act) (w2:World),KO cx fn sg ry s' g_ jC=some p'->At S R outs ⟨w,oa,bl⟩ ⟨0,λ_ _=>undef,fn.ntmps⟩ ⟨[],ts⟩ XT p' ry s' g_ jC a2 w2->
    a2.defers=[]∧∃v,(Go.results fn a2.tmps).run P w2=.ok v w2∧∃v' G is o1 o2,Ending.returned v=.returned v'∧T8 sg w oa bl outs v' w2 G is o1 o2:=by
   rintro ry s' g_ jC p' a2 w2 hk ⟨K2,Gw,G2,d1,d2,d3,d4,d5,d6,d7,d8,_⟩
   unfold KO at hk
   rw[cN]at hk
   obtain⟨vs,pU,hk⟩:=hk
   obtain⟨us,u1,u2,u3⟩:=Gx E.ek d7 pU
   refine⟨d7.dn,nN us,Vc u1,?_⟩
   simp only at hk
   split at hk
   ·cases hk;cases d1
   ·rename_i k xs ids Lx
    split at hk
    ·cases hk;cases d1
    ·rename_i ys TU
     cases EJ:wv ids with
     |false=>rw[EJ]at hk;simp only[cond_false,bG]at hk;subst hk;cases d1
     |true=>
      rw[EJ]at hk
      simp only[cond_true]at hk
      cases Vl:(Nat.beq k.ct.a (g_.a+rp k.is)&&sF k.ct.a k.is)with
      |false=>rw[Vl]at hk;cases hk
      |true=>
       rw[Vl]at hk
       simp only[cond_true,bG]at hk
       subst hk
       simp only[bD]at Vl
       have hca:=ef Vl.1
       obtain⟨tz,w1,w3,w4⟩:=Gb (S:=S) (R:=R) (K:=K2) (out:=outs) (ρ:=Gw) (by rw[d5,<-hca];exact Vl.2) d1
       have Vm:k.bJ S (Gw++tz):=by
        have:=w4 []
        rw[List.append_nil,d5,<-hca]at this
        exact this
       obtain⟨G3,d9,Vn⟩:=(d7.ext (e:=tz)).Cd (l:=FB vs sg.rs++Bb s' 0 sg.ps)
       have Vo:db G3 w2 (Gw++tz) vs us:=db.bm (Vn.bm w2) (db.ext u2)
       have hg:∀r,k.get r=(uz s' (FB vs sg.rs++Bb s' 0 sg.ps)).get r:=λr=>(Mi Lx).get r
       obtain⟨_,_,is,v3,v4,v5⟩:=Vi Lx (λid=>d9.ob id) Vo Vm
       simp only[PL.den,bG,List.map_append]at w3
       have hbo:=Ml (k:=k) (λid=>by rw[hg];exact d9.ob id) (λb=>by rw[hg];exact d9.bx b) (λi b hb=>(d9.bt i b hb).2) TU λn hn=>by rw[Nat.zero_add];exact g3 n hn
       have Vp:(is.filterMap id).Nodup:=by rw[v4];exact LL EJ
       cases hp:qj sg with
       |false=>exact⟨nN us,G3,is,_,_,rfl,⟨⟨d9.base.os,d9.base.tape,d9.base.output⟩,d9.base.size,d9.base.free,d9.base.Ev,λb l hb=>(d9.iG b l hb).2,λhq=>absurd (hp.symm.trans hq) (by simp),w3.symm,Vp,Vj v3,hbo⟩⟩
       |true=>
        refine⟨nN us,G3.gM,is,_,_,rfl,⟨⟨d9.base.os,d9.base.tape,d9.base.output⟩,d9.base.size,λb hb h0=>⟨Bd (d9.base.free b hb h0).1,(d9.base.free b hb h0).2⟩,λb hb=>⟨Be (d9.base.Ev b hb).1 rfl,(d9.base.Ev b hb).2⟩,
         λb l hb=>(d9.iG b l (KQ hb)).2,λ_ b hb=>by rw[Gh.nO]at hb;exact hb,w3.symm,Vp,Vj (v3.gM (ajG ajH hp) v5),hbo.gM⟩⟩
  cases e with
  |normal=>intro ry s' g_ jC p' a2 w2 c_ lM;exact fin ry s' g_ jC p' a2 w2 c_ lM
  |ret=>intro ry s' g_ jC p' a2 w2 c_ lM;exact fin ry s' g_ jC p' a2 w2 c_ lM
  |exit id=>intro ry s' g_ jC p' a2 w2 c_ lM;cases c_
end
def pick(l:List (Nat×af))(g:Nat):af:=
 match l with
 | []=>λ_=>none
 |e::l=>bif Nat.beq e.1 g then e.2 else pick l g
def Q(p:Prim)(l:List Lf)(r:PL):PL:=.ins (.pr p l) r
def I(n:Int):Lf:=.k (.int .i64 n)
instance Lfn {n:Nat}:OfNat Lf n:=⟨.a n⟩
def Qz(l:List Lf)(r:PL):PL:=.ins (.pr (.bM) l) r
def Qa(l:List Lf)(r:PL):PL:=.ins (.pr (.bin .add) l) r
def Qb(l:List Lf)(r:PL):PL:=.ins (.pr (.dC) l) r
def Ql(l:List Lf)(r:PL):PL:=.ins (.pr (.bin .lss) l) r
def Qe(l:List Lf)(r:PL):PL:=.ins (.pr (.bin .eql) l) r
def Qn(l:List Lf)(r:PL):PL:=.ins (.pr (.len) l) r
def Qt(l:List Lf)(r:PL):PL:=.ins (.pr (.un .not) l) r
def Qu(l:List Lf)(r:PL):PL:=.ins (.pr (.bin .neq) l) r
def Qi(g:Nat)(l:List Lf)(m:Nat)(r:PL):PL:=.ins (.cl g l m) r
def Fs(p:PL)(l:List (Nat×af)):af:=λts=>p.den (pick l) rounds [] ts
inductive Ty where
 |i (k:IntKind)
 |b
 |s
 |sl (fs:List Ty)
mutual
def WT:Ty->T->Prop
 | .i k,t=>∃n,t=.c (.int k n)∧(Lit.int k n).wf=true
 | .b,t=>∃b,t=.c (.bool b)
 | .s,t=>∃s:ByteArray,t=.c (.string s)∧s.size<=maxLen
 | .sl fs,t=>∃xs,t=.l xs∧xs.length<=maxLen∧∀r∈xs,cW fs r
def cW:List Ty->List T->Prop
 | [],ts=>ts=[]
 |f::fs,ts=>∃t mi,ts=t::mi∧WT f t∧cW fs mi
end
def fY:List Ty->List T->Prop
 | [],ts=>ts=[]
 |f::fs,ts=>∃t mi,ts=t::mi∧(match f with
  | .i k=>∃n,t=.c (.int k n)∧(Lit.int k n).wf=true
  | .b=>∃b,t=.c (.bool b)
  | .s=>∃s:ByteArray,t=.c (.string s)∧s.size<=maxLen
  | .sl gs=>WT (.sl gs) t)∧fY fs mi
theorem mJ:∀{fs:List Ty} {ts:List T},cW fs ts->fY fs ts
 | [],ts,h=>by unfold cW at h;exact h
 |f::fs,ts,h=>by
  unfold cW at h
  obtain⟨t,mi,rfl,h1,h2⟩:=h
  refine⟨t,mi,rfl,?_,mJ h2⟩
  cases f with
  |i k=>unfold WT at h1;exact h1
  |b=>unfold WT at h1;exact h1
  |s=>unfold WT at h1;exact h1
  |sl gs=>exact h1
theorem kq:∀{fs:List Ty} {ts:List T},fY fs ts->cW fs ts
 | [],ts,h=>by unfold cW;exact h
 |f::fs,ts,h=>by
  obtain⟨t,mi,rfl,h1,h2⟩:=h
  unfold cW
  refine⟨t,mi,rfl,?_,kq h2⟩
  cases f with
  |i k=>unfold WT;exact h1
  |b=>unfold WT;exact h1
  |s=>unfold WT;exact h1
  |sl gs=>exact h1
theorem cW.append:∀{fs gs:List Ty} {ts us:List T},cW fs ts->cW gs us->cW (fs++gs) (ts++us)
 | [],gs,ts,us,h,h'=>by
  unfold cW at h
  subst h
  exact h'
 |f::fs,gs,ts,us,h,h'=>by
  unfold cW at h
  obtain⟨t,mi,rfl,h1,h2⟩:=h
  show cW (f::(fs++gs)) (t::(mi++us))
  unfold cW
  exact⟨t,_,rfl,h1,h2.append h'⟩
theorem cW.length:∀{fs:List Ty} {ts:List T},cW fs ts->ts.length=fs.length
 | [],ts,h=>by
  unfold cW at h
  subst h
  rfl
 |f::fs,ts,h=>by
  unfold cW at h
  obtain⟨t,mi,rfl,h1,h2⟩:=h
  simp[h2.length]
mutual
def bulk:T->Nat
 | .c (.string s)=>s.size
 | .c _=>0
 | .l xs=>gV xs
def lN:List T->Nat
 | []=>0
 |t::ts=>bulk t+lN ts
def gV:List (List T)->Nat
 | []=>0
 |r::rs=>1+(lN r+gV rs)
end
theorem GC:∀(xs:List (List T)),xs.length<=gV xs
 | []=>by simp[gV]
 |r::rs=>by have:=GC rs;simp[gV];omega
theorem Ci:∀{xs:List (List T)} {i:Nat} {r:List T},xs[i]?=some r->lN r+1<=gV xs
 | [],_,_,h=>by simp at h
 |r'::rs,0,r,h=>by simp at h;subst h;simp[gV];omega
 |r'::rs,i+1,r,h=>by
  have:=Ci (xs:=rs) (i:=i) (r:=r) (by simpa using h)
  simp[gV];omega
theorem qq_:∀{xs:List (List T)} {i:Nat} {r:List T},xs[i]?=some r->gV (xs.take (i+1))=gV (xs.take i)+(lN r+1)
 | [],_,_,h=>by simp at h
 |r'::rs,0,r,h=>by simp at h;subst h;simp[gV];omega
 |r'::rs,i+1,r,h=>by
  have:=qq_ (xs:=rs) (i:=i) (r:=r) (by simpa using h)
  simp only[List.take_succ_cons,gV,this];omega
theorem Vq(xs ys:List (List T)):gV (xs++ys)=gV xs+gV ys:=by
 induction xs with
 |nil=>simp[gV]
 |cons r rs ih=>simp[gV,ih];omega
theorem fv(xs:List (List T)):bulk (.l xs)=gV xs:=by simp only[bulk]
theorem gf(k:IntKind)(n:Int):bulk (.c (.int k n))=0:=by simp only[bulk]
theorem gn(b:Bool):bulk (.c (.bool b))=0:=by simp only[bulk]
theorem iy(s:ByteArray):bulk (.c (.string s))=s.size:=by simp only[bulk]
theorem fy:lN []=0:=by simp only[lN]
theorem fa(t:T)(ts:List T):lN (t::ts)=bulk t+lN ts:=by simp only[lN]
theorem eB{α β:Type}(a:α)(f:α->Option β):(some a).bind f=f a:=rfl
theorem zv{n:Int}(h:-9223372036854775808<=n)(h':n<9223372036854775808):IntKind.i64.wrap n=n:=by
 simp[IntKind.wrap,IntKind.bits,IntKind.signed]
 omega
theorem pY(xs:List (List T)):Prim.ev .len [.l xs]=some (.c (.int .i64 xs.length)):=rfl
theorem Vr(s:ByteArray):Prim.ev .lens [.c (.string s)]=some (.c (.int .i64 s.size)):=rfl
theorem EK(k:IntKind)(n:Int):Prim.ev .bM [.c (.int k n)]=some (.c (.int k n)):=rfl
theorem GD(b:Bool):Prim.ev .bM [.c (.bool b)]=some (.c (.bool b)):=rfl
theorem Vs(s:ByteArray):Prim.ev .bM [.c (.string s)]=some (.c (.string s)):=rfl
theorem qb(k:IntKind)(a b:Int):Prim.ev (.bin .lss) [.c (.int k a),.c (.int k b)]=some (.c (.bool (decide (a<b)))):=by simp[Prim.ev,T.val,mu]
theorem Vt(k:IntKind)(a b:Int):Prim.ev (.bin .leq) [.c (.int k a),.c (.int k b)]=some (.c (.bool (decide (a<=b)))):=by simp[Prim.ev,T.val,mu]
theorem Vu(k:IntKind)(a b:Int):Prim.ev (.bin .gtr) [.c (.int k a),.c (.int k b)]=some (.c (.bool (decide (a>b)))):=by simp[Prim.ev,T.val,mu]
theorem Vv(k:IntKind)(a b:Int):Prim.ev (.bin .geq) [.c (.int k a),.c (.int k b)]=some (.c (.bool (decide (a>=b)))):=by simp[Prim.ev,T.val,mu]
theorem GF(k:IntKind)(a b:Int):Prim.ev (.bin .eql) [.c (.int k a),.c (.int k b)]=some (.c (.bool (a==b))):=by simp[Prim.ev,T.val,mu]
theorem zw(k:IntKind)(a b:Int):Prim.ev (.bin .neq) [.c (.int k a),.c (.int k b)]=some (.c (.bool (a !=b))):=by simp[Prim.ev,T.val,mu]
theorem zx(k:IntKind)(a b:Int):Prim.ev (.bin .add) [.c (.int k a),.c (.int k b)]=some (.c (.int k (k.wrap (a+b)))):=by simp[Prim.ev,T.val,mu]
theorem zy(k:IntKind)(a b:Int):Prim.ev (.bin .sub) [.c (.int k a),.c (.int k b)]=some (.c (.int k (k.wrap (a-b)))):=by simp[Prim.ev,T.val,mu]
theorem ajI(k:IntKind)(a b:Int):Prim.ev (.bin .mul) [.c (.int k a),.c (.int k b)]=some (.c (.int k (k.wrap (a*b)))):=by simp[Prim.ev,T.val,mu]
theorem Vw(a b:ByteArray):Prim.ev (.bin .eql) [.c (.string a),.c (.string b)]=some (.c (.bool (a.toList==b.toList))):=by simp[Prim.ev,T.val,mu]
theorem Vx(a b:ByteArray):Prim.ev (.bin .neq) [.c (.string a),.c (.string b)]=some (.c (.bool !(a.toList==b.toList))):=by simp[Prim.ev,T.val,mu]
theorem Mm(a b:Bool):Prim.ev (.bb .neq) [.c (.bool a),.c (.bool b)]=some (.c (.bool (a !=b))):=by cases a<;>cases b<;>rfl
theorem Vy(a b:Bool):Prim.ev (.bb .eql) [.c (.bool a),.c (.bool b)]=some (.c (.bool (a==b))):=by cases a<;>cases b<;>rfl
theorem Mo(a:Bool):Prim.ev (.un .not) [.c (.bool a)]=some (.c (.bool !a)):=by cases a<;>rfl
theorem zA{xs:List (List T)}{i:Nat}{r:List T}{k:IntKind}(h:xs[i]?=some r):vK (.l xs) (.c (.int k (i:Int)))=some r:=by
 simp[vK,T.rows,T.int,h]
theorem yb{xs:List (List T)}{i:Nat}{r:List T}{k:IntKind}(h:xs[i]?=some r):Prim.ev .dC [.l xs,.c (.int k (i:Int))]=some (.c (.bool true)):=by
 simp[Prim.ev,zA h]
theorem GH{xs:List (List T)}{i w j:Nat}{r:List T}{t:T}{k:IntKind}(h:xs[i]?=some r)(hw:r.length=w)(hj:r[j]?=some t):Prim.ev (.cell w j) [.l xs,.c (.int k (i:Int))]=some t:=by
 simp[Prim.ev,zA h,hw,hj]
theorem GI{sc:Bool}{xs:List (List T)}{i w off n:Nat}{r vs:List T}{k:IntKind}(h:xs[i]?=some r)(hw:r.length=w)(ho:off+n<=w)(hv:vs.length=n)(hs:(!sc||vs.all eQ)=true):
  Prim.ev (.put sc w off n) (.l xs:: .c (.int k (i:Int))::vs)=some (.l (setRow xs i off vs)):=by
 simp only[Prim.ev,zA h,hw,ho,hv,hs,T.rows,T.int,Option.bind_some,if_true,Int.toNat_natCast]
theorem ajJ{ms:List Bool}{xs:List (List T)}{i w off:Nat}{r vs:List T}{k:IntKind}(h:xs[i]?=some r)(hw:r.length=w)(ho:off+vs.length<=w)(hs:r9 ms vs=true):
  Prim.ev (.gH ms w off) (.l xs:: .c (.int k (i:Int))::vs)=some (.l (setRow xs i off vs)):=by
 simp[Prim.ev,zA h,hw,ho,T.rows,T.int,hs]
theorem Mp{k k':IntKind}{n:Nat}{ts:List T}(h:n<r8):Prim.ev .mk (.c (.int k (n:Int)):: .c (.int k' (n:Int))::ts)=some (.l (List.replicate n ts)):=by
 unfold r8 at h
 simp[Prim.ev,r8,show(n:Int)<4294967296 by omega]
theorem Cl{α β:Type}{F:(α->Option β)->α->Option β}{n:Nat}(st:Nat->α){out:β}(h:∀i,i<n->∀self,F self (st i)=self (st (i+1)))(hn:∀self,F self (st n)=some out):
  ∀R,n<R->iter F R (st 0)=some out:=by
 have:∀d i,i+d=n->∀R,d<R->iter F R (st i)=some out:=by
  intro d
  induction d with
  |zero=>
   intro i hi R hR
   cases R with
   |zero=>omega
   |succ R=>rw[Nat.add_zero]at hi;subst hi;exact hn _
  |succ d ih=>
   intro i hi R hR
   cases R with
   |zero=>omega
   |succ R=>unfold iter;rw[h i (by omega)];exact ih (i+1) (by omega) R (by omega)
 intro R hR
 exact this n 0 (by omega) R hR
theorem ajK{α β:Type}{F:(α->Option β)->α->Option β}{n:Nat}(Inv:Nat->α->Prop){Q:β->Prop}(h:∀i x,i<n->Inv i x->(∃x',Inv (i+1) x'∧∀self,F self x=self x')∨∃out,Q out∧∀self,F self x=some out)
  (hn:∀x,Inv n x->∃out,Q out∧∀self,F self x=some out){x:α}(hx:Inv 0 x){R:Nat}(hR:n<R):∃out,Q out∧iter F R x=some out:=by
 have:∀d i x,i+d=n->Inv i x->∀R,d<R->∃out,Q out∧iter F R x=some out:=by
  intro d
  induction d with
  |zero=>
   intro i x hi hx R hR
   cases R with
   |zero=>omega
   |succ R=>
    rw[Nat.add_zero]at hi;subst hi
    obtain⟨out,h1,h2⟩:=hn x hx
    exact⟨out,h1,h2 _⟩
  |succ d ih=>
   intro i x hi hx R hR
   cases R with
   |zero=>omega
   |succ R=>
    unfold iter
    rcases h i x (by omega) hx with⟨x',h1,h2⟩|⟨out,h1,h2⟩
    ·rw[h2];exact ih (i+1) x' (by omega) h1 R (by omega)
    ·exact⟨out,h1,h2 _⟩
 exact this n 0 x (by omega) hx R hR
theorem ajL{F:(List T->Option (List T))->List T->Option (List T)}{n:Nat}(Inv:Nat->List T->Prop){P:Int->Prop}{x:List T}{R:Nat}
  (h:∀i x,i<n->Inv i x->(∃x',Inv (i+1) x'∧∀self,F self x=self x')∨∃m:Int,P m∧∀self,F self x=some [.c (.int .i64 m)])
  (hn:∀x,Inv n x->∃m:Int,P m∧∀self,F self x=some [.c (.int .i64 m)])(hx:Inv 0 x)(hR:n<R):∃m:Int,iter F R x=some [.c (.int .i64 m)]∧P m:=by
 obtain⟨out,⟨m,rfl,q1⟩,q2⟩:=ajK (F:=F) (n:=n) Inv (Q:=λout=>∃m:Int,out=[.c (.int .i64 m)]∧P m)
  (λi x hi hx=>(h i x hi hx).imp_right λ⟨m,h1,h2⟩=>⟨_,⟨m,rfl,h1⟩,h2⟩) (λx hx=>(hn x hx).elim λm ⟨h1,h2⟩=>⟨_,⟨m,rfl,h1⟩,h2⟩) hx hR
 exact⟨m,q2,q1⟩
theorem rN{S:Nat->af}{R:Nat}{K:List af}{ρ:List T}(xs:List Lf):PL.den S R K ρ (.ret xs)=some (xs.map (Lf.ev ρ)):=by simp only[PL.den]
theorem jA{S:Nat->af}{R:Nat}{K:List af}{ρ:List T}(p:Prim)(xs:List Lf)(k:PL):PL.den S R K ρ (.ins (.pr p xs) k)=(p.ev (xs.map (Lf.ev ρ))).bind λt=>k.den S R K (ρ++[t]):=by simp only[PL.den]
theorem rO{S:Nat->af}{R:Nat}{K:List af}{ρ:List T}(g:Nat)(xs:List Lf)(m:Nat)(k:PL):PL.den S R K ρ (.ins (.cl g xs m) k)=(S g (xs.map (Lf.ev ρ))).bind λts=>k.den S R K (ρ++fS ts 0 m):=by simp only[PL.den]
def az(t:T)(x y:Option (List T)):Option (List T):=match t with
 | .c (.bool b)=>bif b then x else y
 |_=>none
theorem og(b:Bool)(x y:Option (List T)):az (.c (.bool b)) x y=bif b then x else y:=rfl
theorem nz{S:Nat->af}{R:Nat}{K:List af}{ρ:List T}(c:Nat)(x y:PL):PL.den S R K ρ (.ite c x y)=az (ρ.getD c T.cE) (x.den S R K ρ) (y.den S R K ρ):=by
 simp only[PL.den,az]
 generalize ρ.getD c T.cE=t
 cases t with
 |c v=>cases v<;>rfl
 |l xs=>rfl
theorem w9{S:Nat->af}{R:Nat}{K:List af}{ρ:List T}(xs:List Lf)(b:PL):PL.den S R K ρ (.loop xs b)=iter (λself ts=>b.den S R (self::K) (ρ++ts)) R (xs.map (Lf.ev ρ)):=by simp only[PL.den]
theorem uc{S:Nat->af}{R:Nat}{f:af}{K:List af}{ρ:List T}(xs:List Lf):PL.den S R (f::K) ρ (.go 0 xs)=f (xs.map (Lf.ev ρ)):=by simp[PL.den]
theorem Vz{S:Nat->af}{R j:Nat}{f:af}{K:List af}{ρ:List T}(xs:List Lf):PL.den S R (f::K) ρ (.go (j+1) xs)=PL.den S R K ρ (.go j xs):=by simp[PL.den]
theorem fx(ρ:List T)(v:Value):Lf.ev ρ (.k v)=.c v:=rfl
theorem Cm(ρ:List T):Lf.ev ρ .e=.l []:=rfl
theorem eb(ρ:List T)(n:Nat):Lf.ev ρ (.a n)=ρ.getD n T.cE:=rfl
set_option linter.unusedSimpArgs false
def big:Nat:=1048576
def nP(F:af)(fs:List Ty):Prop:=
 ∀(ts:List T) (l:Int),cW fs ts->0<=l->l<=1048576->∃n:Int,F (ts++[.c (.int .i64 l)])=some [.c (.int .i64 n)]∧n<=l∧(0<=n->n=l-lN ts)
def lu(F:af)(fs:List Ty):Prop:=∀ts:List T,cW fs ts->lN ts<=1048576->F ts=some ts
def kt(F:af)(fs:List Ty):Prop:=∀ts:List T,cW fs ts->lN ts<=1048576->F (ts++ts)=some [.c (.bool true)]
def Mq:Ty->Bool
 | .i _=>true
 | .b=>true
 |_=>false
theorem VA:∀{fs:List Ty} {ts:List T},fs.all Mq=true->cW fs ts->lN ts=0
 | [],ts,_,h=>by unfold cW at h;subst h;rfl
 |f::fs,ts,hf,h=>by
  unfold cW at h
  obtain⟨t,mi,rfl,h1,h2⟩:=h
  simp only[List.all_cons,bD]at hf
  have h3:=VA hf.2 h2
  rw[fa,h3]
  cases f with
  |i k=>unfold WT at h1;obtain⟨n,rfl,_⟩:=h1;simp[gf]
  |b=>unfold WT at h1;obtain⟨n,rfl⟩:=h1;simp[gn]
  |s=>cases hf.1
  |sl gs=>cases hf.1
theorem VB{fs:List Ty}(hf:fs.all Mq=true):∀{xs:List (List T)},(∀r∈xs,cW fs r)->gV xs=xs.length
 | [],_=>by simp[gV]
 |r::xs,h=>by
  have h1:=VA hf (h r (.head _))
  have h2:=VB hf (xs:=xs) λr hr=>h r (.tail _ hr)
  simp[gV,h1,h2];omega
theorem cW.one{f:Ty}{ts:List T}(h:cW [f] ts):∃t,ts=[t]∧WT f t:=by
 unfold cW at h
 obtain⟨t,mi,rfl,h1,h2⟩:=h
 unfold cW at h2
 subst h2
 exact⟨t,rfl,h1⟩
theorem cW.Mr{fs:List Ty}{ts:List T}(h:cW [.sl fs] ts):∃xs,ts=[.l xs]∧xs.length<=maxLen∧∀r∈xs,cW fs r:=by
 obtain⟨t,rfl,h1⟩:=h.one
 unfold WT at h1
 obtain⟨xs,rfl,h1,h2⟩:=h1
 exact⟨xs,rfl,h1,h2⟩
theorem Cn{α:Type}{xs:List α}{i:Nat}{r:α}(h:xs[i]?=some r):r∈xs:=List.mem_of_getElem? h
theorem JX{α:Type}{xs:List α}{i:Nat}(h:i<xs.length):∃r,xs[i]?=some r:=⟨xs[i],List.getElem?_eq_getElem h⟩
def EL(w s i:Nat):Nat->Nat->PL->PL
 |_,0,k=>k
 |j,n+1,k=>.ins (.pr (.cell w j) [.a s,.a i]) (EL w s i (j+1) n k)
def vd:Nat->Nat->List Lf
 |_,0=>[]
 |b,n+1=>.a b::vd (b+1) n
theorem s_{ρ B:List T}{n:Nat}(h:n<ρ.length):Lf.ev (ρ++B) (.a n)=Lf.ev ρ (.a n):=by
 simp[Lf.ev,List.getD,List.getElem?_append_left h]
theorem ajN{A B:List T}{t:T}{n:Nat}(hA:A.length=n):Lf.ev (A++t::B) (.a n)=t:=by
 subst hA
 simp[Lf.ev,List.getD]
theorem Ms{A r C:List T}{n k:Nat}(h:n=A.length+r.length+k):(A++(r++C)).getD n T.cE=C.getD k T.cE:=by
 subst h
 simp only[List.getD,List.getElem?_append_right (show A.length<=A.length+r.length+k by omega)]
 rw[List.getElem?_append_right (by omega)]
 congr 2
 omega
theorem zB:∀{r A B:List T} {b w:Nat},A.length=b->r.length=w->(vd b w).map (Lf.ev (A++(r++B)))=r
 | [],A,B,b,w,hA,hr=>by subst hr;rfl
 |t::r,A,B,b,w,hA,hr=>by
  subst hr
  show Lf.ev (A++(t::(r++B))) (.a b)::(vd (b+1) r.length).map (Lf.ev (A++(t::(r++B))))=t::r
  rw[ajN hA]
  have:=zB (r:=r) (A:=A++[t]) (B:=B) (b:=b+1) (w:=r.length) (by simp[hA]) rfl
  rw[List.append_assoc]at this
  exact congrArg _ this
theorem zC{S:Nat->af}{R:Nat}{K:List af}{k:PL}{xs:List (List T)}{i:Nat}{r:List T}{w s ix:Nat}(hr:xs[i]?=some r)(hw:r.length=w):∀(n j:Nat) {ρ:List T},j+n=w->s<ρ.length->ix<ρ.length->
  Lf.ev ρ (.a s)=.l xs->Lf.ev ρ (.a ix)=.c (.int .i64 (i:Int))->PL.den S R K ρ (EL w s ix j n k)=k.den S R K (ρ++r.drop j)
 |0,j,ρ,hj,_,_,_,_=>by
  have:r.drop j=[]:=List.drop_eq_nil_iff.2 (by omega)
  rw[this,List.append_nil]
  rfl
 |n+1,j,ρ,hj,h1,h2,h3,h4=>by
  obtain⟨t,ht⟩:=JX (xs:=r) (i:=j) (by omega)
  show PL.den S R K ρ (.ins (.pr (.cell w j) [.a s,.a ix]) (EL w s ix (j+1) n k))=_
  rw[jA,List.map_cons,List.map_cons,List.map_nil,h3,h4,GH hr hw ht,eB,
   zC hr hw n (j+1) (by omega) (by simp;omega) (by simp;omega) (by rw[s_ h1];exact h3) (by rw[s_ h2];exact h4)]
  congr 1
  rw[List.append_assoc]
  congr 1
  rw[List.drop_eq_getElem_cons (by omega:j<r.length)]
  rw[List.getElem?_eq_getElem (by omega)]at ht
  cases ht
  rfl
def w_:PL:=
 .ins (.pr .len [.a 0])<|
 .ins (.pr (.bin .sub) [.a 1,.a 2])<|
 .ins (.pr (.bin .lss) [.a 3,.k (.int .i64 0)])<|
 .ite 4 (.ins (.pr .bM [.k (.int .i64 (-1))])<| .ret [.a 5]) (.ins (.pr .bM [.a 3])<| .ret [.a 5])
theorem Co{S:Nat->af}{R:Nat}{fs:List Ty}(hf:fs.all Mq=true):nP (λts=>w_.den S R [] ts) [.sl fs]:=by
 intro ts l ht h0 h1
 obtain⟨xs,rfl,h2,h3⟩:=ht.Mr
 have e1:IntKind.i64.wrap (l-xs.length)=l-xs.length:=zv (by unfold maxLen at h2;omega) (by omega)
 have e2:=VB hf h3
 by_cases h:l-(xs.length:Int)<0
 ·refine⟨-1,?_,by omega,by omega⟩
  simp only[w_,rN,jA,rO,nz,List.map_cons,List.map_nil,fx,Cm,eb,List.cons_append,List.nil_append,List.getD_cons_zero,List.getD_cons_succ,eB,pY,zy,qb,e1,h,decide_true,decide_false,og,cond_true,cond_false,EK]
 ·refine⟨l-xs.length,?_,by omega,λ_=>?_⟩
  ·simp only[w_,rN,jA,rO,nz,List.map_cons,List.map_nil,fx,Cm,eb,List.cons_append,List.nil_append,List.getD_cons_zero,List.getD_cons_succ,eB,pY,zy,qb,e1,h,decide_true,decide_false,og,cond_true,cond_false,EK]
  ·rw[fa,fy,fv,e2];omega
def Mu(w g:Nat):PL:=
 .ins (.pr .len [.a 0])<|
 .ins (.pr (.bin .sub) [.a 1,.a 2])<|
 .ins (.pr (.bin .lss) [.a 3,.k (.int .i64 0)])<|
 .ite 4 (.ins (.pr .bM [.k (.int .i64 (-1))])<| .ret [.a 5])<|
 .loop [.a 3,.k (.int .i64 0),.k (.int .i64 0)]<|
  .ins (.pr .len [.a 0])<|
  .ins (.pr (.bin .lss) [.a 7,.a 8])<|
  .ite 9 (.ins (.pr .dC [.a 0,.a 7])<|EL w 0 7 0 w<|
   .ins (.cl g (vd 11 w++[.a 5]) 1)<|
   .ins (.pr (.bin .lss) [.a (11+w),.k (.int .i64 0)])<|
   .ite (12+w) (.ins (.pr .bM [.k (.int .i64 (-1))])<| .ret [.a (13+w)])<|
   .ins (.pr (.bin .add) [.a 7,.k (.int .i64 1)])<|
   .go 0 [.a (11+w),.a 6,.a (13+w)])
  (.ins (.pr .bM [.a 5])<| .ret [.a 10])
theorem ajO{S:Nat->af}{w g:Nat}{fs:List Ty}(hw:fs.length=w)(hg:nP (S g) fs):nP (λts=>(Mu w g).den S rounds [] ts) [.sl fs]:=by
 intro ts l ht h0 h1
 obtain⟨xs,rfl,h2,h3⟩:=ht.Mr
 have e1:IntKind.i64.wrap (l-xs.length)=l-xs.length:=zv (by unfold maxLen at h2;omega) (by omega)
 by_cases h:l-(xs.length:Int)<0
 ·refine⟨-1,?_,by omega,by omega⟩
  simp only[Mu,rN,jA,rO,nz,List.map_cons,List.map_nil,fx,Cm,eb,List.cons_append,List.nil_append,List.getD_cons_zero,List.getD_cons_succ,eB,pY,zy,qb,e1,h,decide_true,decide_false,og,cond_true,cond_false,EK]
 ·simp only[Mu,rN,jA,rO,nz,w9,List.map_cons,List.map_nil,fx,Cm,eb,List.cons_append,List.nil_append,List.getD_cons_zero,List.getD_cons_succ,eB,pY,zy,qb,e1,h,decide_true,decide_false,og,cond_true,cond_false,EK]
  refine ajL (n:=xs.length) (Inv:=λi x=>∃m:Int,x=[.c (.int .i64 m),.c (.int .i64 0),.c (.int .i64 (i:Int))]∧0<=m∧m=l-xs.length-(gV (xs.take i)-i:Int)) ?_ ?_ ⟨_,rfl,by omega,by simp[gV]⟩ (by unfold rounds;omega)
  ·rintro i x hi ⟨m,rfl,m0,m1⟩
   obtain⟨r,hr⟩:=JX hi
   have rL:r.length=w:=by rw[(h3 r (Cn hr)).length,hw]
   have hlen:=GC (xs.take i)
   rw[List.length_take,Nat.min_eq_left (by omega)]at hlen
   obtain⟨n,n1,n2,n3⟩:=hg r m (h3 r (Cn hr)) m0 (by omega)
   have hb:=qq_ hr
   have e3:IntKind.i64.wrap ((i:Int)+1)=((i+1:Nat):Int):=by rw[zv (by omega) (by omega)];simp
   have e5:(vd 11 w).map (Lf.ev (.l xs:: .c (.int .i64 l):: .c (.int .i64 xs.length):: .c (.int .i64 (l-xs.length)):: .c (.bool false):: .c (.int .i64 m):: .c (.int .i64 0):: .c (.int .i64 i):: .c (.int .i64 xs.length):: .c (.bool true):: .c (.bool true)::r))=r:=by
    have:=zB (r:=r) (A:=[.l xs,.c (.int .i64 l),.c (.int .i64 xs.length),.c (.int .i64 (l-xs.length)),.c (.bool false),.c (.int .i64 m),.c (.int .i64 0),.c (.int .i64 i),.c (.int .i64 xs.length),.c (.bool true),.c (.bool true)]) (B:=[]) (b:=11) (w:=w) rfl rL
    rw[List.append_nil]at this
    exact this
   have rP:∀(n k:Nat) (C:List T),n=11+w+k->(.l xs:: .c (.int .i64 l):: .c (.int .i64 xs.length):: .c (.int .i64 (l-xs.length)):: .c (.bool false):: .c (.int .i64 m):: .c (.int .i64 0):: .c (.int .i64 i):: .c (.int .i64 xs.length):: .c (.bool true):: .c (.bool true)::(r++C)).getD n T.cE=C.getD k T.cE:=λn k C h=>
    Ms (A:=[.l xs,.c (.int .i64 l),.c (.int .i64 xs.length),.c (.int .i64 (l-xs.length)),.c (.bool false),.c (.int .i64 m),.c (.int .i64 0),.c (.int .i64 i),.c (.int .i64 xs.length),.c (.bool true),.c (.bool true)]) (by simp[rL];omega)
   have e6:=λC=>rP (11+w) 0 C (by omega)
   have e7:=λC=>rP (12+w) 1 C (by omega)
   have e8:=λC=>rP (13+w) 2 C (by omega)
   have bf:(i:Int)<xs.length:=by omega
   by_cases hn:n<0
   ·refine .inr ⟨-1,⟨by omega,by omega⟩,λself=>?_⟩
    simp only[rN,jA,rO,nz,uc,List.map_cons,List.map_nil,fx,eb,List.cons_append,List.nil_append,List.getD_cons_zero,List.getD_cons_succ,eB,pY,qb,bf,decide_true,og,cond_true,yb hr]
    rw[zC hr rL w 0 (by omega) (by simp) (by simp) rfl rfl]
    simp only[rN,jA,rO,nz,uc,List.map_cons,List.map_nil,List.map_append,fx,eb,List.cons_append,List.nil_append,List.append_assoc,List.getD_cons_zero,List.getD_cons_succ,eB,List.drop_zero,e5,n1,fS,e6,e7,e8,qb,hn,decide_true,og,cond_true,EK]
   ·refine .inl ⟨[.c (.int .i64 n),.c (.int .i64 0),.c (.int .i64 ((i+1:Nat):Int))],⟨n,rfl,by omega,?_⟩,λself=>?_⟩
    ·rw[hb];have:=n3 (by omega);omega
    ·simp only[rN,jA,rO,nz,uc,List.map_cons,List.map_nil,fx,eb,List.cons_append,List.nil_append,List.getD_cons_zero,List.getD_cons_succ,eB,pY,qb,bf,decide_true,og,cond_true,yb hr]
     rw[zC hr rL w 0 (by omega) (by simp) (by simp) rfl rfl]
     simp only[rN,jA,rO,nz,uc,List.map_cons,List.map_nil,List.map_append,fx,eb,List.cons_append,List.nil_append,List.append_assoc,List.getD_cons_zero,List.getD_cons_succ,eB,List.drop_zero,e5,n1,fS,e6,e7,e8,qb,hn,decide_false,og,cond_false,EK,zx,e3]
  ·rintro x ⟨m,rfl,m0,m1⟩
   refine⟨m,⟨?_,λ_=>?_⟩,λself=>?_⟩
   ·rw[List.take_length]at m1;have:=GC xs;omega
   ·rw[List.take_length]at m1;rw[fa,fy,fv];omega
   ·simp only[rN,jA,rO,nz,uc,List.map_cons,List.map_nil,fx,eb,List.cons_append,List.nil_append,List.getD_cons_zero,List.getD_cons_succ,eB,pY,qb,Int.lt_irrefl,decide_false,og,cond_false,EK]
set_option linter.unusedSimpArgs false
theorem ajP{xs ys:List (List T)}{z r:List T}{i:Nat}(hi:xs.length=i)(hz:z.length=r.length):setRow (xs++z::ys) i 0 r=xs++r::ys:=by
 have hd:z.drop r.length=[]:=List.drop_eq_nil_iff.2 (by omega)
 unfold setRow
 induction xs generalizing i with
 |nil=>subst hi;simp[hd]
 |cons x xs ih=>
  subst hi
  have:=ih (i:=xs.length) rfl
  simp only[List.length_cons,List.cons_append,List.modify_succ_cons,this]
theorem VC{α:Type}{xs:List α}{i:Nat}{r:α}(h:xs[i]?=some r):xs.take (i+1)=xs.take i++[r]:=by
 rw[List.take_add_one,h];rfl
theorem VD{xs:List (List T)}{z r:List T}{i:Nat}(h:xs[i]?=some r)(hz:z.length=r.length):setRow (xs.take i++List.replicate (xs.length-i) z) i 0 r=xs.take (i+1)++List.replicate (xs.length-(i+1)) z:=by
 have hi:i<xs.length:=by
  rcases Nat.lt_or_ge i xs.length with h'|h'
  ·exact h'
  ·rw[List.getElem?_eq_none h']at h;cases h
 obtain⟨d,hd⟩:∃d,xs.length-i=d+1:=⟨xs.length-i-1,by omega⟩
 rw[hd,List.replicate_succ,ajP (by simp;omega) hz,VC h,List.append_assoc,show xs.length-(i+1)=d by omega]
 rfl
theorem VE{xs:List (List T)}{z:List T}{i:Nat}(hi:i<xs.length):(xs.take i++List.replicate (xs.length-i) z)[i]?=some z:=by
 have hl:(xs.take i).length=i:=by simp;omega
 rw[List.getElem?_append_right (by omega),hl,Nat.sub_self]
 obtain⟨d,hd⟩:∃d,xs.length-i=d+1:=⟨xs.length-i-1,by omega⟩
 rw[hd]
 rfl
def VF(w g:Nat)(zs:List Lf)(st:Prim):PL:=
 .ins (.pr .len [.a 0])<|
 .ins (.pr .mk (.a 1:: .a 1::zs))<|
 .loop [.k (.int .i64 0),.a 2]<|
  .ins (.pr .len [.a 0])<|
  .ins (.pr (.bin .lss) [.a 3,.a 5])<|
  .ite 6 (.ins (.pr .dC [.a 0,.a 3])<|EL w 0 3 0 w<|
   .ins (.cl g (vd 8 w) w)<|
   .ins (.pr .dC [.a 4,.a 3])<|
   .ins (.pr st (.a 4:: .a 3::vd (8+w) w))<|
   .ins (.pr (.bin .add) [.a 3,.k (.int .i64 1)])<|
   .go 0 [.a (10+(w+w)),.a (9+(w+w))])
  (.ret [.a 4])
def Mw:Lf->Bool
 | .k _=>true
 | .e=>true
 | .a _=>false
theorem VG{ρ oe:List T}:∀{zs:List Lf},zs.all Mw=true->zs.map (Lf.ev ρ)=zs.map (Lf.ev oe)
 | [],_=>rfl
 |z::zs,h=>by
  simp only[List.all_cons,bD]at h
  rw[List.map_cons,List.map_cons,VG (ρ:=ρ) (oe:=oe) h.2]
  cases z with
  |k v=>rfl
  |e=>rfl
  |a n=>cases h.1
theorem ajQ:∀(ts:List T) (i:Nat),fS ts i (ts.length-i)=ts.drop i
 |ts,i=>by
  generalize hd:ts.length-i=d
  induction d generalizing i with
  |zero=>simp[fS,List.drop_eq_nil_iff.2 (show ts.length<=i by omega)]
  |succ d ih=>
   have hi:i<ts.length:=by omega
   simp only[fS,ih (i+1) (by omega),List.drop_eq_getElem_cons hi,List.getD,List.getElem?_eq_getElem hi,Option.getD_some]
theorem Cp{S:Nat->af}{w g:Nat}{zs:List Lf}{st:Prim}{fs:List Ty}(hw:fs.length=w)(hg:lu (S g) fs)(hz:zs.all Mw=true)(rJ:zs.length=w)
  (cf:∀(xs:List (List T)) (i:Nat) (z vs:List T),xs[i]?=some z->z.length=w->cW fs vs->Prim.ev st (.l xs:: .c (.int .i64 (i:Int))::vs)=some (.l (setRow xs i 0 vs))):
  lu (λts=>(VF w g zs st).den S rounds [] ts) [.sl fs]:=by
 intro ts ht hb
 obtain⟨xs,rfl,h2,h3⟩:=ht.Mr
 rw[fa,fy,fv,Nat.add_zero]at hb
 have hlen:=GC xs
 let z:List T:=zs.map (Lf.ev [])
 have BR:∀ρ,zs.map (Lf.ev ρ)=z:=λρ=>VG hz
 have hzw:z.length=w:=by simp[z,rJ]
 have key:=Cl (n:=xs.length) (out:=[T.l xs]) (F:=λself ts=>(PL.den S rounds (self::[]) ([T.l xs,.c (.int .i64 (xs.length:Int)),.l (List.replicate xs.length z)]++ts) (
  .ins (.pr .len [.a 0])<|
  .ins (.pr (.bin .lss) [.a 3,.a 5])<|
  .ite 6 (.ins (.pr .dC [.a 0,.a 3])<|EL w 0 3 0 w<|
   .ins (.cl g (vd 8 w) w)<|
   .ins (.pr .dC [.a 4,.a 3])<|
   .ins (.pr st (.a 4:: .a 3::vd (8+w) w))<|
   .ins (.pr (.bin .add) [.a 3,.k (.int .i64 1)])<|
   .go 0 [.a (10+(w+w)),.a (9+(w+w))])
  (.ret [.a 4])))) (λi=>[.c (.int .i64 (i:Int)),.l (xs.take i++List.replicate (xs.length-i) z)]) ?_ ?_ rounds (by unfold rounds;omega)
 ·simp only[VF,jA,List.map_cons,List.map_nil,fx,eb,List.cons_append,List.nil_append,List.getD_cons_zero,List.getD_cons_succ,eB,pY,BR,Mp (show xs.length<r8 by unfold r8;omega)]
  rw[w9]
  exact key
 ·intro i hi self
  obtain⟨r,hr⟩:=JX hi
  have rL:r.length=w:=by rw[(h3 r (Cn hr)).length,hw]
  have hbr:=Ci hr
  have hgr:=hg r (h3 r (Cn hr)) (by omega)
  have bf:(i:Int)<xs.length:=by omega
  have e3:IntKind.i64.wrap ((i:Int)+1)=((i+1:Nat):Int):=by rw[zv (by omega) (by omega)];simp
  have e4:=ajQ r 0
  rw[Nat.sub_zero,List.drop_zero,rL]at e4
  have hf:=VE (z:=z) hi
  have VH:=cf _ i z r hf hzw (h3 r (Cn hr))
  rw[VD hr (by rw[hzw,rL])]at VH
  have e5:(vd 8 w).map (Lf.ev (.l xs:: .c (.int .i64 xs.length):: .l (List.replicate xs.length z):: .c (.int .i64 i):: .l (xs.take i++List.replicate (xs.length-i) z):: .c (.int .i64 xs.length):: .c (.bool true):: .c (.bool true)::r))=r:=by
   have:=zB (r:=r) (A:=[.l xs,.c (.int .i64 xs.length),.l (List.replicate xs.length z),.c (.int .i64 i),.l (xs.take i++List.replicate (xs.length-i) z),.c (.int .i64 xs.length),.c (.bool true),.c (.bool true)]) (B:=[]) (b:=8) (w:=w) rfl rL
   rw[List.append_nil]at this
   exact this
  have e6:∀B,(vd (8+w) w).map (Lf.ev (.l xs:: .c (.int .i64 xs.length):: .l (List.replicate xs.length z):: .c (.int .i64 i):: .l (xs.take i++List.replicate (xs.length-i) z):: .c (.int .i64 xs.length):: .c (.bool true):: .c (.bool true)::(r++(r++B))))=r:=λB=>
   zB (r:=r) (A:=.l xs:: .c (.int .i64 xs.length):: .l (List.replicate xs.length z):: .c (.int .i64 i):: .l (xs.take i++List.replicate (xs.length-i) z):: .c (.int .i64 xs.length):: .c (.bool true):: .c (.bool true)::r) (B:=B) (b:=8+w) (w:=w) (by simp[rL];omega) rL
  have rP:∀(n k:Nat) (C:List T),n=8+(w+w)+k->(.l xs:: .c (.int .i64 xs.length):: .l (List.replicate xs.length z):: .c (.int .i64 i):: .l (xs.take i++List.replicate (xs.length-i) z):: .c (.int .i64 xs.length):: .c (.bool true):: .c (.bool true)::(r++(r++C))).getD n T.cE=C.getD k T.cE:=λn k C h=>
   Ms (A:=.l xs:: .c (.int .i64 xs.length):: .l (List.replicate xs.length z):: .c (.int .i64 i):: .l (xs.take i++List.replicate (xs.length-i) z):: .c (.int .i64 xs.length):: .c (.bool true):: .c (.bool true)::r) (r:=r) (C:=C) (by simp[rL];omega)
  have e7:=λC=>rP (9+(w+w)) 1 C (by omega)
  have e8:=λC=>rP (10+(w+w)) 2 C (by omega)
  simp only[rN,jA,rO,nz,uc,List.map_cons,List.map_nil,fx,eb,List.cons_append,List.nil_append,List.getD_cons_zero,List.getD_cons_succ,eB,pY,qb,bf,decide_true,og,cond_true,yb hr]
  rw[zC hr rL w 0 (by omega) (by simp) (by simp) rfl rfl]
  simp only[rN,jA,rO,nz,uc,List.map_cons,List.map_nil,List.map_append,fx,eb,List.cons_append,List.nil_append,List.append_assoc,List.getD_cons_zero,List.getD_cons_succ,eB,List.drop_zero,e5,hgr,e4,e6,VH,e7,e8,yb hf,zx,e3]
 ·intro self
  simp only[rN,jA,rO,nz,uc,List.map_cons,List.map_nil,fx,eb,List.cons_append,List.nil_append,List.getD_cons_zero,List.getD_cons_succ,eB,pY,qb,Int.lt_irrefl,decide_false,og,cond_false,List.take_length,Nat.sub_self,List.replicate_zero,List.append_nil]
def VI(z:Lf):PL:=
 .ins (.pr .len [.a 0])<|
 .ins (.pr .mk [.a 1,.a 1,z])<|
 .loop [.k (.int .i64 0),.a 2]<|
  .ins (.pr .len [.a 0])<|
  .ins (.pr (.bin .lss) [.a 3,.a 5])<|
  .ite 6 (.ins (.pr .dC [.a 0,.a 3])<|
   .ins (.pr (.cell 1 0) [.a 0,.a 3])<|
   .ins (.pr .dC [.a 4,.a 3])<|
   .ins (.pr (.put true 1 0 1) [.a 4,.a 3,.a 8])<|
   .ins (.pr (.bin .add) [.a 3,.k (.int .i64 1)])<|
   .go 0 [.a 11,.a 10])
  (.ret [.a 4])
def xa:Ty->Bool
 | .sl _=>false
 |_=>true
theorem Mx{f:Ty}{t:T}(hf:xa f=true)(h:WT f t):eQ t=true:=by
 cases f with
 |i k=>unfold WT at h;obtain⟨n,rfl,_⟩:=h;rfl
 |b=>unfold WT at h;obtain⟨n,rfl⟩:=h;rfl
 |s=>unfold WT at h;obtain⟨n,rfl,_⟩:=h;rfl
 |sl gs=>cases hf
theorem ajT{S:Nat->af}{z:Lf}{f:Ty}(hf:xa f=true)(hz:Mw z=true):lu (λts=>(VI z).den S rounds [] ts) [.sl [f]]:=by
 intro ts ht hb
 obtain⟨xs,rfl,h2,h3⟩:=ht.Mr
 rw[fa,fy,fv,Nat.add_zero]at hb
 have hlen:=GC xs
 let y:List T:=[Lf.ev [] z]
 have BR:∀ρ,Lf.ev ρ z=Lf.ev [] z:=λρ=>by cases z with
  |k v=>rfl
  |e=>rfl
  |a n=>cases hz
 have key:=Cl (n:=xs.length) (out:=[T.l xs]) (F:=λself ts=>(PL.den S rounds (self::[]) ([T.l xs,.c (.int .i64 (xs.length:Int)),.l (List.replicate xs.length y)]++ts) (
  .ins (.pr .len [.a 0])<|
  .ins (.pr (.bin .lss) [.a 3,.a 5])<|
  .ite 6 (.ins (.pr .dC [.a 0,.a 3])<|
   .ins (.pr (.cell 1 0) [.a 0,.a 3])<|
   .ins (.pr .dC [.a 4,.a 3])<|
   .ins (.pr (.put true 1 0 1) [.a 4,.a 3,.a 8])<|
   .ins (.pr (.bin .add) [.a 3,.k (.int .i64 1)])<|
   .go 0 [.a 11,.a 10])
  (.ret [.a 4])))) (λi=>[.c (.int .i64 (i:Int)),.l (xs.take i++List.replicate (xs.length-i) y)]) ?_ ?_ rounds (by unfold rounds;omega)
 ·simp only[VI,jA,List.map_cons,List.map_nil,fx,eb,List.cons_append,List.nil_append,List.getD_cons_zero,List.getD_cons_succ,eB,pY]
  rw[BR,Mp (show xs.length<r8 by unfold r8;omega),eB,w9]
  exact key
 ·intro i hi self
  obtain⟨r,hr⟩:=JX hi
  have GJ:=h3 r (Cn hr)
  obtain⟨t,rfl,ht⟩:=GJ.one
  have mF:=Mx hf ht
  have bf:(i:Int)<xs.length:=by omega
  have e3:IntKind.i64.wrap ((i:Int)+1)=((i+1:Nat):Int):=by rw[zv (by omega) (by omega)];simp
  have hfg:=VE (z:=y) hi
  have e4:=GI (sc:=true) (w:=1) (off:=0) (n:=1) (vs:=[t]) (k:=.i64) hfg rfl (by omega) rfl (by simp[mF])
  rw[VD (z:=y) hr rfl]at e4
  simp only[rN,jA,rO,nz,uc,List.map_cons,List.map_nil,fx,eb,List.cons_append,List.nil_append,List.getD_cons_zero,List.getD_cons_succ,eB,pY,qb,bf,decide_true,og,cond_true,yb hr,GH hr (w:=1) (j:=0) rfl rfl,yb hfg,e4,zx,e3]
 ·intro self
  simp only[rN,jA,rO,nz,uc,List.map_cons,List.map_nil,fx,eb,List.cons_append,List.nil_append,List.getD_cons_zero,List.getD_cons_succ,eB,pY,qb,Int.lt_irrefl,decide_false,og,cond_false,List.take_length,Nat.sub_self,List.replicate_zero,List.append_nil]
theorem GK{fs:List Ty}{w:Nat}(hw:fs.length=w)(hf:fs.all xa=true)(xs:List (List T))(i:Nat)(z vs:List T)(hi:xs[i]?=some z)(hz:z.length=w)(hv:cW fs vs):
  Prim.ev (.put true w 0 w) (.l xs:: .c (.int .i64 (i:Int))::vs)=some (.l (setRow xs i 0 vs)):=by
 refine GI hi hz (by omega) (by rw[hv.length,hw]) ?_
 have:∀{fs:List Ty} {vs:List T},fs.all xa=true->cW fs vs->vs.all eQ=true:=by
  intro fs
  induction fs with
  |nil=>intro vs _ h;unfold cW at h;subst h;rfl
  |cons f fs ih=>
   intro vs hf h
   unfold cW at h
   obtain⟨t,mi,rfl,h1,h2⟩:=h
   simp only[List.all_cons,bD]at hf⊢
   exact⟨Mx hf.1 h1,ih hf.2 h2⟩
 simp[this hf hv]
theorem VJ:∀{fs:List Ty} {vs:List T},cW fs vs->r9 (fs.map xa) vs=true
 | [],vs,h=>by unfold cW at h;subst h;rfl
 |f::fs,vs,h=>by
  unfold cW at h
  obtain⟨t,mi,rfl,h1,h2⟩:=h
  have ih:=VJ h2
  rw[List.map_cons]
  cases hs:xa f with
  |true=>simp[r9,Mx hs h1,ih]
  |false=>simp[r9,ih]
theorem ajU{fs:List Ty}{w:Nat}{ms:List Bool}(hw:fs.length=w)(hm:ms=fs.map xa)(xs:List (List T))(i:Nat)(z vs:List T)(hi:xs[i]?=some z)(hz:z.length=w)(hv:cW fs vs):
  Prim.ev (.gH ms w 0) (.l xs:: .c (.int .i64 (i:Int))::vs)=some (.l (setRow xs i 0 vs)):=
 ajJ hi hz (by rw[hv.length,hw];omega) (by rw[hm];exact VJ hv)
def VK(w g:Nat):PL:=
 .ins (.pr .len [.a 0])<|
 .ins (.pr .len [.a 1])<|
 .ins (.pr (.bin .neq) [.a 2,.a 3])<|
 .ite 4 (.ins (.pr .bM [.k (.bool false)])<| .ret [.a 5])<|
 .loop [.k (.bool false),.k (.int .i64 0)]<|
  .ins (.pr .len [.a 0])<|
  .ins (.pr (.bin .lss) [.a 6,.a 7])<|
  .ite 8 (.ins (.pr .dC [.a 0,.a 6])<|EL w 0 6 0 w<|
   .ins (.pr .dC [.a 1,.a 6])<|EL w 1 6 0 w<|
   .ins (.cl g (vd 10 w++vd (11+w) w) 1)<|
   .ins (.pr (.un .not) [.a (11+(w+w))])<|
   .ite (12+(w+w)) (.ins (.pr .bM [.k (.bool false)])<| .ret [.a (13+(w+w))])<|
   .ins (.pr (.bin .add) [.a 6,.k (.int .i64 1)])<|
   .go 0 [.a 5,.a (13+(w+w))])
  (.ins (.pr .bM [.k (.bool true)])<| .ret [.a 9])
theorem zD{S:Nat->af}{w g:Nat}{fs:List Ty}(hw:fs.length=w)(hg:kt (S g) fs):kt (λts=>(VK w g).den S rounds [] ts) [.sl fs]:=by
 intro ts ht hb
 obtain⟨xs,rfl,h2,h3⟩:=ht.Mr
 rw[fa,fy,fv,Nat.add_zero]at hb
 have hlen:=GC xs
 have key:=Cl (n:=xs.length) (out:=[T.c (.bool true)]) (F:=λself ts=>(PL.den S rounds (self::[]) ([T.l xs,.l xs,.c (.int .i64 (xs.length:Int)),.c (.int .i64 (xs.length:Int)),.c (.bool false)]++ts) (
  .ins (.pr .len [.a 0])<|
  .ins (.pr (.bin .lss) [.a 6,.a 7])<|
  .ite 8 (.ins (.pr .dC [.a 0,.a 6])<|EL w 0 6 0 w<|
   .ins (.pr .dC [.a 1,.a 6])<|EL w 1 6 0 w<|
   .ins (.cl g (vd 10 w++vd (11+w) w) 1)<|
   .ins (.pr (.un .not) [.a (11+(w+w))])<|
   .ite (12+(w+w)) (.ins (.pr .bM [.k (.bool false)])<| .ret [.a (13+(w+w))])<|
   .ins (.pr (.bin .add) [.a 6,.k (.int .i64 1)])<|
   .go 0 [.a 5,.a (13+(w+w))])
  (.ins (.pr .bM [.k (.bool true)])<| .ret [.a 9])))) (λi=>[.c (.bool false),.c (.int .i64 (i:Int))]) ?_ ?_ rounds (by unfold rounds;omega)
 ·simp only[VK,jA,nz,List.map_cons,List.map_nil,fx,eb,List.cons_append,List.nil_append,List.getD_cons_zero,List.getD_cons_succ,eB,pY,zw,bne_self_eq_false,og,cond_false]
  rw[w9]
  exact key
 ·intro i hi self
  obtain⟨r,hr⟩:=JX hi
  have rL:r.length=w:=by rw[(h3 r (Cn hr)).length,hw]
  have hbr:=Ci hr
  have hgr:=hg r (h3 r (Cn hr)) (by omega)
  have bf:(i:Int)<xs.length:=by omega
  have e3:IntKind.i64.wrap ((i:Int)+1)=((i+1:Nat):Int):=by rw[zv (by omega) (by omega)];simp
  have e5:∀B,(vd 10 w).map (Lf.ev (.l xs:: .l xs:: .c (.int .i64 xs.length):: .c (.int .i64 xs.length):: .c (.bool false):: .c (.bool false):: .c (.int .i64 i):: .c (.int .i64 xs.length):: .c (.bool true):: .c (.bool true)::(r++B)))=r:=λB=>
   zB (r:=r) (A:=[.l xs,.l xs,.c (.int .i64 xs.length),.c (.int .i64 xs.length),.c (.bool false),.c (.bool false),.c (.int .i64 i),.c (.int .i64 xs.length),.c (.bool true),.c (.bool true)]) (B:=B) (b:=10) (w:=w) rfl rL
  have e6:∀t,(vd (11+w) w).map (Lf.ev (.l xs:: .l xs:: .c (.int .i64 xs.length):: .c (.int .i64 xs.length):: .c (.bool false):: .c (.bool false):: .c (.int .i64 i):: .c (.int .i64 xs.length):: .c (.bool true):: .c (.bool true)::(r++t::r)))=r:=λt=>by
   have:=zB (r:=r) (A:=.l xs:: .l xs:: .c (.int .i64 xs.length):: .c (.int .i64 xs.length):: .c (.bool false):: .c (.bool false):: .c (.int .i64 i):: .c (.int .i64 xs.length):: .c (.bool true):: .c (.bool true)::(r++[t])) (B:=[]) (b:=11+w) (w:=w) (by simp[rL];omega) rL
   simpa using this
  have rP:∀(n k:Nat) (t:T) (C:List T),n=11+(w+w)+k->(.l xs:: .l xs:: .c (.int .i64 xs.length):: .c (.int .i64 xs.length):: .c (.bool false):: .c (.bool false):: .c (.int .i64 i):: .c (.int .i64 xs.length):: .c (.bool true):: .c (.bool true)::(r++t::(r++C))).getD n T.cE=C.getD k T.cE:=λn k t C h=>by
   have:=Ms (A:=.l xs:: .l xs:: .c (.int .i64 xs.length):: .c (.int .i64 xs.length):: .c (.bool false):: .c (.bool false):: .c (.int .i64 i):: .c (.int .i64 xs.length):: .c (.bool true):: .c (.bool true)::(r++[t])) (r:=r) (C:=C) (n:=n) (k:=k) (by simp[rL];omega)
   rw[<-this]
   simp
  have e7:=λt C=>rP (11+(w+w)) 0 t C (by omega)
  have e8:=λt C=>rP (12+(w+w)) 1 t C (by omega)
  have e9:=λt C=>rP (13+(w+w)) 2 t C (by omega)
  simp only[rN,jA,rO,nz,uc,List.map_cons,List.map_nil,fx,eb,List.cons_append,List.nil_append,List.getD_cons_zero,List.getD_cons_succ,eB,pY,qb,bf,decide_true,og,cond_true,yb hr]
  rw[zC hr rL w 0 (by omega) (by simp) (by simp) rfl rfl]
  simp only[jA,List.map_cons,List.map_nil,eb,List.cons_append,List.nil_append,List.append_assoc,List.getD_cons_zero,List.getD_cons_succ,eB,List.drop_zero,yb hr]
  rw[zC hr rL w 0 (by omega) (by simp) (by simp) rfl rfl]
  simp only[rN,jA,rO,nz,uc,List.map_cons,List.map_nil,List.map_append,fx,eb,List.cons_append,List.nil_append,List.append_assoc,List.getD_cons_zero,List.getD_cons_succ,eB,List.drop_zero,e5,e6,hgr,fS,e7,e8,e9,Mo,Bool.not_true,og,cond_false,zx,e3]
 ·intro self
  simp only[rN,jA,rO,nz,uc,List.map_cons,List.map_nil,fx,eb,List.cons_append,List.nil_append,List.getD_cons_zero,List.getD_cons_succ,eB,pY,qb,Int.lt_irrefl,decide_false,og,cond_false,GD]
def VL(op:Prim):PL:=
 .ins (.pr .len [.a 0])<|
 .ins (.pr .len [.a 1])<|
 .ins (.pr (.bin .neq) [.a 2,.a 3])<|
 .ite 4 (.ins (.pr .bM [.k (.bool false)])<| .ret [.a 5])<|
 .loop [.k (.bool false),.k (.int .i64 0)]<|
  .ins (.pr .len [.a 0])<|
  .ins (.pr (.bin .lss) [.a 6,.a 7])<|
  .ite 8 (.ins (.pr .dC [.a 0,.a 6])<| .ins (.pr (.cell 1 0) [.a 0,.a 6])<|
   .ins (.pr .dC [.a 1,.a 6])<| .ins (.pr (.cell 1 0) [.a 1,.a 6])<|
   .ins (.pr op [.a 10,.a 12])<|
   .ite 13 (.ins (.pr .bM [.k (.bool false)])<| .ret [.a 14])<|
   .ins (.pr (.bin .add) [.a 6,.k (.int .i64 1)])<|
   .go 0 [.a 5,.a 14])
  (.ins (.pr .bM [.k (.bool true)])<| .ret [.a 9])
theorem ajV{S:Nat->af}{op:Prim}{f:Ty}(eo:∀t,WT f t->Prim.ev op [t,t]=some (.c (.bool false))):kt (λts=>(VL op).den S rounds [] ts) [.sl [f]]:=by
 intro ts ht hb
 obtain⟨xs,rfl,h2,h3⟩:=ht.Mr
 rw[fa,fy,fv,Nat.add_zero]at hb
 have hlen:=GC xs
 have key:=Cl (n:=xs.length) (out:=[T.c (.bool true)]) (F:=λself ts=>(PL.den S rounds (self::[]) ([T.l xs,.l xs,.c (.int .i64 (xs.length:Int)),.c (.int .i64 (xs.length:Int)),.c (.bool false)]++ts) (
  .ins (.pr .len [.a 0])<|
  .ins (.pr (.bin .lss) [.a 6,.a 7])<|
  .ite 8 (.ins (.pr .dC [.a 0,.a 6])<| .ins (.pr (.cell 1 0) [.a 0,.a 6])<|
   .ins (.pr .dC [.a 1,.a 6])<| .ins (.pr (.cell 1 0) [.a 1,.a 6])<|
   .ins (.pr op [.a 10,.a 12])<|
   .ite 13 (.ins (.pr .bM [.k (.bool false)])<| .ret [.a 14])<|
   .ins (.pr (.bin .add) [.a 6,.k (.int .i64 1)])<|
   .go 0 [.a 5,.a 14])
  (.ins (.pr .bM [.k (.bool true)])<| .ret [.a 9])))) (λi=>[.c (.bool false),.c (.int .i64 (i:Int))]) ?_ ?_ rounds (by unfold rounds;omega)
 ·simp only[VL,jA,nz,List.map_cons,List.map_nil,fx,eb,List.cons_append,List.nil_append,List.getD_cons_zero,List.getD_cons_succ,eB,pY,zw,bne_self_eq_false,og,cond_false]
  rw[w9]
  exact key
 ·intro i hi self
  obtain⟨r,hr⟩:=JX hi
  have GJ:=h3 r (Cn hr)
  obtain⟨t,rfl,ht⟩:=GJ.one
  have bf:(i:Int)<xs.length:=by omega
  have e3:IntKind.i64.wrap ((i:Int)+1)=((i+1:Nat):Int):=by rw[zv (by omega) (by omega)];simp
  simp only[rN,jA,rO,nz,uc,List.map_cons,List.map_nil,fx,eb,List.cons_append,List.nil_append,List.getD_cons_zero,List.getD_cons_succ,eB,pY,qb,bf,decide_true,og,cond_true,yb hr,GH hr (w:=1) (j:=0) rfl rfl,eo t ht,cond_false,zx,e3]
 ·intro self
  simp only[rN,jA,rO,nz,uc,List.map_cons,List.map_nil,fx,eb,List.cons_append,List.nil_append,List.getD_cons_zero,List.getD_cons_succ,eB,pY,qb,Int.lt_irrefl,decide_false,og,cond_false,GD]
theorem ajW{k:IntKind}(t:T)(h:WT (.i k) t):Prim.ev (.bin .neq) [t,t]=some (.c (.bool false)):=by
 unfold WT at h
 obtain⟨n,rfl,_⟩:=h
 rw[zw,bne_self_eq_false]
set_option linter.unusedSimpArgs false
theorem ajX{α β:Type}{F:(α->Option β)->α->Option β}{n:Nat}(Inv:Nat->α->Prop){Q:Option β->Prop}
  (step:∀i x,i<n->Inv i x->∀s,(∃x',Inv (i+1) x'∧F s x=s x')∨Q (F s x))(fin:∀x,Inv n x->∀s,Q (F s x)){x:α}(hx:Inv 0 x){R:Nat}(hR:n<R):Q (iter F R x):=by
 have:∀d i x,i+d=n->Inv i x->∀R,d<R->Q (iter F R x):=by
  intro d
  induction d with
  |zero=>
   intro i x hi hx R hR
   cases R with
   |zero=>omega
   |succ R=>rw[Nat.add_zero]at hi;subst hi;exact fin x hx _
  |succ d ih=>
   intro i x hi hx R hR
   cases R with
   |zero=>omega
   |succ R=>
    unfold iter
    rcases step i x (by omega) hx (iter F R)with⟨x',h1,h2⟩|h
    ·rw[h2];exact ih (i+1) x' (by omega) h1 R (by omega)
    ·exact h
 exact this n 0 x (by omega) hx R hR
def aBk(o o':Option (List T)):Prop:=∃b,o=some [.c (.bool b)]∧o'=some [.c (.bool b)]
theorem ajY(a b c d:Int):Prim.ev (.uw [1,1]) [.c (.int .i64 a),.c (.int .i64 b),.c (.int .i64 c),.c (.int .i64 d)]=some (.c (.bool (a==c&&(b==d)))):=by
 simp[Prim.ev,xH,Ro]
set_option linter.unusedSimpArgs false
def dg(g:Nat->List T->Nat×List T):Nat->List (List T)->Nat×List (List T)
 |n,[]=>(n,[])
 |n,r::rs=>((dg g (g n r).1 rs).1,(g n r).2::(dg g (g n r).1 rs).2)
mutual
def pZ:Ty->Nat->T->Nat×T
 | .i k,n,_=>(n+1,.c (.int k (n:Int)))
 | .b,n,_=>(n+1,.c (.bool (n%3==0)))
 | .s,n,t=>(n,t)
 | .sl fs,n,t=>match t with
  | .l xs=>((dg (de fs) n xs).1,.l (dg (de fs) n xs).2)
  |t=>(n,t)
def de:List Ty->Nat->List T->Nat×List T
 | [],n,_=>(n,[])
 |f::fs,n,ts=>match ts with
  |t::ts=>((de fs (pZ f n t).1 ts).1,(pZ f n t).2::(de fs (pZ f n t).1 ts).2)
  | []=>(n,[])
end
theorem JY(n:Nat)(ts:List T):de [] n ts=(n,[]):=by simp only[de]
theorem Cq(f:Ty)(fs:List Ty)(n:Nat)(t:T)(ts:List T):de (f::fs) n (t::ts)=((de fs (pZ f n t).1 ts).1,(pZ f n t).2::(de fs (pZ f n t).1 ts).2):=by simp only[de]
theorem zE(k:IntKind)(n:Nat)(t:T):pZ (.i k) n t=(n+1,.c (.int k (n:Int))):=by simp only[pZ]
theorem zF(n:Nat)(t:T):pZ .b n t=(n+1,.c (.bool (n%3==0))):=by simp only[pZ]
theorem Cr(fs:List Ty)(n:Nat)(xs:List (List T)):pZ (.sl fs) n (.l xs)=((dg (de fs) n xs).1,.l (dg (de fs) n xs).2):=by simp only[pZ]
theorem VM{g:Nat->List T->Nat×List T}:∀(xs:List (List T)) (n:Nat) (r:List T),dg g n (xs++[r])=((g (dg g n xs).1 r).1,(dg g n xs).2++[(g (dg g n xs).1 r).2])
 | [],n,r=>rfl
 |x::xs,n,r=>by
  show((dg g (g n x).1 (xs++[r])).1,(g n x).2::(dg g (g n x).1 (xs++[r])).2)=_
  rw[VM xs]
  rfl
theorem RP{g:Nat->List T->Nat×List T}:∀(xs:List (List T)) (n:Nat),(dg g n xs).2.length=xs.length
 | [],n=>rfl
 |x::xs,n=>by simp[dg,RP xs]
theorem VN{g:Nat->List T->Nat×List T}{xs:List (List T)}{i:Nat}{r:List T}(h:xs[i]?=some r)(n:Nat):dg g n (xs.take (i+1))=((g (dg g n (xs.take i)).1 r).1,(dg g n (xs.take i)).2++[(g (dg g n (xs.take i)).1 r).2]):=by
 rw[VC h,VM]
theorem VO{g:Nat->List T->Nat×List T}:∀{xs:List (List T)} {i:Nat} {r:List T} (n:Nat),xs[i]?=some r->(dg g n xs).2[i]?=some (g (dg g n (xs.take i)).1 r).2
 | [],_,_,_,h=>by simp at h
 |x::xs,0,r,n,h=>by simp at h;subst h;simp[dg]
 |x::xs,i+1,r,n,h=>by
  have:=VO (g:=g) (xs:=xs) (i:=i) (r:=r) (g n x).1 (by simpa using h)
  simpa[dg]using this
mutual
def xb:Ty->Bool
 | .i .i64=>true
 | .i _=>false
 | .b=>true
 | .s=>false
 | .sl fs=>Nat.ble fs.length 64&&mA fs
def mA:List Ty->Bool
 | []=>true
 |f::fs=>xb f&&mA fs
end
theorem GL{f:Ty}{fs:List Ty}(h:mA (f::fs)=true):xb f=true∧mA fs=true:=by
 unfold mA at h
 simpa using h
theorem zG{fs:List Ty}(h:xb (.sl fs)=true):fs.length<=64∧mA fs=true:=by
 unfold xb at h
 simp only[bD]at h
 exact⟨Nat.le_of_ble_eq_true h.1,h.2⟩
theorem GM{g:Nat->List T->Nat×List T}{xs:List (List T)}(hg:∀n,∀r∈xs,n<=(g n r).1∧(g n r).1<=n+64*(1+lN r)):∀(n:Nat),n<=(dg g n xs).1∧(dg g n xs).1<=n+64*gV xs:=by
 induction xs with
 |nil=>intro n;simp[dg,gV]
 |cons x xs ih=>
  intro n
  have h1:=hg n x (.head _)
  have h2:=ih (λn r hr=>hg n r (.tail _ hr)) (g n x).1
  simp only[dg,gV]
  omega
mutual
theorem GN:∀(f:Ty) (n:Nat) (t:T),xb f=true->WT f t->n<=(pZ f n t).1∧(pZ f n t).1<=n+1+64*bulk t
 | .i k,n,t,_,_=>by simp only[zE];omega
 | .b,n,t,_,_=>by simp only[zF];omega
 | .s,n,t,h,_=>by simp[xb]at h
 | .sl fs,n,t,h,ht=>by
  unfold WT at ht
  obtain⟨xs,rfl,_,hx⟩:=ht
  have hm:=zG h
  rw[Cr,fv]
  have:=GM (g:=de fs) (xs:=xs) (λn r hr=>by
   have:=zH fs n r hm.2 (hx r hr)
   omega) n
  simp only
  omega
theorem zH:∀(fs:List Ty) (n:Nat) (ts:List T),mA fs=true->cW fs ts->n<=(de fs n ts).1∧(de fs n ts).1<=n+fs.length+64*lN ts
 | [],n,ts,_,_=>by simp only[JY,List.length_nil];omega
 |f::fs,n,ts,h,ht=>by
  unfold cW at ht
  obtain⟨t,mi,rfl,h1,h2⟩:=ht
  have hm:=GL h
  have g1:=GN f n t hm.1 h1
  have g2:=zH fs (pZ f n t).1 mi hm.2 h2
  rw[Cq,fa]
  simp only[List.length_cons]
  omega
end
mutual
theorem ajZ:∀(f:Ty) (n:Nat) (t:T),xb f=true->WT f t->n+1+64*bulk t<4611686018427387904->WT f (pZ f n t).2∧bulk (pZ f n t).2=bulk t
 | .i k,n,t,hk,ht,hn=>by
  unfold WT at ht
  obtain⟨m,rfl,_⟩:=ht
  rw[zE,gf,gf]
  refine⟨?_,rfl⟩
  unfold WT
  cases k with
  |i64=>exact⟨n,rfl,by simp[Lit.wf,IntKind.min,IntKind.max,IntKind.signed,IntKind.bits];omega⟩
  |_=>simp[xb]at hk
 | .b,n,t,_,ht,_=>by
  unfold WT at ht
  obtain⟨m,rfl⟩:=ht
  rw[zF,gn,gn]
  refine⟨?_,rfl⟩
  unfold WT
  exact⟨_,rfl⟩
 | .s,n,t,h,_,_=>by simp[xb]at h
 | .sl fs,n,t,h,ht,hn=>by
  unfold WT at ht
  obtain⟨xs,rfl,hl,hx⟩:=ht
  have hm:=zG h
  rw[Cr,fv,fv]
  rw[fv]at hn
  have:∀(xs:List (List T)) (n:Nat),(∀r∈xs,cW fs r)->n+1+64*gV xs<4611686018427387904->(∀r∈(dg (de fs) n xs).2,cW fs r)∧gV (dg (de fs) n xs).2=gV xs:=by
   intro xs
   induction xs with
   |nil=>intro n _ _;simp[dg]
   |cons x xs ih=>
    intro n hx hn
    simp only[gV]at hn
    have g0:=zH fs n x hm.2 (hx x (.head _))
    have g1:=My fs n x hm.2 (hx x (.head _)) (by omega)
    have g2:=ih (de fs n x).1 (λr hr=>hx r (.tail _ hr)) (by omega)
    simp only[dg,gV,List.mem_cons]
    refine⟨?_,by rw[g1.2,g2.2]⟩
    rintro r (rfl|hr)
    ·exact g1.1
    ·exact g2.1 r hr
  have:=this xs n hx hn
  refine⟨?_,this.2⟩
  unfold WT
  exact⟨_,rfl,by rw[RP];exact hl,this.1⟩
theorem My:∀(fs:List Ty) (n:Nat) (ts:List T),mA fs=true->cW fs ts->n+fs.length+64*lN ts<4611686018427387904->cW fs (de fs n ts).2∧lN (de fs n ts).2=lN ts
 | [],n,ts,_,ht,_=>by
  unfold cW at ht
  subst ht
  rw[JY]
  refine⟨?_,rfl⟩
  unfold cW
  rfl
 |f::fs,n,ts,h,ht,hn=>by
  unfold cW at ht
  obtain⟨t,mi,rfl,h1,h2⟩:=ht
  have hm:=GL h
  simp only[fa,List.length_cons]at hn
  have g0:=GN f n t hm.1 h1
  have g1:=ajZ f n t hm.1 h1 (by omega)
  have g2:=My fs (pZ f n t).1 mi hm.2 h2 (by omega)
  rw[Cq,fa,fa,g1.2,g2.2]
  refine⟨?_,rfl⟩
  unfold cW
  exact⟨_,_,rfl,g1.1,g2.1⟩
end
def EM(F:af)(fs:List Ty):Prop:=
 ∀(n:Nat) (ts:List T),cW fs ts->lN ts<=1048576->n+64*lN ts<=1099511627776->F ((de fs n ts).2++[.c (.int .i64 (n:Int))])=some [.c (.int .i64 ((de fs n ts).1:Int))]
def EN(w:Nat):List Ty->List Nat->Nat->Nat->Nat->(Nat->Nat->PL)->PL
 | [],_,_,c,p,k=>k c p
 | .b::fs,gs,j,c,p,k=>
  .ins (.pr .dC [.a 0,.a 4])<| .ins (.pr (.cell w j) [.a 0,.a 4])<| .ins (.pr (.bin .rem) [.a c,.k (.int .i64 3)])<| .ins (.pr (.bin .eql) [.a (p+2),.k (.int .i64 0)])<|
  .ins (.pr (.bb .neq) [.a (p+1),.a (p+3)])<| .ite (p+4) (.ins (.pr .bM [.k (.int .i64 (-1))])<| .ret [.a (p+5)])<| .ins (.pr (.bin .add) [.a c,.k (.int .i64 1)])<|EN w fs gs (j+1) (p+5) (p+6) k
 | .sl _::fs,gs,j,c,p,k=>
  .ins (.pr .dC [.a 0,.a 4])<| .ins (.pr (.cell w j) [.a 0,.a 4])<| .ins (.cl (gs.headD 0) [.a (p+1),.a c] 1)<| .ins (.pr (.bin .lss) [.a (p+2),.k (.int .i64 0)])<|
  .ite (p+3) (.ins (.pr .bM [.k (.int .i64 (-1))])<| .ret [.a (p+4)])<|EN w fs gs.tail (j+1) (p+2) (p+4) k
 |_::fs,gs,j,c,p,k=>
  .ins (.pr .dC [.a 0,.a 4])<| .ins (.pr (.cell w j) [.a 0,.a 4])<| .ins (.pr (.bin .neq) [.a (p+1),.a c])<| .ite (p+2) (.ins (.pr .bM [.k (.int .i64 (-1))])<| .ret [.a (p+3)])<|
  .ins (.pr (.bin .add) [.a c,.k (.int .i64 1)])<|EN w fs gs (j+1) (p+3) (p+4) k
def VP(fs:List Ty)(gs:List Nat):PL:=
 .loop [.a 1,.k (.int .i64 0),.k (.int .i64 0)]<|
  .ins (.pr .len [.a 0])<|
  .ins (.pr (.bin .lss) [.a 4,.a 5])<|
  .ite 6 (EN fs.length fs gs 0 2 7 λc p=>.ins (.pr (.bin .add) [.a 4,.k (.int .i64 1)])<| .go 0 [.a c,.a 3,.a p])
  (.ins (.pr .bM [.a 2])<| .ret [.a 7])
def JZ(S:Nat->af):List Ty->List Nat->Prop
 | [],_=>True
 | .sl fs::r,g::gs=>EM (S g) [.sl fs]∧JZ S r gs
 | .sl _::_,[]=>False
 |_::r,gs=>JZ S r gs
theorem oh{ρ:List T}{n:Nat}{t:T}(h:ρ.getD n T.cE=t)(hn:n<ρ.length)(B:List T):(ρ++B).getD n T.cE=t:=by
 rw[<-h]
 simp[List.getD,List.getElem?_append_left hn]
theorem GP{ρ B:List T}{t:T}:(ρ++t::B).getD ρ.length T.cE=t:=by
 simp[List.getD]
theorem VQ(n:Nat):Prim.ev (.bin .rem) [.c (.int .i64 (n:Int)),.c (.int .i64 3)]=some (.c (.int .i64 ((n%3:Nat):Int))):=by
 simp only[Prim.ev,T.val,mu,Option.bind_some,if_true]
 rw[if_neg (by decide)]
 simp only[Option.bind_some]
 congr 3
theorem VR(a b:Nat):(((a:Int))==(b:Int))=(a==b):=by
 rw[Bool.eq_iff_iff]
 simp only[beq_iff_eq]
 omega
set_option linter.unusedSimpArgs false
theorem ve{ρ:List T}{p:Nat}(hp:ρ.length=p)(m:Nat)(B:List T):(ρ++B).getD (p+m) T.cE=B.getD m T.cE:=by
 subst hp
 simp only[List.getD,List.getElem?_append_right (Nat.le_add_right _ _),Nat.add_sub_cancel_left]
theorem aj0{α:Type}{r:List α}{j:Nat}{t:α}{ts:List α}(h:r.drop j=t::ts):r[j]?=some t∧r.drop (j+1)=ts:=by
 have hj:j<r.length:=by
  rcases Nat.lt_or_ge j r.length with h'|h'
  ·exact h'
  ·rw[List.drop_eq_nil_iff.2 h']at h;cases h
 rw[List.drop_eq_getElem_cons hj]at h
 cases h
 exact⟨List.getElem?_eq_getElem hj,rfl⟩
theorem GQ{S:Nat->af}{R:Nat}{K:List af}{w i:Nat}{ys:List (List T)}{r:List T}{out:Option (List T)}(hr:ys[i]?=some r)(hw:r.length=w):∀(fs:List Ty) (gs:List Nat) (j c p:Nat) (k:Nat->Nat->PL) (ρ:List T) (n:Nat) (ts:List T),
  JZ S fs gs->mA fs=true->cW fs ts->lN ts<=1048576->n+fs.length+64*lN ts<=1099511627776->r.drop j=(de fs n ts).2->ρ.length=p->4<p->ρ.getD 0 T.cE=.l ys->ρ.getD 4 T.cE=.c (.int .i64 (i:Int))->c<p->ρ.getD c T.cE=.c (.int .i64 (n:Int))->
  (∀(c' p':Nat) (B:List T),(ρ++B).length=p'->c'<p'->(ρ++B).getD c' T.cE=.c (.int .i64 ((de fs n ts).1:Int))->PL.den S R K (ρ++B) (k c' p')=out)->
  PL.den S R K ρ (EN w fs gs j c p k)=out
 | [],gs,j,c,p,k,ρ,n,ts,_,_,_,_,_,_,hp,h4,_,_,hc,hn,hk=>by
  have:=hk c p [] (by simpa using hp) hc (by simpa[JY]using hn)
  simpa[EN]using this
 |f::fs,gs,j,c,p,k,ρ,n,ts,hS,hm,ht,hb,AB,hd,hp,h4,e0,e4,hc,hn,hk=>by
  unfold cW at ht
  obtain⟨t,mi,rfl,S',Bp⟩:=ht
  have qp:=GL hm
  rw[Cq]at hd
  obtain⟨hj,jW⟩:=aj0 hd
  simp only[fa,List.length_cons]at hb AB
  have x0:∀B,(ρ++B).getD 0 T.cE=.l ys:=λB=>oh e0 (by omega) B
  have x4:∀B,(ρ++B).getD 4 T.cE=.c (.int .i64 (i:Int)):=λB=>oh e4 (by omega) B
  have xc:∀B,(ρ++B).getD c T.cE=.c (.int .i64 (n:Int)):=λB=>oh hn (by omega) B
  have xp:=ve hp
  have xp0:∀B,(ρ++B).getD p T.cE=B.getD 0 T.cE:=λB=>xp 0 B
  have cell:=GH (k:=.i64) hr hw hj
  have hle:=GN f n t qp.1 S'
  have wr:IntKind.i64.wrap ((n:Int)+1)=((n+1:Nat):Int):=by rw[zv (by omega) (by omega)];simp
  cases f with
  |i kk=>
   cases kk with
   |i64=>
    rw[zE]at cell
    simp only[EN,jA,nz,List.map_cons,List.map_nil,fx,eb,e0,e4,hn,x0,x4,xc,xp,xp0,List.append_assoc,List.cons_append,List.nil_append,List.getD_cons_zero,List.getD_cons_succ,eB,yb hr,cell,zw,bne_self_eq_false,og,cond_false,zx,wr]
    refine GQ hr hw fs gs (j+1) (p+3) (p+4) k _ (n+1) mi (by simpa[JZ]using hS) qp.2 Bp (by omega) (by omega) (by rw[jW,zE]) (by simp[hp]) (by omega) (x0 _) (x4 _) (by omega) (by rw[xp];rfl) ?_
    intro c' p' B h1 h2 h3
    rw[List.append_assoc]at h1 h3⊢
    refine hk c' p' _ h1 h2 ?_
    rw[h3,Cq,zE]
   |_=>simp[xb]at qp
  |b=>
   rw[zF]at cell
   have Mz:(((n%3:Nat):Int)==(0:Int))=(n%3==0):=VR (n%3) 0
   simp only[EN,jA,nz,List.map_cons,List.map_nil,fx,eb,e0,e4,hn,x0,x4,xc,xp,xp0,List.append_assoc,List.cons_append,List.nil_append,List.getD_cons_zero,List.getD_cons_succ,eB,yb hr,cell,VQ,GF,Mz,Mm,bne_self_eq_false,og,cond_false,zx,wr]
   refine GQ hr hw fs gs (j+1) (p+5) (p+6) k _ (n+1) mi (by simpa[JZ]using hS) qp.2 Bp (by omega) (by omega) (by rw[jW,zF]) (by simp[hp]) (by omega) (x0 _) (x4 _) (by omega) (by rw[xp];rfl) ?_
   intro c' p' B h1 h2 h3
   rw[List.append_assoc]at h1 h3⊢
   refine hk c' p' _ h1 h2 ?_
   rw[h3,Cq,zF]
  |s=>simp[xb]at qp
  |sl es=>
   cases gs with
   |nil=>simp[JZ]at hS
   |cons g gs=>
    simp only[JZ]at hS
    have qJ:=hS.1 n [t] (by unfold cW;exact⟨t,[],rfl,S',by unfold cW;rfl⟩) (by simp only[fa,fy];omega) (by simp only[fa,fy];omega)
    rw[Cq,JY]at qJ
    simp only[List.cons_append,List.nil_append]at qJ
    have GR:¬(((pZ (.sl es) n t).1:Int)<0):=by omega
    simp only[EN,jA,rO,nz,List.map_cons,List.map_nil,fx,eb,e0,e4,hn,x0,x4,xc,xp,xp0,List.append_assoc,List.cons_append,List.nil_append,List.getD_cons_zero,List.getD_cons_succ,eB,yb hr,cell,List.headD_cons,qJ,fS,qb,GR,decide_false,og,cond_false]
    refine GQ hr hw fs gs (j+1) (p+2) (p+4) k _ (pZ (.sl es) n t).1 mi hS.2 qp.2 Bp (by omega) (by omega) jW (by simp[hp]) (by omega) (x0 _) (x4 _) (by omega) (by rw[xp];rfl) ?_
    intro c' p' B h1 h2 h3
    rw[List.append_assoc]at h1 h3⊢
    refine hk c' p' _ h1 h2 ?_
    rw[h3,Cq]
theorem xd{S:Nat->af}{fs:List Ty}{gs:List Nat}(hS:JZ S fs gs)(hm:xb (.sl fs)=true):EM (λts=>(VP fs gs).den S rounds [] ts) [.sl fs]:=by
 intro n ts ht hb hn
 obtain⟨xs,rfl,h2,h3⟩:=ht.Mr
 have qp:=zG hm
 rw[fa,fy,fv,Nat.add_zero]at hb hn
 have hlen:=GC xs
 rw[Cq,JY,Cr]
 simp only[List.cons_append,List.nil_append,VP]
 rw[w9]
 have ki:∀i,gV (xs.take i)<=gV xs:=by
  intro i
  have:=Vq (xs.take i) (xs.drop i)
  rw[List.take_append_drop]at this
  omega
 have qM:=λi=>GM (g:=de fs) (xs:=xs.take i) (λm r hr=>by
  have:=zH fs m r qp.2 (h3 r (List.mem_of_mem_take hr))
  omega) n
 have key:=Cl (n:=xs.length) (out:=[T.c (.int .i64 ((dg (de fs) n xs).1:Int))]) (F:=λself ts=>(PL.den S rounds (self::[]) ([T.l (dg (de fs) n xs).2,.c (.int .i64 (n:Int))]++ts) (
  .ins (.pr .len [.a 0])<|
  .ins (.pr (.bin .lss) [.a 4,.a 5])<|
  .ite 6 (EN fs.length fs gs 0 2 7 λc p=>.ins (.pr (.bin .add) [.a 4,.k (.int .i64 1)])<| .go 0 [.a c,.a 3,.a p])
  (.ins (.pr .bM [.a 2])<| .ret [.a 7])))) (λi=>[.c (.int .i64 ((dg (de fs) n (xs.take i)).1:Int)),.c (.int .i64 0),.c (.int .i64 (i:Int))]) ?_ ?_ rounds (by unfold rounds;omega)
 ·exact key
 ·intro i hi self
  obtain⟨r,hr⟩:=JX hi
  have GJ:=h3 r (Cn hr)
  have hbr:=Ci hr
  have gE:=VO (g:=de fs) n hr
  have BI:=VN (g:=de fs) hr n
  have mH:=ki (i+1)
  have pw:=qq_ hr
  have hm1:=qM i
  have bf:(i:Int)<xs.length:=by omega
  have e3:IntKind.i64.wrap ((i:Int)+1)=((i+1:Nat):Int):=by rw[zv (by omega) (by omega)];simp
  generalize hN:(dg (de fs) n (xs.take i)).1=N at*
  have hlw:=My fs N r qp.2 GJ (by omega)
  simp only[jA,nz,List.map_cons,List.map_nil,fx,eb,List.cons_append,List.nil_append,List.getD_cons_zero,List.getD_cons_succ,eB,pY,RP,qb,bf,decide_true,og,cond_true]
  refine GQ gE (by rw[hlw.1.length]) fs gs 0 2 7 _ _ N r hS qp.2 GJ (by omega) (by omega) (by rw[List.drop_zero]) rfl (by omega) rfl rfl (by omega) rfl ?_
  intro c' p' B h1 h4 h5
  have h6:=GP (ρ:=[T.l (dg (de fs) n xs).2,.c (.int .i64 (n:Int)),.c (.int .i64 (N:Int)),.c (.int .i64 0),.c (.int .i64 (i:Int)),.c (.int .i64 (xs.length:Int)),.c (.bool true)]++B) (B:=[]) (t:=.c (.int .i64 ((i+1:Nat):Int)))
  rw[h1]at h6
  have h7:=oh h5 (by rw[h1];exact h4) [.c (.int .i64 ((i+1:Nat):Int))]
  simp only[List.cons_append,List.nil_append,List.append_assoc]at h6 h7
  simp only[jA,uc,List.map_cons,List.map_nil,fx,eb,List.cons_append,List.nil_append,List.append_assoc,List.getD_cons_zero,List.getD_cons_succ,eB,zx,e3,h6,h7,BI]
 ·intro self
  have:xs.take xs.length=xs:=List.take_length
  simp only[this,rN,jA,nz,List.map_cons,List.map_nil,fx,eb,List.cons_append,List.nil_append,List.getD_cons_zero,List.getD_cons_succ,eB,pY,RP,qb,Int.lt_irrefl,decide_false,og,cond_false,EK]
set_option linter.unusedSimpArgs false
abbrev Pt:=List (Nat×Nat×Nat)
def fP:Pt->T->Option T
 | [],t=>some t
 |(i,w,j)::P,.l xs=>(xs[i]?).bind λr=>if r.length=w then(r[j]?).bind λt=>t.rows.bind λys=>fP P (.l ys)else none
 |_::_,.c _=>none
def dm:Pt->T->T->T
 | [],_,v=>v
 |(i,w,j)::P,.l xs,v=>.l (setRow xs i j [dm P (((xs[i]?).bind (·[j]?)).getD T.cE) v])
 |_::_,t,_=>t
theorem MA{i w j:Nat}{P:Pt}{t d:T}(h:fP ((i,w,j)::P) t=some d):∃xs r ys,t=.l xs∧xs[i]?=some r∧r.length=w∧r[j]?=some (.l ys)∧fP P (.l ys)=some d:=by
 cases t with
 |c v=>simp[fP]at h
 |l xs=>
  simp only[fP,cN]at h
  obtain⟨r,hr,h⟩:=h
  split at h
  ·rename_i hw
   rw[cN]at h
   obtain⟨u,hu,h⟩:=h
   cases u with
   |c v=>simp[T.rows]at h
   |l ys=>exact⟨xs,r,ys,rfl,hr,hw,hu,by simpa[T.rows]using h⟩
  ·cases h
theorem MB{i w j:Nat}{P:Pt}{xs:List (List T)}{r:List T}{ys:List (List T)}{d:T}(h1:xs[i]?=some r)(h2:r.length=w)(h3:r[j]?=some (.l ys))(h4:fP P (.l ys)=some d):fP ((i,w,j)::P) (.l xs)=some d:=by
 simp[fP,h1,h2,h3,T.rows,h4]
theorem GS{xs:List (List T)}{i:Nat}{a b:List T}{t v:T}{j:Nat}(h:xs[i]?=some (a++t::b))(hj:a.length=j):setRow xs i j [v]=xs.set i (a++v::b):=by
 subst hj
 unfold setRow
 apply List.ext_getElem?
 intro k
 rw[List.getElem?_modify,List.getElem?_set]
 by_cases hk:i=k
 ·subst hk
  have hi:i<xs.length:=(List.getElem?_eq_some_iff.1 h).1
  rw[h]
  simp[hi]
 ·simp[hk]
theorem MC{r:List T}{j:Nat}{t:T}(h:r[j]?=some t):∃a b,r=a++t::b∧a.length=j:=by
 obtain⟨hj,he⟩:=List.getElem?_eq_some_iff.1 h
 refine⟨r.take j,r.drop (j+1),?_,by simp;omega⟩
 rw[<-he,<-List.drop_eq_getElem_cons hj,List.take_append_drop]
theorem aj2{xs:List (List T)}{i:Nat}{r:List T}{t v:T}{j:Nat}(h:xs[i]?=some r)(hj:r[j]?=some t):∃r',(setRow xs i j [v])[i]?=some r'∧r'.length=r.length∧r'[j]?=some v:=by
 obtain⟨a,b,rfl,ha⟩:=MC hj
 have hi:i<xs.length:=(List.getElem?_eq_some_iff.1 h).1
 rw[GS h ha]
 refine⟨a++v::b,by simp[hi],by simp,?_⟩
 subst ha
 simp
theorem Cs:∀{P:Pt} {t d:T} {v:List (List T)},fP P t=some d->fP P (dm P t (.l v))=some (.l v)
 | [],t,d,v,_=>rfl
 |(i,w,j)::P,t,d,v,h=>by
  obtain⟨xs,r,ys,rfl,h1,h2,h3,h4⟩:=MA h
  have ih:=Cs (v:=v) h4
  have e:((xs[i]?).bind (·[j]?)).getD T.cE=.l ys:=by simp[h1,h3]
  simp only[dm,e]
  cases hs:dm P (.l ys) (.l v)with
  |c u=>rw[hs]at ih;cases P with
   |nil=>simp[fP]at ih
   |cons q P=>obtain⟨q1,q2,q3⟩:=q;simp[fP]at ih
  |l zs=>
   obtain⟨r',g1,g2,g3⟩:=aj2 (v:=.l zs) h1 h3
   rw[hs]at ih
   exact MB g1 (by rw[g2,h2]) g3 ih
theorem ME:∀{P:Pt} {t d:T} {v:List (List T)} {v':T},fP P t=some d->dm P (dm P t (.l v)) v'=dm P t v'
 | [],t,d,v,v',_=>rfl
 |(i,w,j)::P,t,d,v,v',h=>by
  obtain⟨xs,r,ys,rfl,h1,h2,h3,h4⟩:=MA h
  have ih:=ME (v:=v) (v':=v') h4
  have e:((xs[i]?).bind (·[j]?)).getD T.cE=.l ys:=by simp[h1,h3]
  obtain⟨a,b,rfl,ha⟩:=MC h3
  have hi:i<xs.length:=(List.getElem?_eq_some_iff.1 h1).1
  have e2:∀u:T,(((setRow xs i j [u])[i]?).bind (·[j]?)).getD T.cE=u:=by
   intro u
   rw[GS h1 ha]
   subst ha
   simp[hi]
  simp only[dm,e,e2,ih]
  congr 1
  have g1:(xs.set i (a++dm P (.l ys) (.l v)::b))[i]?=some (a++dm P (.l ys) (.l v)::b):=by simp[hi]
  rw[GS h1 ha,GS h1 ha,GS g1 ha,List.set_set]
theorem VS{xs:List (List T)}{i:Nat}{r:List T}(h:xs[i]?=some r):xs.set i r=xs:=by
 apply List.ext_getElem?
 intro k
 rw[List.getElem?_set]
 by_cases hk:i=k
 ·subst hk
  have hi:i<xs.length:=(List.getElem?_eq_some_iff.1 h).1
  simp[hi,h.symm]
 ·simp[hk]
theorem MF:∀{P:Pt} {t d:T},fP P t=some d->dm P t d=t
 | [],t,d,h=>by simp only[fP,bG]at h;exact h.symm
 |(i,w,j)::P,t,d,h=>by
  obtain⟨xs,r,ys,rfl,h1,h2,h3,h4⟩:=MA h
  have ih:=MF h4
  have e:((xs[i]?).bind (·[j]?)).getD T.cE=.l ys:=by simp[h1,h3]
  obtain⟨a,b,rfl,ha⟩:=MC h3
  simp only[dm,e,ih]
  rw[GS h1 ha,VS h1]
theorem VT:∀{P Q:Pt} {t:T},fP (P++Q) t=(fP P t).bind (fP Q)
 | [],Q,t=>rfl
 |(i,w,j)::P,Q,.c v=>by simp[fP]
 |(i,w,j)::P,Q,.l xs=>by
  simp only[List.cons_append,fP]
  cases xs[i]? with
  |none=>rfl
  |some r=>
   simp only[Option.bind_some]
   split
   ·cases r[j]? with
    |none=>rfl
    |some u=>
     simp only[Option.bind_some]
     cases u with
     |c v=>rfl
     |l ys=>simp only[T.rows,Option.bind_some];exact VT
   ·rfl
theorem VU:∀{P Q:Pt} {t d v:T},fP P t=some d->dm (P++Q) t v=dm P t (dm Q d v)
 | [],Q,t,d,v,h=>by simp only[fP,bG]at h;subst h;rfl
 |(i,w,j)::P,Q,t,d,v,h=>by
  obtain⟨xs,r,ys,rfl,h1,h2,h3,h4⟩:=MA h
  have e:((xs[i]?).bind (·[j]?)).getD T.cE=.l ys:=by simp[h1,h3]
  simp only[List.cons_append,dm,e,VU h4]
def cR(ρ:List T):Pt->Pt->Prop
 | [],[]=>True
 |(a,w,j)::P,(i,w',j')::Q=>w=w'∧j=j'∧a<ρ.length∧ρ.getD a T.cE=.c (.int .i64 (i:Int))∧cR ρ P Q
 |_,_=>False
theorem cR.ext{ρ:List T}(B:List T):∀{P Q:Pt},cR ρ P Q->cR (ρ++B) P Q
 | [],[],_=>trivial
 |(a,w,j)::P,(i,w',j')::Q,⟨h1,h2,h3,h4,h5⟩=>⟨h1,h2,by simp;omega,oh h4 h3 B,cR.ext B h5⟩
 | [],_::_,h=>h.elim
 |(_,_,_)::_,[],h=>h.elim
theorem cR.snoc{ρ:List T}{a i w j:Nat}(h1:a<ρ.length)(h2:ρ.getD a T.cE=.c (.int .i64 (i:Int))):∀{P Q:Pt},cR ρ P Q->cR ρ (P++[(a,w,j)]) (Q++[(i,w,j)])
 | [],[],_=>⟨rfl,rfl,h1,h2,trivial⟩
 |(a',w',j')::P,(i',w'',j'')::Q,⟨g1,g2,g3,g4,g5⟩=>⟨g1,g2,g3,g4,cR.snoc h1 h2 g5⟩
 | [],_::_,h=>h.elim
 |(_,_,_)::_,[],h=>h.elim
def rQ:Pt->Nat->Nat->(Nat->Nat->PL)->PL
 | [],s,p,k=>k s p
 |(a,w,j)::P,s,p,k=>.ins (.pr (.dE w j) [.a s,.a a]) (rQ P p (p+1) k)
def zI:Pt->Nat->Nat->Nat->Nat->(Nat->Nat->PL)->PL
 | [],_,_,v,p,k=>k v p
 |(a,w,j)::P,e,e',v,p,k=>zI P e' (e'+1) v p λv' p'=>.ins (.pr (.iS w j) [.a e,.a a,.a v']) (k p' (p'+1))
theorem VV{xs:List (List T)}{i w j:Nat}{r:List T}{ys:List (List T)}(h:xs[i]?=some r)(hw:r.length=w)(hj:r[j]?=some (.l ys)):Prim.ev (.dE w j) [.l xs,.c (.int .i64 (i:Int))]=some (.l ys):=by
 simp[Prim.ev,zA h,hw,hj,T.rows]
theorem aj3{xs:List (List T)}{i w j:Nat}{r:List T}{v:T}(h:xs[i]?=some r)(hw:r.length=w)(hj:j<w):Prim.ev (.iS w j) [.l xs,.c (.int .i64 (i:Int)),v]=some (.l (setRow xs i j [v])):=by
 simp[Prim.ev,zA h,hw,hj,T.rows,T.int]
def ld:Pt->T->List T
 | [],_=>[]
 |(i,w,j)::P,t=>match fP [(i,w,j)] t with
  |some u=>u::ld P u
  |none=>[]
theorem MG{i w j:Nat}{P:Pt}{xs:List (List T)}{r:List T}{ys:List (List T)}(h1:xs[i]?=some r)(h2:r.length=w)(h3:r[j]?=some (.l ys)):ld ((i,w,j)::P) (.l xs)=.l ys::ld P (.l ys):=by
 simp only[ld,MB h1 h2 h3 (P:=[]) rfl]
section
variable {S:Nat->af} {R:Nat} {K:List af} {out:Option (List T)}
theorem J0:∀{P Q:Pt} {s p:Nat} {k:Nat->Nat->PL} {ρ:List T} {t d:T},cR ρ P Q->fP Q t=some d->ρ.length=p->s<p->ρ.getD s T.cE=t->
  (∀e,(ld Q t).length=P.length->e<p+P.length->(ρ++ld Q t).getD e T.cE=d->PL.den S R K (ρ++ld Q t) (k e (p+P.length))=out)->PL.den S R K ρ (rQ P s p k)=out
 | [],[],s,p,k,ρ,t,d,_,hg,hp,hs,ht,hk=>by
  simp only[fP,bG]at hg
  subst hg
  have:=hk s rfl (by simpa using hs) (by simpa[ld]using ht)
  simpa[ld,rQ]using this
 |(a,w,j)::P,(i,w',j')::Q,s,p,k,ρ,t,d,⟨z1,z2,h3,h4,h5⟩,hg,hp,hs,ht,hk=>by
  subst z1 z2
  obtain⟨xs,r,ys,rfl,g1,g2,g3,g4⟩:=MA hg
  rw[MG g1 g2 g3]at hk
  simp only[rQ,jA,List.map_cons,List.map_nil,eb,ht,h4,VV g1 g2 g3,eB]
  refine J0 (cR.ext _ h5) g4 (by simp[hp]) (by omega) (by rw[<-hp];exact GP) λe he1 he2 he3=>?_
  rw[List.append_assoc]at he3⊢
  have:=hk e (by simp[he1]) (by simp;omega) he3
  simpa[Nat.add_assoc,Nat.add_comm 1]using this
 | [],_::_,_,_,_,_,_,_,h,_,_,_,_,_=>h.elim
 |(_,_,_)::_,[],_,_,_,_,_,_,h,_,_,_,_,_=>h.elim
theorem VW:∀{P Q:Pt} {e e' v p:Nat} {k:Nat->Nat->PL} {ρ:List T} {t d vv:T},cR ρ P Q->fP Q t=some d->ρ.length=p->e<p->ρ.getD e T.cE=t->(∀m x,(ld Q t)[m]?=some x->e'+m<p∧ρ.getD (e'+m) T.cE=x)->v<p->ρ.getD v T.cE=vv->
  (∀(B:List T) (v' p':Nat),(ρ++B).length=p'->v'<p'->(ρ++B).getD v' T.cE=dm Q t vv->PL.den S R K (ρ++B) (k v' p')=out)->PL.den S R K ρ (zI P e e' v p k)=out
 | [],[],e,e',v,p,k,ρ,t,d,vv,_,hg,hp,he,ht,hc,hv,tT,hk=>by
  have:=hk [] v p (by simpa using hp) hv (by simpa[dm]using tT)
  simpa[zI]using this
 |(a,w,j)::P,(i,w',j')::Q,e,e',v,p,k,ρ,t,d,vv,⟨z1,z2,h3,h4,h5⟩,hg,hp,he,ht,hc,hv,tT,hk=>by
  subst z1 z2
  obtain⟨xs,r,ys,rfl,g1,g2,g3,g4⟩:=MA hg
  rw[MG g1 g2 g3]at hc
  have c0:=hc 0 _ rfl
  have hjw:j<w:=by rw[<-g2];exact(List.getElem?_eq_some_iff.1 g3).1
  rw[show zI ((a,w,j)::P) e e' v p k=zI P e' (e'+1) v p (λv' p'=>.ins (.pr (.iS w j) [.a e,.a a,.a v']) (k p' (p'+1))) from rfl]
  refine VW h5 g4 hp c0.1 c0.2 (λm x hm=>?_) hv tT λB v' p' q1 q2 q3=>?_
  ·have:=hc (m+1) x (by simpa using hm)
   rw[show e'+1+m=e'+(m+1) by omega]
   exact this
  ·have x1:=oh ht (by omega) B
   have x2:=oh h4 h3 B
   simp only[jA,List.map_cons,List.map_nil,eb,x1,x2,q3,aj3 g1 g2 hjw,eB]
   rw[List.append_assoc]
   have e0:((xs[i]?).bind (·[j]?)).getD T.cE=.l ys:=by simp[g1,g3]
   refine hk _ p' (p'+1) (by simp at q1⊢;omega) (by omega) ?_
   rw[<-List.append_assoc,<-q1,GP]
   simp only[dm,e0]
 | [],_::_,_,_,_,_,_,_,_,_,_,h,_,_,_,_,_,_,_,_=>h.elim
 |(_,_,_)::_,[],_,_,_,_,_,_,_,_,_,h,_,_,_,_,_,_,_,_=>h.elim
def GU(P:Pt)(k w j s v p:Nat)(cont:Nat->Nat->PL):PL:=
 rQ P s p λd p1=>.ins (.pr .dC [.a d,.a k])<|rQ P s (p1+1) λd2 p2=>.ins (.pr (.put true w j 1) [.a d2,.a k,.a v])<|
  match P with
  | []=>cont p2 (p2+1)
  |_::_=>rQ P s (p2+1) λ_ p3=>zI P s (p2+1) p2 p3 cont
theorem VX{P Q:Pt}{k w j s v p kv:Nat}{cont:Nat->Nat->PL}{ρ:List T}{t vv:T}{xs:List (List T)}{r:List T}(hP:cR ρ P Q)(hg:fP Q t=some (.l xs))(hp:ρ.length=p)(hs:s<p)(ht:ρ.getD s T.cE=t)
  (hkp:k<p)(hk:ρ.getD k T.cE=.c (.int .i64 (kv:Int)))(hv:v<p)(tT:ρ.getD v T.cE=vv)(mF:eQ vv=true)(hr:xs[kv]?=some r)(hw:r.length=w)(hj:j<w)
  (hc:∀(B:List T) (s' p':Nat),(ρ++B).length=p'->s'<p'->(ρ++B).getD s' T.cE=dm Q t (.l (setRow xs kv j [vv]))->PL.den S R K (ρ++B) (cont s' p')=out):PL.den S R K ρ (GU P k w j s v p cont)=out:=by
 have jP:=GI (sc:=true) (k:=.i64) (off:=j) (n:=1) (vs:=[vv]) hr hw (by omega) rfl (by simp[mF])
 unfold GU
 refine J0 hP hg hp hs ht λe a1 a2 a3=>?_
 have l1:(ρ++ld Q t).length=p+P.length:=by simp[hp,a1]
 simp only[jA,List.map_cons,List.map_nil,eb,a3,oh hk (by omega) _,yb hr,eB,List.append_assoc]
 refine J0 (cR.ext _ hP) hg (by simp[hp,a1];omega) (by omega) (oh ht (by omega) _) λe2 b1 b2 b3=>?_
 simp only[List.append_assoc]at b3⊢
 simp only[jA,List.map_cons,List.map_nil,eb,b3,oh hk (by omega) _,oh tT (by omega) _,jP,eB,List.append_assoc]
 cases P with
 |nil=>
  cases Q with
  |cons _ _=>exact hP.elim
  |nil=>
   simp only[fP,bG]at hg
   refine hc _ _ _ (by simp[hp,ld]) (by simp) ?_
   simp only[ld,List.nil_append,List.length_nil,Nat.add_zero,List.cons_append]
   rw[show p+1=p+1 from rfl,ve hp]
   rfl
 |cons q P=>
  simp only
  refine J0 (cR.ext _ hP) hg (by simp[hp,a1];omega) (by omega) (oh ht (by omega) _) λe3 c1 c2 c3=>?_
  simp only[List.append_assoc]at c3⊢
  have l3:(ρ++(ld Q t++([T.c (.bool true)]++(ld Q t++([T.l (setRow xs kv j [vv])]++ld Q t))))).length=p+(q::P).length+1+(q::P).length+1+(q::P).length:=by simp[hp,a1];omega
  refine VW (cR.ext _ hP) hg l3 (by omega) (oh ht (by omega) _) (λm x hm=>?_) (by omega) (vv:=.l (setRow xs kv j [vv])) ?_ λB s' p' d1 d2 d3=>?_
  ·have hml:m<(ld Q t).length:=(List.getElem?_eq_some_iff.1 hm).1
   refine⟨by omega,?_⟩
   have:=ve (ρ:=ρ++(ld Q t++([T.c (.bool true)]++(ld Q t++[T.l (setRow xs kv j [vv])])))) (p:=p+(q::P).length+1+(q::P).length+1) (by simp[hp,a1];omega) m (ld Q t)
   simp only[List.append_assoc]at this
   rw[this]
   simp[List.getD,hm]
  ·have:=ve (ρ:=ρ++(ld Q t++([T.c (.bool true)]++ld Q t))) (p:=p+(q::P).length+1+(q::P).length) (by simp[hp,a1];omega) 0 ([T.l (setRow xs kv j [vv])]++ld Q t)
   simp only[List.append_assoc,Nat.add_zero]at this
   rw[this]
   rfl
  ·rw[List.append_assoc]at d1 d3⊢
   exact hc _ s' p' d1 d2 d3
end
set_option linter.unusedSimpArgs false
abbrev xe:=Pt->Nat->Nat->Nat->Nat->Nat->(Nat->Nat->Nat->Nat->PL)->PL
def RQ(p6:xe)(P:Pt)(cl:Lf)(s p:Nat)(cont:Nat->Nat->Nat->PL):PL:=
 .loop [cl,.k (.int .i64 0),.a s] (rQ P (p+2) (p+3) λd p1=>.ins (.pr .len [.a d])<| .ins (.pr (.bin .lss) [.a (p+1),.a p1])<|
  .ite (p1+1) (p6 P (p+1) (p+2) p (p1+2) 0 λs c p' q=>.ins (.pr (.bin .add) [.a (p+1),.k (.int .i64 1)])<| .go q [.a c,.a p',.a s]) (cont p (p+2) (p1+2)))
mutual
def Cu:Ty->Nat->Nat->xe
 | .i _,w,j,P,k,s,c,p,q,cont=>GU P k w j s c p λs' p'=>.ins (.pr (.bin .add) [.a c,.k (.int .i64 1)]) (cont s' p' (p'+1) q)
 | .b,w,j,P,k,s,c,p,q,cont=>.ins (.pr (.bin .rem) [.a c,.k (.int .i64 3)])<| .ins (.pr (.bin .eql) [.a p,.k (.int .i64 0)])<|
   GU P k w j s (p+1) (p+2) λs' p'=>.ins (.pr (.bin .add) [.a c,.k (.int .i64 1)]) (cont s' p' (p'+1) q)
 | .s,w,j,P,k,s,c,p,q,cont=>cont s c p q
 | .sl es,w,j,P,k,s,c,p,q,cont=>rQ P s p λd p1=>.ins (.pr .dC [.a d,.a k])<|rQ P s (p1+1) λd2 p2=>.ins (.pr (.dE w j) [.a d2,.a k])<|
   RQ (vg es es.length 0) (P++[(k,w,j)]) (.a c) s (p2+1) λc' s' p'=>cont s' c' p' (q+1)
def vg:List Ty->Nat->Nat->xe
 | [],w,j,P,k,s,c,p,q,cont=>cont s c p q
 |f::fs,w,j,P,k,s,c,p,q,cont=>Cu f w j P k s c p q λs' c' p' q'=>vg fs w (j+1) P k s' c' p' q' cont
end
def RR(S:Nat->af)(w:Nat)(fs:List Ty)(j:Nat)(p6:xe):Prop:=
 ∀(out:Option (List T)) (K:List af) (P Q:Pt) (k s c p q kv n:Nat) (cont:Nat->Nat->Nat->Nat->PL) (ρ:List T) (t:T) (xs:List (List T)) (dn ts:List T),cR ρ P Q->fP Q t=some (.l xs)->ρ.length=p->s<p->ρ.getD s T.cE=t->
  k<p->ρ.getD k T.cE=.c (.int .i64 (kv:Int))->c<p->ρ.getD c T.cE=.c (.int .i64 (n:Int))->xs[kv]?=some (dn++ts)->dn.length=j->(dn++ts).length=w->cW fs ts->lN ts<=1048576->n+fs.length+64*lN ts<=1099511627776->
  (∀(Ks:List af) (B:List T) (s' c' p':Nat),(ρ++B).length=p'->s'<p'->c'<p'->(ρ++B).getD c' T.cE=.c (.int .i64 ((de fs n ts).1:Int))->(ρ++B).getD s' T.cE=dm Q t (.l (xs.set kv (dn++(de fs n ts).2)))->
   PL.den S rounds (Ks++K) (ρ++B) (cont s' c' p' (q+Ks.length))=out)->PL.den S rounds K ρ (p6 P k s c p q cont)=out
theorem VY{S:Nat->af}{R:Nat}{f:af}{K:List af}{ρ:List T}(xs:List Lf):∀Ks:List af,PL.den S R (Ks++f::K) ρ (.go Ks.length xs)=f (xs.map (Lf.ev ρ))
 | []=>by simp only[List.nil_append,List.length_nil,uc]
 |g::Ks=>by simp only[List.cons_append,List.length_cons,Vz];exact VY xs Ks
theorem VZ{S:Nat->af}{out:Option (List T)}{K:List af}{es:List Ty}{p6:xe}(hF:RR S es.length es 0 p6)(hl:es.length<=64)(hm:mA es=true){P Q:Pt}{cl:Lf}{s p n:Nat}{cont:Nat->Nat->Nat->PL}{ρ:List T}{t:T}{xs:List (List T)}
  (hP:cR ρ P Q)(hg:fP Q t=some (.l xs))(hp:ρ.length=p)(hs:s<p)(ht:ρ.getD s T.cE=t)(hc:Lf.ev ρ cl=.c (.int .i64 (n:Int)))(hw:∀r∈xs,cW es r)(hb:gV xs<=1048576)(hn:n+64*gV xs<=1099511627776)
  (hk:∀f:af,PL.den S rounds (f::K) (ρ++([T.c (.int .i64 ((dg (de es) n xs).1:Int)),T.c (.int .i64 (xs.length:Int)),dm Q t (.l (dg (de es) n xs).2)]++(ld Q (dm Q t (.l (dg (de es) n xs).2))++[T.c (.int .i64 (xs.length:Int)),T.c (.bool false)])))
   (cont p (p+2) (p+3+P.length+2))=out):PL.den S rounds K ρ (RQ p6 P cl s p cont)=out:=by
 have hlen:=GC xs
 have ki:∀i,gV (xs.take i)<=gV xs:=by
  intro i
  have:=Vq (xs.take i) (xs.drop i)
  rw[List.take_append_drop]at this
  omega
 have qM:=λi=>GM (g:=de es) (xs:=xs.take i) (λm r hr=>by
  have:=zH es m r hm (hw r (List.mem_of_mem_take hr))
  omega) n
 unfold RQ
 rw[w9]
 simp only[List.map_cons,List.map_nil,hc,fx,eb,ht]
 have j9:∀i,(dg (de es) n (xs.take i)).2.length=(xs.take i).length:=λi=>RP _ _
 refine ajX (n:=xs.length) (Inv:=λi x=>x=[T.c (.int .i64 ((dg (de es) n (xs.take i)).1:Int)),T.c (.int .i64 (i:Int)),dm Q t (.l ((dg (de es) n (xs.take i)).2++xs.drop i))]) (Q:=λo=>o=out) ?_ ?_ ?_ (by unfold rounds;omega)
 ·rintro i x hi rfl self
  left
  refine⟨_,rfl,?_⟩
  obtain⟨r,hr⟩:=JX hi
  have GJ:=hw r (Cn hr)
  have hbr:=Ci hr
  have mH:=ki (i+1)
  have pw:=qq_ hr
  have hm1:=qM i
  have BI:=VN (g:=de es) hr n
  have S2:=j9 i
  have hil:(xs.take i).length=i:=by simp;omega
  have bf:(i:Int)<xs.length:=by omega
  have e3:IntKind.i64.wrap ((i:Int)+1)=((i+1:Nat):Int):=by rw[zv (by omega) (by omega)];simp
  generalize hN:(dg (de es) n (xs.take i)).1=N at*
  generalize hA:(dg (de es) n (xs.take i)).2=A at*
  have hdr:xs.drop i=r::xs.drop (i+1):=by
   rw[List.drop_eq_getElem_cons hi]
   rw[List.getElem?_eq_getElem hi]at hr
   cases hr
   rfl
  have hgi:=Cs (v:=A++xs.drop i) hg
  have U9:(A++xs.drop i)[i]?=some r:=by
   rw[List.getElem?_append_right (by omega),hdr,S2,hil,Nat.sub_self]
   rfl
  have GV:(A++xs.drop i).length=xs.length:=by simp;omega
  refine J0 (cR.ext _ hP) hgi (s:=p+2) (p:=p+3) (by simp[hp]) (by omega) (by rw[ve hp];rfl) λd a1 a2 a3=>?_
  have vh:(ρ++[T.c (.int .i64 (N:Int)),T.c (.int .i64 (i:Int)),dm Q t (.l (A++xs.drop i))]++ld Q (dm Q t (.l (A++xs.drop i)))).length=p+3+P.length:=by simp[hp,a1];omega
  have x1:∀B,(ρ++[T.c (.int .i64 (N:Int)),T.c (.int .i64 (i:Int)),dm Q t (.l (A++xs.drop i))]++ld Q (dm Q t (.l (A++xs.drop i)))++B).getD (p+1) T.cE=.c (.int .i64 (i:Int)):=λB=>by
   rw[List.append_assoc,List.append_assoc,ve hp];rfl
  have x0:∀B,(ρ++[T.c (.int .i64 (N:Int)),T.c (.int .i64 (i:Int)),dm Q t (.l (A++xs.drop i))]++ld Q (dm Q t (.l (A++xs.drop i)))++B).getD p T.cE=.c (.int .i64 (N:Int)):=λB=>by
   have:=ve hp 0 ([T.c (.int .i64 (N:Int)),T.c (.int .i64 (i:Int)),dm Q t (.l (A++xs.drop i))]++(ld Q (dm Q t (.l (A++xs.drop i)))++B))
   rw[List.append_assoc,List.append_assoc];exact this
  have x2:∀B,(ρ++[T.c (.int .i64 (N:Int)),T.c (.int .i64 (i:Int)),dm Q t (.l (A++xs.drop i))]++ld Q (dm Q t (.l (A++xs.drop i)))++B).getD (p+2) T.cE=dm Q t (.l (A++xs.drop i)):=λB=>by
   rw[List.append_assoc,List.append_assoc,ve hp];rfl
  have hPx:∀B,cR (ρ++[T.c (.int .i64 (N:Int)),T.c (.int .i64 (i:Int)),dm Q t (.l (A++xs.drop i))]++ld Q (dm Q t (.l (A++xs.drop i)))++B) P Q:=λB=>by
   rw[List.append_assoc,List.append_assoc];exact cR.ext _ hP
  generalize ny:ρ++[T.c (.int .i64 (N:Int)),T.c (.int .i64 (i:Int)),dm Q t (.l (A++xs.drop i))]++ld Q (dm Q t (.l (A++xs.drop i)))=ρ1 at*
  have y1:=x1 [T.c (.int .i64 (xs.length:Int))]
  have y2:(ρ1++[T.c (.int .i64 (xs.length:Int))]).getD (p+3+P.length) T.cE=.c (.int .i64 (xs.length:Int)):=by rw[<-vh];exact GP
  have y3:(ρ1++[T.c (.int .i64 (xs.length:Int)),T.c (.bool true)]).getD (p+3+P.length+1) T.cE=.c (.bool true):=by rw[ve vh];rfl
  simp only[jA,nz,List.map_cons,List.map_nil,eb,a3,pY,GV,eB,y1,y2,qb,bf,decide_true,List.append_assoc,List.cons_append,List.nil_append,y3,og,cond_true]
  refine hF _ (self::K) P Q (p+1) (p+2) p (p+3+P.length+2) 0 i N _ _ _ (A++xs.drop i) [] r (hPx _) hgi (by simp only[List.length_append,vh,List.length_cons,List.length_nil]) (by omega) (x2 _) (by omega) (x1 _) (by omega) (x0 _) U9 rfl GJ.length GJ (by omega) (by omega) ?_
  intro Ks B s' c' p' q1 q2 q3 q4 q5
  have z1:(ρ1++([T.c (.int .i64 (xs.length:Int)),T.c (.bool true)]++B)).getD (p+1) T.cE=.c (.int .i64 (i:Int)):=x1 _
  rw[List.append_assoc]at q1 q4 q5⊢
  have z2:((ρ1++([T.c (.int .i64 (xs.length:Int)),T.c (.bool true)]++B))++[T.c (.int .i64 ((i+1:Nat):Int))]).getD p' T.cE=.c (.int .i64 ((i+1:Nat):Int)):=by rw[<-q1];exact GP
  have z3:=oh q4 (by rw[q1];exact q3) [T.c (.int .i64 ((i+1:Nat):Int))]
  have z4:=oh q5 (by rw[q1];exact q2) [T.c (.int .i64 ((i+1:Nat):Int))]
  rw[jA]
  simp only[List.map_cons,List.map_nil,eb,fx,z1,zx,e3,eB,Nat.zero_add]
  rw[VY]
  simp only[List.map_cons,List.map_nil,eb,z2,z3,z4]
  rw[BI]
  congr 4
  rw[ME hg]
  congr 2
  rw[hdr,List.set_append_right _ _ (by omega),S2,hil,Nat.sub_self]
  simp
 ·rintro x rfl self
  rw[show xs.take xs.length=xs from List.take_length,show xs.drop xs.length=[] from List.drop_length,List.append_nil]
  have hgi:=Cs (v:=(dg (de es) n xs).2) hg
  refine J0 (cR.ext _ hP) hgi (s:=p+2) (p:=p+3) (by simp[hp]) (by omega) (by rw[ve hp];rfl) λd a1 a2 a3=>?_
  have vh:(ρ++[T.c (.int .i64 ((dg (de es) n xs).1:Int)),T.c (.int .i64 (xs.length:Int)),dm Q t (.l (dg (de es) n xs).2)]++ld Q (dm Q t (.l (dg (de es) n xs).2))).length=p+3+P.length:=by simp[hp,a1];omega
  have x1:∀B,(ρ++[T.c (.int .i64 ((dg (de es) n xs).1:Int)),T.c (.int .i64 (xs.length:Int)),dm Q t (.l (dg (de es) n xs).2)]++ld Q (dm Q t (.l (dg (de es) n xs).2))++B).getD (p+1) T.cE=.c (.int .i64 (xs.length:Int)):=λB=>by
   rw[List.append_assoc,List.append_assoc,ve hp];rfl
  have x0:∀B,(ρ++([T.c (.int .i64 ((dg (de es) n xs).1:Int)),T.c (.int .i64 (xs.length:Int)),dm Q t (.l (dg (de es) n xs).2)]++(ld Q (dm Q t (.l (dg (de es) n xs).2))++B))).getD p T.cE=.c (.int .i64 ((dg (de es) n xs).1:Int)):=λB=>ve hp 0 _
  have x2:∀B,(ρ++([T.c (.int .i64 ((dg (de es) n xs).1:Int)),T.c (.int .i64 (xs.length:Int)),dm Q t (.l (dg (de es) n xs).2)]++(ld Q (dm Q t (.l (dg (de es) n xs).2))++B))).getD (p+2) T.cE=dm Q t (.l (dg (de es) n xs).2):=λB=>by
   rw[ve hp];rfl
  have y1:=x1 [T.c (.int .i64 (xs.length:Int))]
  have y2:(ρ++[T.c (.int .i64 ((dg (de es) n xs).1:Int)),T.c (.int .i64 (xs.length:Int)),dm Q t (.l (dg (de es) n xs).2)]++ld Q (dm Q t (.l (dg (de es) n xs).2))++[T.c (.int .i64 (xs.length:Int))]).getD (p+3+P.length) T.cE=.c (.int .i64 (xs.length:Int)):=by rw[<-vh];exact GP
  have y3:(ρ++[T.c (.int .i64 ((dg (de es) n xs).1:Int)),T.c (.int .i64 (xs.length:Int)),dm Q t (.l (dg (de es) n xs).2)]++ld Q (dm Q t (.l (dg (de es) n xs).2))++[T.c (.int .i64 (xs.length:Int)),T.c (.bool false)]).getD (p+3+P.length+1) T.cE=.c (.bool false):=by rw[ve vh];rfl
  rw[jA]
  simp only[List.map_cons,List.map_nil,eb,a3,pY,RP,eB]
  rw[jA]
  simp only[List.map_cons,List.map_nil,eb,y1,y2,qb,Int.lt_irrefl,decide_false,eB]
  rw[nz,List.append_assoc _ [_] [_]]
  simp only[List.cons_append,List.nil_append]at y3⊢
  rw[y3]
  simp only[og,cond_false]
  have:=hk self
  simpa using this
 ·rw[List.take_zero,List.drop_zero]
  simp only[dg,List.nil_append,MF hg]
  rfl
theorem aj4{S:Nat->af}{out:Option (List T)}{K:List af}{es:List Ty}{p6:xe}(hF:RR S es.length es 0 p6)(hl:es.length<=64)(hm:mA es=true){P Q:Pt}{cl:Lf}{s p n:Nat}{cont:Nat->Nat->Nat->PL}{ρ:List T}{t:T}{xs:List (List T)}
  (hP:cR ρ P Q)(hg:fP Q t=some (.l xs))(hp:ρ.length=p)(hs:s<p)(ht:ρ.getD s T.cE=t)(hc:Lf.ev ρ cl=.c (.int .i64 (n:Int)))(hw:∀r∈xs,cW es r)(hb:gV xs<=1048576)(hn:n+64*gV xs<=1099511627776)
  (hk:∀(f:af) (B:List T) (c' s' p':Nat),(ρ++B).length=p'->c'<p'->s'<p'->(ρ++B).getD c' T.cE=.c (.int .i64 ((dg (de es) n xs).1:Int))->(ρ++B).getD s' T.cE=dm Q t (.l (dg (de es) n xs).2)->
   PL.den S rounds (f::K) (ρ++B) (cont c' s' p')=out):PL.den S rounds K ρ (RQ p6 P cl s p cont)=out:=by
 refine VZ hF hl hm hP hg hp hs ht hc hw hb hn λf=>?_
 have hPQ:∀{P Q:Pt} {t d:T},cR ρ P Q->fP Q t=some d->(ld Q t).length=P.length:=by
  intro P
  induction P with
  |nil=>intro Q t d hP hg;cases Q with
   |nil=>rfl
   |cons _ _=>exact hP.elim
  |cons q P ih=>
   intro Q t d hP hg
   obtain⟨a,w,j⟩:=q
   cases Q with
   |nil=>exact hP.elim
   |cons q Q=>
    obtain⟨i,w',j'⟩:=q
    obtain⟨_,_,_,_,h5⟩:=hP
    obtain⟨xs,r,ys,rfl,g1,g2,g3,g4⟩:=MA hg
    rw[MG g1 g2 g3,List.length_cons,List.length_cons,ih h5 g4]
 have pE:=hPQ hP (Cs (v:=(dg (de es) n xs).2) hg)
 refine hk f _ _ _ _ (by simp[hp,pE];omega) (by omega) (by omega) ?_ ?_
 ·exact ve hp 0 _
 ·rw[ve hp];rfl
theorem aj5{S:Nat->af}{out:Option (List T)}{K:List af}{es:List Ty}{p6:xe}(hF:RR S es.length es 0 p6)(hl:es.length<=64)(hm:mA es=true){cl:Lf}{s p n:Nat}{rest:PL}{ρ:List T}{xs:List (List T)}
  (hp:ρ.length=p)(hs:s<p)(ht:ρ.getD s T.cE=.l xs)(hc:Lf.ev ρ cl=.c (.int .i64 (n:Int)))(hw:∀r∈xs,cW es r)(hb:gV xs<=1048576)(hn:n+64*gV xs<=1099511627776)
  (hk:∀f:af,PL.den S rounds (f::K) (ρ++[T.c (.int .i64 ((dg (de es) n xs).1:Int)),T.c (.int .i64 (xs.length:Int)),.l (dg (de es) n xs).2,T.c (.int .i64 (xs.length:Int)),T.c (.bool false)]) rest=out):
  PL.den S rounds K ρ (RQ p6 [] cl s p λ_ _ _=>rest)=out:=
 VZ hF hl hm (P:=[]) (Q:=[]) trivial rfl hp hs ht hc hw hb hn hk
set_option linter.unusedSimpArgs false
def TOk(S:Nat->af)(f:Ty):Prop:=
 ∀(w j:Nat) (out:Option (List T)) (K:List af) (P Q:Pt) (k s c p q kv n:Nat) (cont:Nat->Nat->Nat->Nat->PL) (ρ:List T) (t:T) (xs:List (List T)) (dn ts:List T) (u:T),cR ρ P Q->fP Q t=some (.l xs)->ρ.length=p->s<p->ρ.getD s T.cE=t->
  k<p->ρ.getD k T.cE=.c (.int .i64 (kv:Int))->c<p->ρ.getD c T.cE=.c (.int .i64 (n:Int))->xs[kv]?=some (dn++u::ts)->dn.length=j->(dn++u::ts).length=w->WT f u->bulk u<=1048576->n+1+64*bulk u<=1099511627776->
  (∀(Ks:List af) (B:List T) (s' c' p':Nat),(ρ++B).length=p'->s'<p'->c'<p'->(ρ++B).getD c' T.cE=.c (.int .i64 ((pZ f n u).1:Int))->(ρ++B).getD s' T.cE=dm Q t (.l (xs.set kv (dn++(pZ f n u).2::ts)))->
   PL.den S rounds (Ks++K) (ρ++B) (cont s' c' p' (q+Ks.length))=out)->PL.den S rounds K ρ (Cu f w j P k s c p q cont)=out
theorem aj6{S:Nat->af}:TOk S (.i .i64):=by
 intro w j out K P Q k s c p q kv n cont ρ t xs dn ts u hP hg hp hs ht hk zn hc hn hr hj hw hu hb AB jF
 rw[zE]at jF
 have e3:IntKind.i64.wrap ((n:Int)+1)=((n+1:Nat):Int):=by rw[zv (by omega) (by omega)];simp
 simp only[Cu]
 refine VX hP hg hp hs ht hk zn hc hn rfl hr hw (by simp at hw;omega) λB s' p' q1 q2 q3=>?_
 have x:=oh hn (by omega) B
 rw[jA]
 simp only[List.map_cons,List.map_nil,eb,fx,x,zx,e3,eB,List.append_assoc]
 rw[GS hr hj]at q3
 refine jF [] _ s' p' (p'+1) (by simp at q1⊢;omega) (by omega) (by omega) ?_ ?_
 ·rw[<-List.append_assoc,<-q1];exact GP
 ·rw[<-List.append_assoc];exact oh q3 (by rw[q1];exact q2) _
theorem aj7{S:Nat->af}:TOk S .b:=by
 intro w j out K P Q k s c p q kv n cont ρ t xs dn ts u hP hg hp hs ht hk zn hc hn hr hj hw hu hb AB jF
 rw[zF]at jF
 have e3:IntKind.i64.wrap ((n:Int)+1)=((n+1:Nat):Int):=by rw[zv (by omega) (by omega)];simp
 have Mz:(((n%3:Nat):Int)==(0:Int))=(n%3==0):=VR (n%3) 0
 have y1:(ρ++[T.c (.int .i64 ((n%3:Nat):Int))]).getD p T.cE=.c (.int .i64 ((n%3:Nat):Int)):=by rw[<-hp];exact GP
 simp only[Cu]
 rw[jA]
 simp only[List.map_cons,List.map_nil,eb,fx,hn,VQ,eB]
 rw[jA]
 simp only[List.map_cons,List.map_nil,eb,fx,y1,GF,Mz,eB,List.append_assoc,List.cons_append,List.nil_append]
 have y2:(ρ++[T.c (.int .i64 ((n%3:Nat):Int)),T.c (.bool (n%3==0))]).getD (p+1) T.cE=T.c (.bool (n%3==0)):=by rw[ve hp];rfl
 refine VX (cR.ext _ hP) hg (by simp[hp]) (by omega) (oh ht (by omega) _) (by omega) (oh zn (by omega) _) (by omega) y2 rfl hr hw (by simp at hw;omega) λB s' p' q1 q2 q3=>?_
 simp only[List.append_assoc]at q1 q3⊢
 have x:=oh hn (by omega) ([T.c (.int .i64 ((n%3:Nat):Int)),T.c (.bool (n%3==0))]++B)
 rw[jA]
 simp only[List.map_cons,List.map_nil,eb,fx,x,zx,e3,eB]
 rw[GS hr hj]at q3
 rw[List.append_assoc]
 refine jF [] _ s' p' (p'+1) (by simp at q1⊢;omega) (by omega) (by omega) ?_ ?_
 ·rw[<-List.append_assoc,<-q1];exact GP
 ·rw[<-List.append_assoc];exact oh q3 (by rw[q1];exact q2) _
theorem aj8{S:Nat->af}{es:List Ty}(hF:RR S es.length es 0 (vg es es.length 0))(hl:es.length<=64)(hm:mA es=true):TOk S (.sl es):=by
 intro w j out K P Q k s c p q kv n cont ρ t xs dn ts u hP hg hp hs ht hk zn hc hn hr hj hw hu hb AB jF
 unfold WT at hu
 obtain⟨ys,rfl,_,hy⟩:=hu
 rw[Cr]at jF
 rw[fv]at hb AB
 have JG:(dn++T.l ys::ts)[j]?=some (.l ys):=by subst hj;simp
 have S9:fP (Q++[(kv,w,j)]) t=some (.l ys):=by rw[VT,hg];exact MB hr hw JG rfl
 simp only[Cu]
 refine J0 hP hg hp hs ht λe a1 a2 a3=>?_
 rw[jA]
 simp only[List.map_cons,List.map_nil,eb,a3,oh zn (by omega) _,yb hr,eB,List.append_assoc]
 refine J0 (cR.ext _ hP) hg (by simp[hp,a1];omega) (by omega) (oh ht (by omega) _) λe2 b1 b2 b3=>?_
 simp only[List.append_assoc]at b3⊢
 rw[jA]
 simp only[List.map_cons,List.map_nil,eb,b3,oh zn (by omega) _,VV hr hw JG,eB,List.append_assoc]
 refine aj4 hF hl hm (cR.snoc (by simp;omega) (oh zn (by omega) _) (cR.ext _ hP)) S9 (by simp[hp,a1];omega) (by omega) (oh ht (by omega) _) (n:=n) (by rw[eb];exact oh hn (by omega) _) hy hb (by omega) λf B c' s' p' q1 q2 q3 q4 q5=>?_
 rw[List.append_assoc]at q1 q4 q5⊢
 refine jF [f] _ s' c' p' q1 q3 q2 q4 ?_
 rw[q5,VU hg]
 congr 1
 have e0:((xs[kv]?).bind (·[j]?)).getD T.cE=.l ys:=by rw[hr];simp[JG]
 simp only[dm,e0]
 rw[GS hr hj]
mutual
theorem aj9{S:Nat->af}:∀(f:Ty),xb f=true->TOk S f
 | .i k,h=>by
  cases k with
  |i64=>exact aj6
  |_=>simp[xb]at h
 | .b,h=>aj7
 | .s,h=>by simp[xb]at h
 | .sl es,h=>aj8 (xf es 0 (zG h).2 es.length) (zG h).1 (zG h).2
theorem xf{S:Nat->af}:∀(fs:List Ty) (j:Nat),mA fs=true->∀w,RR S w fs j (vg fs w j)
 | [],j,h,w=>by
  intro out K P Q k s c p q kv n cont ρ t xs dn ts hP hg hp hs ht hk zn hc hn hr hj hw hu hb AB jF
  unfold cW at hu
  subst hu
  simp only[vg]
  have:=jF [] [] s c p (by simpa using hp) hs hc (by simpa[JY]using hn) (by
   rw[JY,VS hr,MF hg];simpa using ht)
  simpa using this
 |f::fs,j,h,w=>by
  intro out K P Q k s c p q kv n cont ρ t xs dn ts hP hg hp hs ht hk zn hc hn hr hj hw hu hb AB jF
  unfold cW at hu
  obtain⟨u,mi,rfl,h1,h2⟩:=hu
  have hm:=GL h
  have hle:=GN f n u hm.1 h1
  simp only[fa,List.length_cons]at hb AB
  simp only[vg]
  refine aj9 f hm.1 w j out K P Q k s c p q kv n _ ρ t xs dn mi u hP hg hp hs ht hk zn hc hn hr hj hw h1 (by omega) (by omega) λKs B s' c' p' q1 q2 q3 q4 q5=>?_
  have Gq:kv<xs.length:=(List.getElem?_eq_some_iff.1 hr).1
  refine xf fs (j+1) hm.2 w out (Ks++K) P Q k s' c' p' (q+Ks.length) kv (pZ f n u).1 cont (ρ++B) _ (xs.set kv (dn++(pZ f n u).2::mi)) (dn++[(pZ f n u).2]) mi (cR.ext _ hP) (Cs hg) q1 q2 q5 (by simp at q1;omega) (oh zn (by omega) _) q3 q4
   (by simp[Gq]) (by simp[hj]) (by simp at hw⊢;omega) h2 (by omega) (by omega) λKs2 B2 s2 c2 p2 r1 r2 r3 r4 r5=>?_
  rw[List.append_assoc]at r1 r4 r5⊢
  have:=jF (Ks2++Ks) (B++B2) s2 c2 p2 r1 r2 r3 (by rw[r4,Cq]) (by
   rw[r5,ME hg,List.set_set,Cq,List.append_assoc]
   rfl)
  rw[List.append_assoc,List.length_append]at this
  rw[show q+Ks.length+Ks2.length=q+(Ks2.length+Ks.length) by omega]
  exact this
end
set_option linter.defProp false in
def pb:=(aA (aA (aA (aA (aA (@rN) (@jA)) (aA (@rO) (aA (@nz) (@uc)))) (aA (aA (@Vz) (aA (@List.map_cons.{0,0}) (@List.map_nil.{0,0}))) (aA (@fx) (aA (@Cm) (@eb))))) (aA (aA (aA (@List.cons_append.{0}) (@List.nil_append.{0})) (aA (@List.append_assoc.{0}) (aA (@List.getD_cons_zero.{0}) (@List.getD_cons_succ.{0})))) (aA (aA (@eB) (aA (@og) (@cond_true.{1}))) (aA (@cond_false.{1}) (aA (@decide_true) (@decide_false)))))) (aA (aA (aA (aA (@pY) (@Vr)) (aA (@EK) (aA (@GD) (@Vs)))) (aA (aA (@qb) (aA (@Vt) (@Vu))) (aA (@Vv) (aA (@GF) (@zw))))) (aA (aA (aA (@zx) (@zy)) (aA (@Vw) (aA (@Vx) (@Mm)))) (aA (aA (@Vy) (aA (@Mo) (@Bool.not_true))) (aA (@Bool.not_false) (aA (@bne_self_eq_false.{0}) (@beq_self_eq_true.{0})))))))
set_option linter.unusedSimpArgs false
theorem aj'{sc:Bool}{w:Nat}{xs ys:List (List T)}(h:xs.length+ys.length<r8)(hs:(!sc||ys.all (·.all eQ))=true)(h1:okW w xs=true)(h2:okW w ys=true):Prim.ev (.app sc w) [.l xs,.l ys]=some (.l (xs++ys)):=by
 simp only[Prim.ev,h,hs,h1,h2,if_true]
theorem qN{w:Nat}{ms:List Bool}{ts:List T}(hw:0<w)(hm:r9 ms ts=true)(hl:ts.length=w):Prim.ev (.lit w ms) ts=some (.l [ts]):=by
 have h1:ts.length/w=1:=by rw[hl];exact Nat.div_self hw
 have h2:ts.take w=ts:=by rw[<-hl];exact List.take_length
 simp only[Prim.ev,hw,hm,h1,if_true,rl,h2]
theorem tb{fs:List Ty}{xs:List (List T)}(h1:xs.length<=maxLen)(h2:∀r∈xs,cW fs r):WT (.sl fs) (.l xs):=by
 unfold WT
 exact⟨xs,rfl,h1,h2⟩
theorem V0{fs:List Ty}{xs:List (List T)}(h1:xs.length<=maxLen)(h2:∀r∈xs,cW fs r):cW [.sl fs] [.l xs]:=by
 unfold cW
 refine⟨_,[],rfl,tb h1 h2,?_⟩
 unfold cW
 rfl
set_option linter.unusedSimpArgs false
def zJ:List (Nat×nZ)->Nat->Option nZ
 | [],_=>none
 |e::l,g=>bif Nat.beq e.1 g then some e.2 else zJ l g
theorem V1:∀{l:List (Nat×nZ)} {g:Nat} {sg:nZ},zJ l g=some sg->(g,sg)∈l
 | [],_,_,h=>by cases h
 |e::l,g,sg,h=>by
  unfold zJ at h
  cases hb:Nat.beq e.1 g with
  |true=>
   rw[hb]at h
   simp only[cond_true,bG]at h
   have:=ef hb
   subst this;subst h
   exact .head _
  |false=>
   rw[hb]at h
   exact .tail _ (V1 h)
def Cx.on(cx:Cx)(l:List (Nat×nZ)):Cx:={cx with sg:=zJ l}
def MH(P:Program)(sg:nZ)(g:Nat)(F:af):Prop:=fX P g∧F6 P sg g F
structure MI (P:Program) (cx:Cx):Prop where
 ek:eL P cx
 di:∀g fn,cx.fn g=some fn->P.funcs[g]?=some fn∧fX P g
 mx:P.follows .mixedOrders=true
def V2:List ((Nat×Nat×Nat)×Js)->Nat->Nat->Nat->Option Js
 | [],_,_,_=>none
 |e::l,f,k,j=>bif Nat.beq e.1.1 f&&(Nat.beq e.1.2.1 k&&Nat.beq e.1.2.2 j)then some e.2 else V2 l f k j
def V3:List (Nat×Nat×Nat)->Nat->Nat->Nat->Bool
 | [],_,_,_=>false
 |e::l,f,k,j=>(Nat.beq e.1 f&&(Nat.beq e.2.1 k&&Nat.beq e.2.2 j))||V3 l f k j
def V4:List Nat->Nat->Bool
 | [],_=>false
 |e::l,f=>Nat.beq e f||V4 l f
theorem MH.mk{P:Program}{cx:Cx}(Z:MI P cx){R n g:Nat}{fn:Func}{sg:nZ}{pl:PL}{l:List (Nat×nZ)}{S:Nat->af}(km:fX P g)(hf:P.funcs[g]?=some fn)
  (hl:∀x∈l,MH P x.2 x.1 (S x.1))(h:Bc (cx.on l) n g fn sg=some pl):MH P sg g λts=>pl.den S R [] ts:=
 ⟨km,Vk (cx:=cx.on l) ⟨⟨Z.ek.ty⟩,λg' sg' h'=>hl _ (V1 h'),Z.di⟩ Z.mx hf h⟩
theorem fX.mk{P:Program}{g:Nat}{fn:Func}(h:P.funcs[g]?=some fn)(h1:(fn.name== "runtime.NumGoroutine")=false)(h2:fn.body.isNone=false):fX P g:=⟨fn,h,h1,h2⟩
structure gy (P:Program) where
 g:Nat
 sg:nZ
 F:af
 ok:MH P sg g F
def V5{P:Program}(l:List (gy P)):List (Nat×nZ):=l.map λk=>(k.g,k.sg)
def kS{P:Program}(l:List (gy P)):List (Nat×af):=l.map λk=>(k.g,k.F)
theorem V6{P:Program}:∀{ks:List (gy P)} {g:Nat} {sg:nZ},zJ (V5 ks) g=some sg->MH P sg g (pick (kS ks) g)
 | [],g,sg,h=>by cases h
 |k::ks,g,sg,h=>by
  simp only[V5,List.map_cons,zJ]at h
  simp only[kS,List.map_cons,pick]
  cases hb:Nat.beq k.g g with
  |true=>
   rw[hb,cond_true]at h
   cases h
   rw[cond_true,<-ef hb]
   exact k.ok
  |false=>
   rw[hb,cond_false]at h
   rw[cond_false]
   exact V6 h
def gy.dP{P:Program}{cx:Cx}(Z:MI P cx)(g:Nat){fn:Func}(sg:nZ)(pl:PL)(F:af)(ks:List (gy P))(hf:P.funcs[g]?=some fn)(h:Bc (cx.on (V5 ks)) 8 g fn sg=some pl)
  (h1:((fn.name== "runtime.NumGoroutine")||fn.body.isNone)=false)(hF:F=Fs pl (kS ks)):gy P:=
 ⟨g,sg,F,⟨fn,hf,(Bool.or_eq_false_iff.1 h1).1,(Bool.or_eq_false_iff.1 h1).2⟩,by
  rw[hF]
  exact Vk (cx:=cx.on (V5 ks)) ⟨⟨Z.ek.ty⟩,λg' sg' h'=>V6 h',Z.di⟩ Z.mx hf h⟩
def aka(P:Program)(l:List (Nat×TI)):Bool:=l.all λx=>tyB P x.1 x.2
def Cv:List (Nat×TI)->Nat->Option TI
 | [],_=>none
 |e::l,g=>bif Nat.beq e.1 g then some e.2 else Cv l g
theorem V7:∀{l:List (Nat×TI)} {g:Nat} {sg:TI},Cv l g=some sg->(g,sg)∈l
 | [],_,_,h=>by cases h
 |e::l,g,sg,h=>by
  unfold Cv at h
  cases hb:Nat.beq e.1 g with
  |true=>
   rw[hb]at h
   simp only[cond_true,bG]at h
   have:=ef hb
   subst this;subst h
   exact .head _
  |false=>
   rw[hb]at h
   exact .tail _ (V7 h)
theorem akb{P:Program}{cx:Cx}{l:List (Nat×TI)}(h:aka P l=true)(he:cx.ty=Cv l):eL P cx:=by
 refine⟨λt ti ht=>?_⟩
 rw[he]at ht
 exact ag1 (List.all_eq_true.1 h _ (V7 ht))
def GW:List (Nat×Func)->Nat->Option Func
 | [],_=>none
 |e::l,g=>bif Nat.beq e.1 g then some e.2 else GW l g
theorem akc{P:Program}{cx:Cx}{l:List (Nat×Func)}(h:∀x∈l,P.funcs[x.1]?=some x.2∧fX P x.1)(he:cx.fn=GW l):∀g fn,cx.fn g=some fn->P.funcs[g]?=some fn∧fX P g:=by
 intro g fn hg
 rw[he]at hg
 clear he
 induction l with
 |nil=>cases hg
 |cons e l ih=>
  unfold GW at hg
  cases hb:Nat.beq e.1 g with
  |true=>
   rw[hb]at hg
   simp only[cond_true,bG]at hg
   have:=ef hb
   subst this;subst hg
   exact h _ (.head _)
  |false=>
   rw[hb]at hg
   exact ih (λx hx=>h x (.tail _ hx)) hg
open Go.ChangeShapes Go.WideShapes Go.ChangeAt Go.RowKit
section
variable {P:Program}
def Cw(P:Program)(r:TypeId->Option (List Ty)):Nat->List Field->Option (List Ty)
 |_,[]=>some []
 |o,f::fs=>bif Nat.beq f.offset o then(r f.type).bind λa=>bif Nat.beq (P.cellsOf f.type) a.length then(Cw P r (o+a.length) fs).bind λb=>some (a++b)else none else none
def zK(P:Program):Nat->TypeId->Option (List Ty)
 |0,_=>none
 |n+1,t=>
  match P.underlying t with
  |some (.int k)=>some [.i k]
  |some .bool=>some [.b]
  |some .string=>some [.s]
  |some (.slice e)=>(zK P n e).bind λfs=>bif fs.isEmpty then none else some [.sl fs]
  |some (.struct fs)=>(Cw P (zK P n) 0 fs.toList).bind λts=>bif Nat.beq ts.length (P.cellsOf t)then some ts else none
  |_=>none
variable {H:Type} {enc:TypeId×Value->H} {w:World} {base:Nat} {spare:Nat->Bool} {held:Bool} {ω:Nat->Option Lb}
theorem eO.append{ω:Nat->Option Lb}:∀{ts mi:List T} {vs uV:List Value},eO ω w ts vs->eO ω w mi uV->eO ω w (ts++mi) (vs++uV)
 | [],mi,[],uV,_,h'=>h'
 |t::ts,mi,v::vs,uV,h,h'=>⟨h.1,eO.append h.2 h'⟩
 | [],_,_::_,_,h,_=>h.elim
 |_::_,_,[],_,h,_=>h.elim
theorem V8{r:TypeId->Option (List Ty)}{cs:List Value}:∀{fl:List Field} {o:Nat} {ys:List Ty},Cw P r o fl=some ys->
  (∀f∈fl,∀a,r f.type=some a->∃ts,eO ω w ts ((cs.drop f.offset).take (P.cellsOf f.type))∧cW a ts)->∃ts,eO ω w ts ((cs.drop o).take ys.length)∧cW ys ts
 | [],o,ys,h,_=>by
  simp only[Cw,bG]at h
  subst h
  exact⟨[],by simp[eO],rfl⟩
 |f::fl,o,ys,h,hr=>by
  unfold Cw at h
  cases h1:Nat.beq f.offset o with
  |false=>simp[h1]at h
  |true=>
   simp only[h1,cond_true,cN]at h
   obtain⟨a,ha,h⟩:=h
   cases h2:Nat.beq (P.cellsOf f.type) a.length with
   |false=>simp[h2]at h
   |true=>
    simp only[h2,cond_true,cN,bG]at h
    obtain⟨b,hb,rfl⟩:=h
    have e1:=ef h1
    have e2:=ef h2
    obtain⟨t1,g1,g2⟩:=hr f (.head _) a ha
    obtain⟨t2,g3,g4⟩:=V8 hb λf hf=>hr f (.tail _ hf)
    refine⟨t1++t2,?_,g2.append g4⟩
    rw[e1,e2]at g1
    rw[List.length_append,List.take_add,List.drop_drop]
    exact g1.append g3
theorem akd:∀(n m:Nat) {t:TypeId} {cs:List Value} {x:DataW H×List MemPlace} {fs:List Ty},DataW.trod enc P w 0 spare held n t cs=some x->zK P m t=some fs->
  (∀b,ω b=none)->∃ts,eO ω w ts cs∧cW fs ts:=by
 intro n
 induction n with
 |zero=>intro m t cs x fs h;simp[DataW.trod]at h
 |succ n ih=>
  intro m t cs x fs h ht iq
  cases m with
  |zero=>cases ht
  |succ m=>
   unfold zK at ht
   cases hu:P.underlying t with
   |none=>rw[hu]at ht;cases ht
   |some u=>
    rw[hu]at ht
    cases u with
    |int k=>
     simp only[bG]at ht
     subst ht
     obtain⟨a,e0,e1,wa⟩:=DataW.trod_int hu h
     subst e0 e1
     exact⟨[.c (.int k a)],⟨.c rfl,trivial⟩,_,_,rfl,⟨_,rfl,wa⟩,rfl⟩
    |bool=>
     simp only[bG]at ht
     subst ht
     obtain⟨b,rfl,_⟩:=DataW.trod_bool hu h
     exact⟨[.c (.bool b)],⟨.c rfl,trivial⟩,_,_,rfl,⟨_,rfl⟩,rfl⟩
    |string=>
     simp only[bG]at ht
     subst ht
     obtain⟨s,rfl,_,hs⟩:=DataW.trod_string hu h
     exact⟨[.c (.string s)],⟨.c rfl,trivial⟩,_,_,rfl,⟨_,rfl,hs⟩,rfl⟩
    |slice e=>
     simp only[cN]at ht
     obtain⟨gs,hg,ht⟩:=ht
     cases hz:gs.isEmpty with
     |true=>simp[hz]at ht
     |false=>
      simp only[hz,cond_false,bG]at ht
      subst ht
      rcases DataW.trod_slice hu h with⟨rfl,_⟩|⟨a,len,cap,elems,rest,n',e1,rfl,_,_,hlc,hcm,ED,bI,_⟩
      ·exact⟨[.l []],⟨.nil,trivial⟩,_,_,rfl,⟨[],rfl,Nat.zero_le _,by simp⟩,rfl⟩
      ·cases e1
       have each:∀i,i<len->∃vs ts,w.cells? 0 (a.add (i*P.cellsOf e)) (P.cellsOf e)=some vs∧eO ω w ts vs∧cW gs ts:=by
        intro i hi
        have h1:=bI i hi
        rw[<-ED]at hi
        rw[List.getElem?_eq_getElem hi,cN]at h1
        obtain⟨vs,g1,g2⟩:=h1
        obtain⟨ts,g3,g4⟩:=ih m g2 hg iq
        exact⟨vs,ts,g1,g3,g4⟩
       by_cases h0:len=0
       ·subst h0
        exact⟨[.l []],⟨.nil,trivial⟩,_,_,rfl,⟨[],rfl,Nat.zero_le _,by simp⟩,rfl⟩
       ·have hc:=λi=>λhi:i<len=>Classical.choose_spec (each i hi)
        let vf:Nat->List Value:=λi=>if hi:i<len then Classical.choose (each i hi)else []
        have hv:∀i,i<len->∃ts,w.cells? 0 (a.add (i*P.cellsOf e)) (P.cellsOf e)=some (vf i)∧eO ω w ts (vf i)∧cW gs ts:=by
         intro i hi
         have:vf i=Classical.choose (each i hi):=by simp[vf,hi]
         rw[this]
         exact hc i hi
        have ht:∃tf:Nat->List T,∀i,i<len->w.cells? 0 (a.add (i*P.cellsOf e)) (P.cellsOf e)=some (vf i)∧eO ω w (tf i) (vf i)∧cW gs (tf i):=by
         refine⟨λi=>if hi:i<len then Classical.choose (hv i hi)else [],λi hi=>?_⟩
         have:=Classical.choose_spec (hv i hi)
         simpa[hi]using this
        obtain⟨tf,EO⟩:=ht
        have rq:∀i,i<len->(vf i).length=P.cellsOf e:=λi hi=>(World.cells?_some (EO i hi).1).2.1
        have hgl:∀i,i<len->(tf i).length=gs.length:=λi hi=>(EO i hi).2.2.length
        have hwp:0<P.cellsOf e:=by
         have h1:=rq 0 (by omega)
         have h2:=hgl 0 (by omega)
         have h3:=(EO 0 (by omega)).2.1.length
         cases gs with
         |nil=>simp at hz
         |cons _ _=>simp at h2;omega
        obtain⟨b,off,spot⟩:=a
        have qA:∀i j,i<len->j<P.cellsOf e->w.cell? ((⟨b,off,spot⟩:Addr).add (i*P.cellsOf e) |>.add j)=(vf i)[j]?:=λi j hi hj=>(World.cells?_some (EO i hi).1).2.2 j hj
        have V9:spot=none:=by
         have:=qA 0 0 (by omega) hwp
         simp only[Nat.zero_mul,Addr.add,if_true]at this
         have hl:0<(vf 0).length:=by rw[rq 0 (by omega)];exact hwp
         rw[List.getElem?_eq_getElem hl]at this
         unfold World.cell? at this
         split at this
         ·split at this
          ·cases this
          ·rename_i h;simpa using h
         ·cases this
        subst V9
        have oH:∀i j,((⟨b,off,none⟩:Addr).add (i*P.cellsOf e) |>.add j)=⟨b,off+(i*P.cellsOf e+j),none⟩:=by
         intro i j
         have e1:∀k,(⟨b,off,none⟩:Addr).add k=⟨b,off+k,none⟩:=by
          intro k
          unfold Addr.add
          split
          ·rename_i h;subst h;rfl
          ·rfl
         have e2:∀o k,(⟨b,o,none⟩:Addr).add k=⟨b,o+k,none⟩:=by
          intro o k
          unfold Addr.add
          split
          ·rename_i h;subst h;rfl
          ·rfl
         rw[e1,e2,Nat.add_assoc]
        have bf:b<w.heap.size:=by
         have:=World.cells?_block (EO 0 (by omega)).1 hwp
         rw[Nat.zero_mul]at this
         exact this
        have lM:∀i j t,d_ ((List.range len).map tf) i j=some t->i<len∧(tf i)[j]?=some t:=by
         intro i j t h
         unfold d_ at h
         rw[cN]at h
         obtain⟨r,h1,h2⟩:=h
         rw[List.getElem?_map,Option.map_eq_some_iff]at h1
         obtain⟨i',h3,rfl⟩:=h1
         have hi:i<len:=by
          rcases Nat.lt_or_ge i len with h|h
          ·exact h
          ·rw[List.getElem?_eq_none (by simpa using h)]at h3;cases h3
         rw[List.getElem?_range hi]at h3
         cases h3
         exact⟨hi,h2⟩
        refine⟨[.l ((List.range len).map tf)],⟨?_,trivial⟩,_,_,rfl,⟨_,rfl,by simp;omega,?_⟩,rfl⟩
        ·have:=fm.l (ω:=ω) (w:=w) (xs:=(List.range len).map tf) (b:=b) (off:=off) (wd:=P.cellsOf e) (cap:=cap) (cv:=λi j=>((vf i)[j]?).getD default)
          (by
           intro r hr
           rw[List.mem_map]at hr
           obtain⟨i,hi,rfl⟩:=hr
           have hi:=List.mem_range.1 hi
           rw[(EO i hi).2.1.length,rq i hi])
          (by simpa using hlc) (iq b) bf
          (by
           intro i j t h
           obtain⟨hi,hj⟩:=lM i j t h
           have vU:j<(vf i).length:=by rw[<-(EO i hi).2.1.length];exact(List.getElem?_eq_some_iff.1 hj).1
           have:=qA i j hi (by rw[<-rq i hi];exact vU)
           rw[oH]at this
           rw[this,List.getElem?_eq_getElem vU]
           rfl)
          (by
           intro i j t h
           obtain⟨hi,hj⟩:=lM i j t h
           have vU:j<(vf i).length:=by rw[<-(EO i hi).2.1.length];exact(List.getElem?_eq_some_iff.1 hj).1
           refine(EO i hi).2.1.get j t _ hj ?_
           rw[List.getElem?_eq_getElem vU]
           rfl)
         simpa using this
        ·intro r hr
         rw[List.mem_map]at hr
         obtain⟨i,hi,rfl⟩:=hr
         exact(EO i (List.mem_range.1 hi)).2.2
    |struct fl=>
     simp only[cN]at ht
     obtain⟨ys,hy,ht⟩:=ht
     cases hz:Nat.beq ys.length (P.cellsOf t)with
     |false=>simp[hz]at ht
     |true=>
      simp only[hz,cond_true,bG]at ht
      subst ht
      obtain⟨xs,n',e1,_,hl,BQ,bI⟩:=DataW.trod_struct hu h
      cases e1
      obtain⟨ts,h1,h2⟩:=V8 (ω:=ω) (w:=w) (cs:=cs) hy λf hf a ha=>by
       obtain⟨i,hi,hfi⟩:=List.getElem_of_mem hf
       have h1:=bI i f (by rw[<-hfi,<-Array.getElem?_toList];exact List.getElem?_eq_getElem hi)
       have eg:i<xs.length:=by rw[BQ];simpa using hi
       rw[List.getElem?_eq_getElem eg]at h1
       exact ih m h1 ha iq
      refine⟨ts,?_,h2⟩
      rw[List.drop_zero,ef hz,<-hl,List.take_length]at h1
      exact h1
    |_=>cases ht
def MJ(P:Program)(t:TypeId):Bool:=
 match P.underlying t with
 |some (.struct _)=>true
 |_=>false
def GX(P:Program):List TypeId->List PS->Option (List Ty)
 | [],[]=>some []
 |t::ts,.v ag n::ps=>(zK P 16 t).bind λfs=>bif Nat.beq fs.length n&&(MJ P t==ag)then(GX P ts ps).bind λgs=>some (fs++gs)else none
 |_,_=>none
theorem V_{bl:Nat->Option Nat}(iq:∀b,ω b=none){r:Reach}{b0:Nat}:∀{ts:List TypeId} {vs:List Value} {ds:List (DataW H)} {pl:List MemPlace} {ps:List PS} {ys:List Ty} {i:Nat},DataW.TrodAll enc P w 0 spare held ts vs ds pl->
  (∀(j:Nat) t v,ts[j]?=some t->vs[j]?=some v->Value.okWide P w r b0 t v)->GX P ts ps=some ys->∃us,zo ω w bl i ps vs us∧cW ys us
 | [],[],[],pl,ps,ys,i,h,hv,hp=>by
  cases ps with
  |nil=>simp only[GX,bG]at hp;subst hp;exact⟨[],⟨rfl,rfl⟩,rfl⟩
  |cons _ _=>simp[GX]at hp
 |t::ts,v::vs,d::ds,pl,ps,ys,i,⟨p,q,h1,h2,e⟩,hv,hp=>by
  cases ps with
  |nil=>simp[GX]at hp
  |cons p0 ps=>
   cases p0 with
   |x n=>simp[GX]at hp
   |v ag n=>
    simp only[GX,cN]at hp
    obtain⟨fs,vO,hp⟩:=hp
    cases hc:(Nat.beq fs.length n&&(MJ P t==ag))with
    |false=>simp[hc]at hp
    |true=>
     simp only[hc,cond_true,cN,bG]at hp
     obtain⟨gs,hgs,rfl⟩:=hp
     simp only[bD,beq_iff_eq]at hc
     obtain⟨us,g1,g2⟩:=V_ (bl:=bl) (i:=i+1) iq h2 (λj t v hj vU=>hv (j+1) t v hj vU) hgs
     obtain⟨f,h1⟩:=h1
     obtain⟨t1,g3,g4⟩:=akd f 16 h1 vO iq
     have cV:=hv 0 t v rfl rfl
     refine⟨t1++us,⟨v,vs,v.cells.toList,t1,us,rfl,rfl,by rw[g4.length];exact ef hc.1,?_,g3,g1⟩,g4.append g2⟩
     have hs:=hc.2
     unfold MJ at hs
     unfold zK at vO
     cases hu:P.underlying t with
     |none=>rw[hu]at vO;cases vO
     |some u=>
      rw[hu]at vO hs
      cases u with
      |int k=>obtain⟨a,rfl⟩:=okWide_int hu cV;subst hs;exact⟨rfl,λx h=>by cases h⟩
      |bool=>obtain⟨a,rfl⟩:=okWide_bool hu cV;subst hs;exact⟨rfl,λx h=>by cases h⟩
      |string=>obtain⟨a,rfl⟩:=okWide_string hu cV;subst hs;exact⟨rfl,λx h=>by cases h⟩
      |slice e=>obtain⟨a,l,c,rfl⟩:=okWide_slice hu cV;subst hs;exact⟨rfl,λx h=>by cases h⟩
      |struct fl=>
       obtain⟨cs,rfl,_⟩:=okWide_struct hu cV
       subst hs
       simp[Value.cells]
      |_=>cases vO
 | [],_::_,_,_,_,_,_,h,_,_=>by simp[DataW.TrodAll]at h
 | [],[],_::_,_,_,_,_,h,_,_=>by simp[DataW.TrodAll]at h
 |_::_,[],_,_,_,_,_,h,_,_=>by simp[DataW.TrodAll]at h
 |_::_,_::_,[],_,_,_,_,h,_,_=>by simp[DataW.TrodAll]at h
theorem V'(hl:laidOutB P=true){W W':World}{sp':Nat->Bool}:∀{ts:List TypeId} {vs:List Value} {ds:List (DataW H)} {ps:List MemPlace},(∀t∈ts,P.readableRec t=true∧t<P.types.size)->
  DataW.TrodAll enc P W base (λ_=>true) true ts vs ds ps->(∀p∈ps,W.sameAt W' p)->(∀p∈ps,sp' p.block=true)->DataW.TrodAll enc P W' base sp' true ts vs ds ps
 | [],[],[],_,_,h,_,_=>h
 |t::ts,_::_,_::_,_,hT,⟨p,q,h1,h2,e⟩,hs,hb=>⟨p,q,WideElems.Trod_stays hl (hT t (.head _)).1 (hT t (.head _)).2 h1 (λx hx=>hs x (by rw[e];exact List.mem_append_left _ hx)) (λx hx=>hb x (by rw[e];exact List.mem_append_left _ hx)),
   V' hl (λt ht=>hT t (.tail _ ht)) h2 (λx hx=>hs x (by rw[e];exact List.mem_append_right _ hx)) (λx hx=>hb x (by rw[e];exact List.mem_append_right _ hx)),e⟩
 | [],_::_,_,_,_,h,_,_=>by simp[DataW.TrodAll]at h
 | [],[],_::_,_,_,h,_,_=>by simp[DataW.TrodAll]at h
 |_::_,[],_,_,_,h,_,_=>by simp[DataW.TrodAll]at h
 |_::_,_::_,[],_,_,h,_,_=>by simp[DataW.TrodAll]at h
end
theorem akh{H:Type}{enc:TypeId×Value->H}{C:Checked}{f:FuncId}{fn:Func}{s:ChangeSpec}{apart fresh handsOn again:Bool}{sg:nZ}{F:af}{ys:List Ty}{rt:TypeId}
  (vi:s.vars=[])(pG:∀ds:List (DataW H),ds.length=fn.params.size->s.fn H ds={results:=[.lit (.bool true)],args:=ds})
  (hl:laidOutB C.prog=true)(qL:(fn.params.toList.all λt=>C.prog.readableRec t&&Nat.blt t C.prog.types.size)=true)
  (hrt:fn.resultTypes=#[rt])(yc:C.prog.underlying rt=some .bool)(LQ:sg.rs=[(false,[.s])])
  (cV:MH C.prog sg f F)(Ax:GX C.prog fn.params.toList sg.ps=some ys)(hF:∀ts,cW ys ts->F ts=some [.c (.bool true)])
  (W:World)(b0:Nat)(args:Array Value)(ds gs:List (DataW H))(before:List MemPlace)
  (iv:∀(j:Nat) t v,fn.params[j]?=some t->args[j]?=some v->Value.okWide C.prog W .any b0 t v)
  (hW:DataW.Whole enc C.prog fn.params.toList s.vars apart W args.toList ds gs before)(Wa:FF (λ_=>none) W):
  Calls C.prog f args W λe W'=>∃v,e=.returned v∧s.post enc C.prog fn apart fresh handsOn again W args v W':=by
 have ud:=hW
 obtain⟨p,q,hA,hV,rfl,_,_⟩:=hW
 rw[vi]at hV
 obtain⟨rfl,rfl⟩:gs=[]∧q=[]:=by
  cases gs with
  |nil=>exact⟨rfl,hV⟩
  |cons _ _=>exact hV.elim
 have hlen:ds.length=fn.params.size:=by
  have:∀{ts:List TypeId} {vs:List Value} {ds:List (DataW H)} {ps:List MemPlace},DataW.TrodAll enc C.prog W 0 (λ_=>true) true ts vs ds ps->ds.length=ts.length:=by
   intro ts
   induction ts with
   |nil=>intro vs ds ps h;cases vs<;>cases ds<;>simp_all[DataW.TrodAll]
   |cons t ts ih=>
    intro vs ds ps h
    cases vs with
    |nil=>simp[DataW.TrodAll]at h
    |cons v vs=>
     cases ds with
     |nil=>simp[DataW.TrodAll]at h
     |cons d ds=>obtain⟨_,_,_,h2,_⟩:=h;simp[ih h2]
  rw[this hA];simp
 have hT:∀t∈fn.params.toList,C.prog.readableRec t=true∧t<C.prog.types.size:=by
  intro t ht
  have:=List.all_eq_true.1 qL t ht
  simp only[bD]at this
  exact⟨this.1,Nat.blt_eq▸this.2⟩
 obtain⟨us,km,Wb⟩:=V_ (ω:=λ_=>none) (bl:=λ_=>none) (i:=0) (λ_=>rfl) hA (λj t v h1 h2=>iv j t v (by simpa using h1) (by simpa using h2)) Ax
 have hc:=cV.2 W (λ_=>none) (λ_=>none) args.toList us _ (hF us Wb) ⟨λb l h=>by(cases h),λi b h=>by(cases h),Wa⟩ km
 rw[Array.toArray_toList]at hc
 refine hc.mono λe W' h=>?_
 obtain⟨v,G,is,o1,o2,rfl,hp⟩:=h
 refine⟨v,rfl,?_⟩
 have hold:∀x∈p++[],MemPlace.block x<W.heap.size:=ud.lt
 have uJ:∀b,b<W.heap.size->W'.heap[b]?=W.heap[b]?:=λb hb=>(hp.free b hb rfl).2
 have uK:∀x∈p,W.sameAt W' x:=by
  intro x hx
  have hb:=hold x (by simpa using hx)
  cases x with
  |cell b o=>show W'.cell? _=W.cell? _;unfold World.cell?;rw[uJ b hb]
  |map b=>exact uJ b hb
 have hv:v=.bool true:=by
  have h1:=hp.ret
  rw[LQ]at h1
  obtain⟨t1,t2,i1,i2,e1,e2,h1,h2⟩:=h1
  obtain⟨h1,_⟩:=h1
  have h3:=hp.outs
  rw[e1]at h3
  cases t1 with
  |nil=>simp[b_]at h1
  |cons t t1=>
   cases i1 with
   |nil=>simp[b_]at h1
   |cons i i1=>
    simp only[List.cons_append,List.cons.injEq]at h3
    rw[<-h3.1]at h1
    obtain⟨_,hd,_⟩:=h1
    cases hd
    rfl
 subst hv
 have fD:=λsp kl=>V' (enc:=enc) (base:=0) (sp':=sp) hl hT hA uK kl
 have kl:=pG ds hlen
 have Lz:∀(j:Nat) (t:TypeId) (r:Value),fn.resultTypes[j]?=some t->((Value.bool true).resultList fn.resultTypes.size)[j]?=some r->Value.okWide C.prog W' .any 0 t r:=by
  intro j t r hj hr
  rw[hrt]at hj hr
  have hj0:j=0:=by
   rcases Nat.eq_zero_or_pos j with h|h
   ·exact h
   ·have:(#[rt]:Array TypeId)[j]?=none:=by simp;omega
    rw[this]at hj;cases hj
  subst hj0
  cases hj;cases hr
  simp[Value.okWide,yc,Cell.okWide,Cell.ok]
 have Wc:∀(b:Nat) (sp:Nat->Bool) (hd:Bool),DataW.TrodAll enc C.prog W' b sp hd fn.resultTypes.toList ((Value.bool true).resultList fn.resultTypes.size) (s.fn H (ds++[])).results []:=by
  intro b sp hd
  rw[List.append_nil,kl,hrt]
  exact⟨[],[],⟨1,by simp[DataW.trod,yc,Value.cells]⟩,rfl,rfl⟩
 have Wd:∀sp:Nat->Bool,(∀x∈p,sp x.block=true)->DataW.TrodAll enc C.prog W' 0 sp true fn.params.toList args.toList (s.fn H (ds++[])).args p:=by
  intro sp hs
  rw[List.append_nil,kl]
  exact fD sp hs
 have aki:∀sp:Nat->Bool,DataW.TrodVars enc C.prog W' sp s.vars (s.fn H (ds++[])).vars []:=by
  intro sp
  rw[List.append_nil,kl,vi]
  rfl
 have hW2:=ud
 obtain⟨_,_,_,_,_,hz,hn⟩:=hW2
 refine⟨ds,[],p++[],[],p,[],ud,Wc _ _ _,Wd _ (λx hx=>decide_eq_true (hold x (by simpa using hx))),aki _,⟨hp.so.os,hp.so.output,λi hi=>?_⟩,λ_=>⟨Lz,_,[],p++[],⟨[]++p,[],trodAll_append (Wd _ λ_ _=>rfl) (Wc _ _ _),by rw[vi];rfl,rfl,?_,hn⟩,?_⟩⟩
 ·rw[uJ i hi]
  cases W.heap[i]? with
  |none=>trivial
  |some o=>cases o<;>simp
 ·intro b off hm
  have h1:=hz b off hm
  have hb:=hold _ hm
  unfold World.frozen? at h1⊢
  rw[show W'.heap[(⟨b,off,none⟩:Addr).block]?=W.heap[(⟨b,off,none⟩:Addr).block]? from uJ b hb]
  exact h1
 ·intro x hx _
  exact hx
theorem akj{H:Type}{enc:TypeId×Value->H}{C:Checked}{os:Os}{f:FuncId}{fn:Func}{s:ChangeSpec}{conds:List PathCond}{apart fresh handsOn again:Bool}{sg:nZ}{F:af}{ys:List Ty}{rt:TypeId}
  (own:ownKnob C.prog.godebug=none)(started:os.Started)(MK:C.prog.inits.idxOf? f=none)(Ur:C.prog.funcs[f]?=some fn)
  (witness:∃(w:World) (tape:Tape) (i:Input),w.os=os∧(w.forCall tape i).Shaped C.prog∧i.vars=[]∧Input.okWide C.prog (w.forCall tape i) .any w.heap.size f i∧
   s.pre6 enc C.prog fn conds apart (w.forCall tape i).memory i.args∧({}:Assume).holds C.prog (lone (Frame.enter C.prog f i.args .normal) [] (w.forCall tape i)))
  (vi:s.vars=[])(pG:∀ds:List (DataW H),ds.length=fn.params.size->s.fn H ds={results:=[.lit (.bool true)],args:=ds})
  (hl:laidOutB C.prog=true)(qL:(fn.params.toList.all λt=>C.prog.readableRec t&&Nat.blt t C.prog.types.size)=true)
  (hrt:fn.resultTypes=#[rt])(yc:C.prog.underlying rt=some .bool)(LQ:sg.rs=[(false,[.s])])
  (cV:MH C.prog sg f F)(Ax:GX C.prog fn.params.toList sg.ps=some ys)(hF:∀ts,cW ys ts->F ts=some [.c (.bool true)])(hgl:SQ=[]:=by rfl):
  ReturnsInHanded {} C os f .any (s.pre6 enc C.prog fn conds apart) (s.post enc C.prog fn apart fresh handsOn again):=by
 refine returnsInHanded_of_change own started MK Ur witness ?_
 intro W b0 args ds gs before iv hW _ _
 exact akh vi pG hl qL hrt yc LQ cV Ax hF W b0 args ds gs before iv hW (λx hx=>by rw[hgl]at hx;cases hx)
end Go.Proofs.YtjimmglpkndemaaGreatC

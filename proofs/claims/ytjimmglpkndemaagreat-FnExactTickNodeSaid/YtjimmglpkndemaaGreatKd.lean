/- The walk by reflection: a part of its laws, for any function. Conditions: none. -/
import Derived.Test.YtjimmglpkndemaaGreatKc
import Derived.LoopN
import Derived.Test.YtjimmglpkndemaaGreatKa
import Derived.ChangeSame
import Derived.JoinedOf
import Derived.JoinedAt
import Derived.RowKit3
import Derived.Carry
namespace Go.Proofs.YtjimmglpkndemaaGreatC
set_option linter.unusedVariables false
def Gh.gC(G:Gh)(i0:Nat)(rn:mL):Gh where
 ω:=λb=>match G.ω b with
  |some .f=>some .f
  |some (.x j)=>if j<i0 then some (.x j)else none
  |some (.o j p)=>match mW rn j with
   |some k=>some (.o k p)
   |none=>if j<i0 then some (.o j p)else none
  |none=>none
 β:=G.β
 H:=λj=>match ny rn j with
  |some (some id)=>G.H id
  |some none=>λ_=>.slice none 0 0
  |none=>G.H j
 hs:=λj p=>by
  rcases hr:ny rn j with _|(_|id)
  ·exact G.hs j p
  ·exact⟨_,_,_,rfl⟩
  ·exact G.hs _ p
section
variable {M:Nat->Prop} {B:eI} {d:Nat} {up:Nat->Nat->Value} {ρ:List T} {G:Gh} {a:Act} {w:World} {s:St}
def Gh.qY(G:Gh)(id tk:Nat):Gh where
 ω:=λb=>match G.ω b with
  |some (.o i p)=>if i=id then(match p with| []=>none|x::p=>some (.o tk (x::p)))else some (.o i p)
  |l=>l
 β:=G.β
 H:=λi=>if i=tk then G.H id else G.H i
 hs:=λi p=>by
  by_cases h:i=tk
  ·simp only[h,if_true];exact G.hs id p
  ·simp only[h,if_false];exact G.hs i p
theorem agw{id tk:Nat}(ht:tk%4=2){I:Lb->Prop}(hI:∀p,I (.o id p)):di I (λi=>i=tk) G w (G.qY id tk) w:=by
 refine⟨Nat.le_refl _,λb _ hb=>⟨s_ hb (λh0=>by simp[Gh.qY,h0]) λl hl hq=>?_,rfl⟩,λb _ hb=>by simp[Gh.qY,hb],λb l hl hn=>⟨?_,rfl⟩,λi hi=>⟨rfl,λp _=>by simp[Gh.qY,hi]⟩⟩
 ·cases l with
  |o i p=>
   simp only[Gh.qY,hl]
   split
   ·cases p with
    |nil=>exact .inl rfl
    |cons x p=>exact .inr ⟨_,rfl,IP ht⟩
   ·exact .inr ⟨_,rfl,hq⟩
  |_=>simp[qt]at hq
 ·cases l with
  |o i p=>
   have:i≠id:=λe=>hn (e▸hI p)
   simp[Gh.qY,hl,this]
  |_=>simp[Gh.qY,hl]
theorem Rel.agx(h:Rel M B d up s ρ G a w){id tk:Nat}{x:Lf}(hx:s.get (.o id)=.ob true x)(ht:tk%4=2)(hM:¬M tk){M':Nat->Prop}(zu:∀i,M i∨i=tk->M' i):
  ∃G',Rel M' B d up ((s.set (.o id) (.fz (.w tk x (.k (.int .i64 0))) x)).set (.o tk) (.tk x x)) ρ G' a w:=by
 have tG:M id:=h.key id (.inr (by rw[hx];simp))
 have dk:id≠tk:=λe=>hM (e▸tG)
 obtain⟨t,jg,bI⟩:=(by simpa only[hx]using h.ob id:cE G w ρ id (.ob true x))
 obtain⟨xs,rfl⟩:∃ys,t=.l ys:=by cases bI<;>exact⟨_,rfl⟩
 have mb:∀i j ys,dK xs i j=some (.l ys)->eX (G.qY id tk) w tk true [(i,j)] (.l ys):=by
  intro i j ys bE
  refine(bI.rows i j ys bE).move rfl (λb q hb=>⟨?_,rfl⟩) λq=>?_
  ·simp only[List.cons_append,List.nil_append]at hb⊢
   simp[Gh.qY,hb]
  ·simp[Gh.qY]
 have jx:∀p,oA [(bn.o tk,SV.tk x x),(bn.o id,SV.fz (.w tk x (.k (.int .i64 0))) x)] (.o id p):=by
  intro p
  show St.look _ (bn.o id)≠none
  simp only[St.look]
  cases(bn.o tk).beq (.o id)<;>simp[(bn.beq_iff (r:=bn.o id)).2 rfl]
 have J':(G.qY id tk).H id []=G.H id []:=by simp[Gh.qY,dk]
 refine⟨G.qY id tk,(h.Rf (M':=M') (N:=λi=>i=tk) (W:=[(.o tk,.tk x x),(.o id,.fz (.w tk x (.k (.int .i64 0))) x)]) (agw ht jx) (λi hi=>by subst hi;exact hM) (λi hi=>zu i (.inl hi)) (λr u hl=>?_) λb l hb=>?_).congr λr=>?_⟩
 ·rcases jI hl with⟨e1,e2⟩|hl
  ·subst e1 e2
   refine⟨tk,rfl,⟨ht,xs,xs,jg,jg,rfl,λi r hr _=>⟨hr,λj ys hy=>mb i j ys (by simp[dK,hr,hy])⟩⟩,zu tk (.inr rfl),λi hi=>by simp[de]at hi⟩
  ·rcases jI hl with⟨e1,e2⟩|hl
   ·subst e1 e2
    refine⟨id,rfl,⟨.l xs,jg,?_,ht,xs,0,xs,jg,by simp[lI,Lf.fE,j_],rfl,λi r hr=>by rw[Nat.zero_add];exact hr,?_,λ_ b off k c hv=>?_⟩,zu id (.inl tG),λi hi=>by simp[de]at hi;subst hi;exact zu _ (.inr rfl)⟩
    ·rw[J']
     cases bI with
     |nil hH=>rw[hH];exact .nil
     | @l _ _ _ b wd cap bT elem cv g1 g2 g3 g4 g5 g6 g7 g8 g9 xU DZ=>
      rw[g1]
      refine .l (cv:=cv) g6 g2.1 (z' (by simp[Gh.qY,g3])) (OT g4) (λi j t ht=>by rw[xN g4,Nat.zero_add];exact g7 i j t ht) λi j t jA=>?_
      cases t with
      |c v=>obtain⟨hv,hs⟩:=g8 i j v jA;rw[hv];exact .c hs
      |l ys=>
       have e:=xU i j ys jA rfl
       simp only[List.nil_append]at e
       rw[e]
       have:=(mb i j ys jA).Qp (.inl ht) rfl
       rwa[show(G.qY id tk).H tk=G.H id by simp[Gh.qY]]at this
    ·rw[J']
     intro b off k c hv
     cases bI with
     |nil hH=>rw[hH]at hv;cases hv
     | @l _ _ _ b0 wd cap bT elem cv g1 g2 g3 g4 g5 g6 g7 g8 g9 xU DZ=>
      rw[g1]at hv
      cases hv
      refine⟨wd,g6,λi j ys bE=>?_⟩
      rw[xN g4,Nat.zero_add,g7 i j _ bE,xU i j ys bE rfl]
      simp[Gh.qY]
    ·rw[J']at hv
     cases bI with
     |nil hH=>rw[hH]at hv;cases hv
     |l g1=>rw[g1]at hv;cases hv;rfl
   ·cases hl
 ·cases hg:G.ω b with
  |none=>simp[Gh.qY,hg]at hb
  |some l0=>
   have tD:=h.ia b l0 hg
   refine⟨?_,tD.2⟩
   cases l0 with
   |o i p=>
    simp only[Gh.qY,hg]at hb
    split at hb
    ·cases p with
     |nil=>cases hb
     |cons x p=>cases hb;exact zu tk (.inr rfl)
    ·cases hb;exact zu _ (.inl tD.1)
   |_=>simp[Gh.qY,hg]at hb;subst hb;exact zu _ (.inl tD.1)
 ·simp only[St.fe]
theorem Rel.ij:∀{js:List (Nat×Bool)} {cs:List Ce} {s:St} {ct:Ct} {G:Gh},Rel (λi=>i<ct.i) B d up s ρ G a w->
  (∃G',Rel (λi=>i<(Go.Proofs.YtjimmglpkndemaaGreatC.ij s ct cs js).2.i) B d up (Go.Proofs.YtjimmglpkndemaaGreatC.ij s ct cs js).1 ρ G' a w)∧(Go.Proofs.YtjimmglpkndemaaGreatC.ij s ct cs js).2.a=ct.a∧ct.i<=(Go.Proofs.YtjimmglpkndemaaGreatC.ij s ct cs js).2.i
 | [],cs,s,ct,G,h=>⟨⟨G,h⟩,rfl,Nat.le_refl _⟩
 |(j,b)::js,cs,s,ct,G,h=>by
  unfold Go.Proofs.YtjimmglpkndemaaGreatC.ij
  split
  ·rename_i id _
   split
   ·rename_i x hx
    cases he:Nat.beq (id%2) 0 with
    |false=>exact Rel.ij h
    |true=>
     simp only[cond_true]
     have hle:=Qc ct.i
     obtain⟨G',h'⟩:=h.agx hx (Qd ct.i) (by omega) (M':=λi=>i<mK ct.i+1) (λi hi=>by rcases hi with hi|hi<;>omega)
     obtain⟨g1,g2,g3⟩:=Rel.ij (js:=js) (cs:=cs) (ct:=⟨ct.a,mK ct.i+1⟩) h'
     exact⟨g1,g2,Nat.le_trans (by show ct.i<=mK ct.i+1;omega) g3⟩
   ·exact Rel.ij h
  ·exact Rel.ij h
theorem Rel.jG{d':Nat}:∀{js:Js} {s:St} {ct:Ct} {G:Gh},Rel (λi=>i<ct.i) B d up s ρ G a w->
  (∃G',Rel (λi=>i<(Go.Proofs.YtjimmglpkndemaaGreatC.jG d' s ct js).2.i) B d up (Go.Proofs.YtjimmglpkndemaaGreatC.jG d' s ct js).1 ρ G' a w)∧(Go.Proofs.YtjimmglpkndemaaGreatC.jG d' s ct js).2.a=ct.a∧ct.i<=(Go.Proofs.YtjimmglpkndemaaGreatC.jG d' s ct js).2.i
 | [],s,ct,G,h=>⟨⟨G,h⟩,rfl,Nat.le_refl _⟩
 |(n,bx,.rows rj)::l,s,ct,G,h=>by
  simp only[Go.Proofs.YtjimmglpkndemaaGreatC.jG]
  obtain⟨⟨G',h'⟩,g2,g3⟩:=h.ij (js:=rj) (cs:=oZ (s.get (zV d' s n bx)))
  obtain⟨f1,f2,f3⟩:=Rel.jG (d':=d') (js:=l) h'
  exact⟨f1,f2.trans g2,Nat.le_trans g3 f3⟩
 |(n,bx,.drop)::l,s,ct,G,h=>Rel.jG (js:=l) h
 |(n,bx,.aI _ _)::l,s,ct,G,h=>Rel.jG (js:=l) h
theorem Rel.A8:∀{l:List (Nat×Bool)} {s:St} {G:Gh},Rel M B d up s ρ G a w->∃G',Rel M B d up (s8 s l) ρ G' a w∧ic G G'
 | [],s,G,h=>⟨G,h,.refl _⟩
 |(id,all)::l,s,G,h=>by
  simp only[s8]
  split
  ·rename_i dp x hx
   cases all with
   |true=>obtain⟨G',h1,h2⟩:=Rel.A8 (l:=l) (h.lQ hx);exact⟨G',h1,(G.nQ id true).trans h2⟩
   |false=>obtain⟨G',h1,h2⟩:=Rel.A8 (l:=l) (h.flat hx);exact⟨G',h1,(G.nQ id false).trans h2⟩
  ·exact Rel.A8 (l:=l) h
theorem Rel.h_:∀{js:List (Nat×Bool)} {cs:List Ce} {s:St} {G:Gh},Rel M B d up s ρ G a w->∃G',Rel M B d up (Go.Proofs.YtjimmglpkndemaaGreatC.h_ s cs js) ρ G' a w
 | [],cs,s,G,h=>⟨G,h⟩
 |(j,all)::js,cs,s,G,h=>by
  simp only[Go.Proofs.YtjimmglpkndemaaGreatC.h_]
  split
  ·split
   ·rename_i dp x hx
    cases all with
    |true=>exact Rel.h_ (js:=js) (h.lQ hx)
    |false=>exact Rel.h_ (js:=js) (h.flat hx)
   ·exact Rel.h_ (js:=js) h
  ·exact Rel.h_ (js:=js) h
theorem Rel.jv{d':Nat}:∀{js:Js} {s:St} {G:Gh},Rel M B d up s ρ G a w->∃G',Rel M B d up (Go.Proofs.YtjimmglpkndemaaGreatC.jv d' s js) ρ G' a w
 | [],s,G,h=>⟨G,h⟩
 |(n,bx,.rows js)::l,s,G,h=>by
  simp only[Go.Proofs.YtjimmglpkndemaaGreatC.jv]
  obtain⟨G',h'⟩:=h.h_ (js:=js) (cs:=oZ (s.get (zV d' s n bx)))
  exact Rel.jv (js:=l) h'
 |(n,bx,.drop)::l,s,G,h=>Rel.jv (js:=l) h
 |(n,bx,.aI _ _)::l,s,G,h=>Rel.jv (js:=l) h
theorem SA{a0 i0 i1:Nat}{xs:List Lf}{rn:mL}(hi:∀j x,ny rn j=some x->j<i1)(SB:i0<=i1):∀{cs hs:List Ce},z0 s a0 i0 xs rn cs hs=true->∀j∈dF hs,j<i1
 | [],[],_,j,hj=>by simp[dF]at hj
 |c::cs,h::hs,hc,j,hj=>by
  simp only[z0,bk]at hc
  rw[xL]at hj
  rcases List.mem_append.1 hj with hj|hj
  ·have h1:=hc.1
   unfold IG at h1
   rw[Bool.or_eq_true]at h1
   rcases h1 with h1|h1
   ·simp only[bk]at h1
    exact Nat.lt_of_lt_of_le (HQ (n:=a0) (i:=i0) (by simp[zZ,h1.2]) j hj) SB
   ·split at h1
    ·simp[dF]at hj
    ·simp[dF]at hj
    ·simp[dF]at hj
    ·simp only[bk]at h1
     have h2:=h1.2
     split at h2
     ·rename_i rS;simp[dF]at hj;subst hj;exact hi _ _ rS
     ·cases h2
    ·simp only[bk]at h1
     have h2:=h1.2
     split at h2
     ·rename_i rS;simp[dF]at hj;subst hj;exact hi _ _ rS
     ·cases h2
    ·simp[dF]at hj
    ·cases h1
  ·exact SA hi SB hc.2 j hj
 | [],_::_,hc,_,_=>by simp[z0]at hc
 |_::_,[],hc,_,_=>by simp[z0]at hc
theorem SC{G':Gh}{a0 i0:Nat}{xs:List Lf}{rn:mL}{oL e:List T}(hr:Rel M B d up s (oL++e) G a w)(hl:oL.length=a0)(k:di (λl=>True) (λj=>¬j<i0) G w G' w)
  (hH:∀j x,ny rn j=some x->G'.H j=match x with|some id=>G.H id|none=>λ_=>.slice none 0 0):
  ∀{cs hs:List Ce} {vs:List Value},z0 s a0 i0 xs rn cs hs=true->aX G w (oL++e) cs vs->aX G' w (oL++xs.map (Lf.ev (oL++e))) hs vs
 | [],[],[],_,_=>trivial
 |c::cs,h::hs,v::vs,hc,jy=>by
  simp only[z0,bk]at hc
  refine⟨?_,SC hr hl k hH hc.2 jy.2⟩
  have yi:yh a0 (oL++e) (oL++xs.map (Lf.ev (oL++e))):=λm hm=>by
   rw[List.getElem?_append_left (by omega),List.getElem?_append_left (by omega)]
  have h1:=hc.1
  have qX:=jy.1
  clear hc jy
  unfold IG at h1
  rw[Bool.or_eq_true]at h1
  rcases h1 with h1|h1
  ·simp only[bk]at h1
   have:=Ce.beq_eq h1.1
   subst this
   have hb:∀j∈dF [h],j<i0:=HQ (n:=a0) (by simp[zZ,h1.2])
   exact(qX.rU yi h1.2).aY k λj hj hn=>hn (hb j hj)
  ·split at h1
   ·rename_i n x
    obtain⟨t,ht,hd⟩:=qX
    exact⟨t,by rw[<-Lf.bM ht];exact J_ h1 hl,hd.aY k.size k.free⟩
   ·rename_i n
    have hv:v=.slice none 0 0:=qX
    subst hv
    exact⟨.l [],J_ h1 hl,.nil⟩
   ·rename_i n id
    split at h1
    ·rename_i x hx
     have ei:=hr.ob id
     rw[hx]at ei
     obtain⟨t,ht,hd,_⟩:=ei
     obtain⟨p,hp,hv⟩:=qX
     simp only[l7,br]at hp
     subst hp
     rw[hv]
     exact⟨t,by rw[<-Lf.bM ht];exact J_ h1 hl,hd.aY k.size k.free⟩
    ·cases h1
   ·rename_i j
    simp only[bk]at h1
    have h2:=h1.2
    split at h2
    ·rename_i rS
     have hv:v=.slice none 0 0:=qX
     subst hv
     exact⟨[],rfl,by rw[hH _ _ rS]⟩
    ·cases h2
   ·rename_i j id
    simp only[bk]at h1
    have h2:=h1.2
    split at h2
    ·rename_i id' rS
     have:=dN h2
     subst this
     obtain⟨p,hp,hv⟩:=qX
     simp only[l7,br]at hp
     subst hp
     exact⟨[],rfl,by rw[hH _ _ rS];exact hv⟩
    ·cases h2
   ·exact qX.one
   ·cases h1
 | [],_::_,_,hc,_=>by simp[z0]at hc
 |_::_,[],_,hc,_=>by simp[z0]at hc
 | [],[],_::_,_,h=>h.elim
 |_::_,_::_,[],_,h=>h.elim
theorem SD{h:Head}{xs:List Lf}{d':Nat}{oL e:List T}(hm:Go.Proofs.YtjimmglpkndemaaGreatC.gC d' h s=some xs)(hr:Rel M B d up s (oL++e) G a w)(hl:oL.length=h.c0.a)(iK:∀i b,B.bt i=some b->i<h.c0.i):
  (oL++xs.map (Lf.ev (oL++e))).length=h.ct.a∧∃G',Rel (λi=>i<h.ct.i) B d up h.st (oL++xs.map (Lf.ev (oL++e))) G' a w:=by
 unfold Go.Proofs.YtjimmglpkndemaaGreatC.gC at hm
 simp only[cG]at hm
 obtain⟨⟨xs',rn⟩,_,hm⟩:=hm
 obtain⟨G1,hr,_⟩:=hr.A8 (l:=vm d' h.s0 s h.js)
 generalize s8 s (vm d' h.s0 s h.js)=s1 at hm hr
 cases hc:IH h s1 xs' rn with
 |false=>simp[hc]at hm
 |true=>
  simp only[hc,cond_true,br]at hm
  subst hm
  unfold IH at hc
  simp only[bk]at hc
  obtain⟨⟨⟨⟨⟨⟨c1,c2⟩,c3⟩,c4⟩,c5⟩,c6⟩,c7⟩:=hc
  have hlen:=dN c1
  have HR:=Nat.le_of_ble_eq_true c3
  have J7:=wS c2
  have A9:=Su c4
  refine⟨by rw[List.length_append,List.length_map,hl,hlen],G1.gC h.c0.i rn,?_⟩
  have yi:yh h.c0.a (oL++e) (oL++xs'.map (Lf.ev (oL++e))):=λm hm=>by
   rw[List.getElem?_append_left (by omega),List.getElem?_append_left (by omega)]
  have vK:∀b,G1.ω b=none->(G1.gC h.c0.i rn).ω b=none:=λb hb=>by simp[Gh.gC,hb]
  have cS:∀b,G1.q b=none->(G1.gC h.c0.i rn).q b=none:=λb hb=>by
   refine s_ hb (vK b) λl hl hq=>?_
   cases l with
   |o j p=>
    simp only[Gh.gC,hl]
    cases rS:mW rn j with
    |some k=>
     refine .inr ⟨.o k p,rfl,vx (Sv c4 _ _ (O7 rS)) λe=>?_⟩
     subst e
     rw[DO (Sw c4 _ _ (O7 rS))]at hq
     cases hq
    |none=>
     by_cases hj:j<h.c0.i
     ·exact .inr ⟨.o j p,by simp[hj],hq⟩
     ·exact .inl (by simp[hj])
   |_=>simp[qt]at hq
  have mY:∀j,j<h.c0.i->(G1.gC h.c0.i rn).H j=G1.H j:=by
   intro j hj
   have:ny rn j=none:=by
    cases rS:ny rn j with
    |none=>rfl
    |some x=>have:=(A9 j x (O8 rS)).1;omega
   simp[Gh.gC,this]
  have hHr:∀j x,ny rn j=some x->(G1.gC h.c0.i rn).H j=match x with|some id=>G1.H id|none=>λ_=>.slice none 0 0:=by
   intro j x hj
   show(match ny rn j with|some (some id)=>G1.H id|some none=>_|none=>G1.H j)=_
   rw[hj]
   cases x<;>rfl
  have kI:di (λl=>match l with| .f=>False| .x j=>¬j<h.c0.i| .o j _=>mW rn j≠none∨¬j<h.c0.i) (λj=>¬j<h.c0.i) G1 w (G1.gC h.c0.i rn) w:=by
   refine⟨Nat.le_refl _,λb _ hb=>⟨cS b hb,rfl⟩,λb _ hb=>vK b hb,λb l hb hl=>⟨?_,rfl⟩,λj hj=>⟨rfl,λp _=>by rw[mY j (Decidable.not_not.1 hj)]⟩⟩
   cases l with
   |f=>simp[Gh.gC,hb]
   |x j=>simp only[Gh.gC,hb];rw[if_pos (Decidable.not_not.1 hl)]
   |o j p=>
    have h1:mW rn j=none:=by
     cases rS:mW rn j with
     |none=>rfl
     |some k=>exact absurd (.inl (by rw[rS];simp)) hl
    have h2:j<h.c0.i:=Decidable.not_not.1 λhn=>hl (.inr hn)
    simp only[Gh.gC,hb,h1];rw[if_pos h2]
  have kT:=kI.mono (I':=λ_=>True) (λ_ _=>trivial) λ_ hn=>hn
  have bI:∀r v,(r,v)∈h.own->∃j,r=.o j∧j<h.ct.i∧cE (G1.gC h.c0.i rn) w (oL++xs'.map (Lf.ev (oL++e))) j v∧de v=[]:=by
   intro r v hm
   rcases Sy c6 r v hm with⟨j,dp,n,rfl,rfl,m_⟩|⟨j,x,n,m,rfl,rfl,h1,h2,h3,h4,h5⟩
   case inr=>
    refine⟨j,rfl,by omega,?_,rfl⟩
    have ei:=hr.ob j
    rw[h4]at ei
    obtain⟨g0,F,u,g1,g2,g3,g4⟩:=ei
    refine⟨g0,F,u,by rw[<-Lf.gp yi h3];exact g1,by rw[<-Lf.bM g2];exact J_ h5 hl,g3,λi r hi dk=>⟨(g4 i r hi dk).1,λc ys hy=>((g4 i r hi dk).2 c ys hy).aY kI (λp hp=>?_) λhn=>hn h1⟩⟩
    rcases hp with hp|hp
    ·exact hp h2
    ·exact hp h1
   rcases m_ with⟨id,x,h1,h2,h3⟩|⟨h1,h3⟩|⟨x,h1,h2,h3,h4,h5⟩
   ·obtain⟨q1,q2,q3⟩:=A9 j (some id) (O8 h1)
    refine⟨j,rfl,q2,?_,rfl⟩
    have ei:=hr.ob id
    rw[h2]at ei
    obtain⟨t,ht,ho⟩:=ei
    refine⟨t,by rw[<-Lf.bM ht];exact J_ h3 hl,?_⟩
    have oJ:=q3 id rfl
    have gV:∀c p,G1.ω c=some (.o id p)->(G1.gC h.c0.i rn).ω c=some (.o j p):=λc p lU=>by simp[Gh.gC,lU,oJ]
    have hHj:=hHr j _ h1
    cases dp with
    |true=>exact ho.move rfl (λc p lU=>⟨gV c p lU,rfl⟩) λp=>by rw[hHj]
    |false=>exact ho.pQ (λc lU=>gV c [] lU) (by rw[hHj]) cS
   ·obtain⟨q1,q2,_⟩:=A9 j none (O8 h1)
    exact⟨j,rfl,q2,⟨.l [],J_ h3 hl,.nil (by rw[hHr j _ h1])⟩,rfl⟩
   ·refine⟨j,rfl,by omega,?_,rfl⟩
    have ei:=hr.ob j
    rw[h4]at ei
    obtain⟨t,ht,ho⟩:=ei
    refine⟨t,by rw[<-Lf.bM ht];exact J_ h5 hl,ho.aY kI (λp hp=>?_) λhn=>hn h2⟩
    rcases hp with hp|hp
    ·exact hp h3
    ·exact hp h2
  have gJ:∀r v,(r,v)∈h.new->∃ag hs cs,v=.v ag hs∧s1.get r=.v ag cs∧(∀vs,aX G1 w (oL++e) cs vs->aX (G1.gC h.c0.i rn) w (oL++xs'.map (Lf.ev (oL++e))) hs vs)∧(∀j∈de v,j<h.ct.i)∧(∀j,r≠.o j)∧∀b,r=.x b->b<h.c0.i:=by
   intro r v hm
   obtain⟨ag,hs,cs,rfl,h1,h2,h3,h4⟩:=Sz c7 r v hm
   exact⟨ag,hs,cs,rfl,h1,λvs hv=>SC hr hl kT hHr h2 hv,λj hj=>SA (i1:=h.ct.i) (λj x hj=>(A9 j x (O8 hj)).2.1) HR h2 j hj,h3,h4⟩
  have cm:∀r,h.st.get r=.un∨(r,h.st.get r)∈h.kept∨(r,h.st.get r)∈h.own∨(r,h.st.get r)∈h.new:=by
   intro r
   rw[St.tb]
   cases OZ:h.st.look r with
   |none=>exact .inl rfl
   |some v=>
    have:=Eh OZ
    simp only[Head.st,List.mem_append]at this
    exact .inr (by simpa[or_assoc]using this)
  have tR:=Sx c5
  refine⟨λx n hx=>?_,λb=>?_,λi=>?_,λr i hi=>?_,λi hi=>?_,λb l hb=>?_,hr.dn,?_,λi b hb=>⟨Nat.lt_of_lt_of_le (iK i b hb) HR,(hr.bt i b hb).2⟩⟩
  ·rcases cm (.t x n)with hu|hm|hm|hm
   ·rw[hu];trivial
   ·rcases tR _ _ hm with hu|⟨he,hb,_,_⟩
    ·rw[hu];trivial
    ·rw[he]
     rw[he]at hb
     exact((hr.tm x n hx).rU yi hb).aY kT λj hj hn=>hn (SV.pk hb j hj)
   ·obtain⟨j,e1,_⟩:=bI _ _ hm;cases e1
   ·obtain⟨ag,hs,cs,e1,e2,e3,_⟩:=gJ _ _ hm
    rw[e1]
    have:=hr.tm x n hx
    rw[e2]at this
    cases ag with
    |true=>obtain⟨vs,g1,g2⟩:=this;exact⟨vs,g1,e3 vs g2⟩
    |false=>
     obtain⟨c,rfl,g2,g3⟩:=this
     have:=e3 [oz up d a x n] ⟨g2,trivial⟩
     match hs,this with
     | [c'],this=>exact⟨c',rfl,this.1,g3⟩
  ·rcases cm (.x b)with hu|hm|hm|hm
   ·rw[hu];trivial
   ·rcases tR _ _ hm with hu|⟨he,hb,_,hxb⟩
    ·rw[hu];trivial
    ·rw[he]
     rw[he]at hb
     have be:=hxb b rfl
     exact((hr.bx b).rU yi hb).aY kI (λhf=>hf be) (λhn=>hn be) λj hj hn=>hn (SV.pk hb j hj)
   ·obtain⟨j,e1,_⟩:=bI _ _ hm;cases e1
   ·obtain⟨ag,hs,cs,e1,e2,e3,_,_,e4⟩:=gJ _ _ hm
    rw[e1]
    have:=hr.bx b
    rw[e2]at this
    obtain⟨g1,bT,elem,g2,g3⟩:=this
    refine⟨?_,bT,elem,g2,e3 _ g3⟩
    show(G1.gC h.c0.i rn).ω (G1.β b)=_
    simp only[Gh.gC,g1]
    rw[if_pos (e4 b rfl)]
  ·rcases cm (.o i)with hu|hm|hm|hm
   ·rw[hu];trivial
   ·rcases tR _ _ hm with hu|⟨he,hb,hoi,_⟩
    ·rw[hu];trivial
    ·rw[he]
     rw[he]at hb
     obtain⟨q1,q2⟩:=hoi i rfl
     refine((hr.ob i).rU yi hb).aY kI (λp hp=>?_) (λhn=>hn q1) λj hj hn=>hn (SV.pk hb j hj)
     rcases hp with hp|hp
     ·exact hp q2
     ·exact hp q1
   ·obtain⟨j,e1,_,e2,_⟩:=bI _ _ hm;cases e1;exact e2
   ·obtain⟨ag,hs,cs,e1,e2,e3,_,e4,_⟩:=gJ _ _ hm;exact absurd rfl (e4 i)
  ·rcases cm r with hu|hm|hm|hm
   ·rw[hu]at hi;simp[de]at hi
   ·rcases tR _ _ hm with hu|⟨he,hb,_,_⟩
    ·rw[hu]at hi;simp[de]at hi
    ·exact Nat.lt_of_lt_of_le (SV.pk hb i hi) HR
   ·obtain⟨j,_,_,_,e2⟩:=bI _ _ hm;rw[e2]at hi;cases hi
   ·obtain⟨ag,hs,cs,e1,e2,e3,e4,_⟩:=gJ _ _ hm;exact e4 i hi
  ·have key:∀r:bn,(r=.x i∨r=.o i)->h.st.get r≠.un->i<h.ct.i:=by
    intro r SE dk
    rcases cm r with hu|hm|hm|hm
    ·exact absurd hu dk
    ·rcases tR _ _ hm with hu|⟨he,hb,g1,g2⟩
     ·exact absurd hu dk
     ·rcases SE with rfl|rfl
      ·exact Nat.lt_of_lt_of_le (g2 i rfl) HR
      ·exact Nat.lt_of_lt_of_le (g1 i rfl).1 HR
    ·obtain⟨j,e1,e2,_⟩:=bI _ _ hm
     rcases SE with rfl|rfl
     ·cases e1
     ·cases e1;exact e2
    ·obtain⟨ag,hs,cs,e1,e2,e3,_,e4,e5⟩:=gJ _ _ hm
     rcases SE with rfl|rfl
     ·exact Nat.lt_of_lt_of_le (e5 i rfl) HR
     ·exact absurd rfl (e4 i)
   rcases hi with hi|hi
   ·exact key _ (.inl rfl) hi
   ·exact key _ (.inr rfl) hi
  ·cases nS:G1.ω b with
   |none=>simp[Gh.gC,nS]at hb
   |some l'=>
    have be:=(hr.ia b l' nS).2
    refine⟨?_,be⟩
    cases l' with
    |f=>simp[Gh.gC,nS]at hb;subst hb;exact J7
    |x j=>
     simp only[Gh.gC,nS]at hb
     split at hb
     ·rename_i hj;cases hb;exact Nat.lt_of_lt_of_le hj HR
     ·cases hb
    |o j p=>
     simp only[Gh.gC,nS]at hb
     split at hb
     ·rename_i k hk
      cases hb
      exact(A9 k _ (O7 hk)).2.1
     ·split at hb
      ·rename_i hj;cases hb;exact Nat.lt_of_lt_of_le hj HR
      ·cases hb
  ·obtain⟨b1,b2,b3,b4,b5,b6,b7⟩:=hr.base
   refine⟨b1,b2,b3,b4,λb hb h0=>⟨vK b (b5 b hb h0).1,(b5 b hb h0).2⟩,λb hb=>⟨by simp[Gh.gC,(b6 b hb).1],(b6 b hb).2⟩,b7⟩
end
def EF:Ex->Exit
 | .normal=>.normal
 | .exit id=>.exit id
 | .ret=>.ret
section
variable {B:eI} {f:Fr} {S:Nat->af} {P:Program} {cx:Cx} {cR:mV} {cC eW:Nat} {R:Nat} {out:List T}
theorem yg.ext{Z Z':Zb}{k:KP}{Ψ:Act->World->Prop}(h:yg S R out B f Z k Ψ)(hK:∃pre,Z'.K=pre++Z.K)(mQ:∃e,Z'.ρ=Z.ρ++e):yg S R out B f Z' k Ψ:=by
 rintro lv s ct fs p a w hk ⟨K,ρ,G,h1,h2,⟨pre,h3⟩,⟨e,h4⟩,h5⟩
 obtain⟨agz,h6⟩:=hK
 obtain⟨e',h7⟩:=mQ
 exact h lv s ct fs p a w hk ⟨K,ρ,G,h1,h2,⟨pre++agz,by rw[h3,h6,List.append_assoc]⟩,⟨e'++e,by rw[h4,h7,List.append_assoc]⟩,h5⟩
theorem SF{K:List af}{ρ:List T}{J:af}{h:Head}{lv tag:Nat}{Ψ:Act->World->Prop}(hlv:K.length=lv)(hl:ρ.length=h.c0.a)(iK:∀i b,B.bt i=some b->i<h.c0.i)
  (hJ:∀ts a w G,J ts=some out->(ρ++ts).length=h.ct.a->Rel (λi=>i<h.ct.i) B f.d f.up h.st (ρ++ts) G a w->a.tmps.size=f.nt->Ψ a w):yg S R out B f ⟨J::K,ρ⟩ (Qj f.d h lv tag) Ψ:=by
 rintro lv2 s' gI jf p a w hk ⟨K2,EG,G,h1,h2,⟨pre,h3⟩,⟨e,h4⟩,h5,h6,h7,h8,_⟩
 unfold Qj at hk
 split at hk
 ·rename_i xs hm
  cases hk
  simp only at h3 h4
  subst h4
  obtain⟨g1,G',g2⟩:=SD hm h7 hl iK
  simp only[PL.den]at h1
  have agA:K2[lv2-lv-1]?=some J:=by
   rw[h3]
   have:K2.length=pre.length+(K.length+1):=by rw[h3];simp
   rw[List.getElem?_append_right (by omega),show lv2-lv-1-pre.length=0 by omega]
   rfl
  rw[agA]at h1
  exact hJ _ a w G' h1 g1 g2 h8
 ·cases hk;cases h1
theorem Ka{Z:Zb}{K0:KP}{h:Head}{lv:Nat}{fs:jF}{k b:PL}{a:Act}{w:World}{s:St}{ct:Ct}{js:Js}{Ψ:Act->World->Prop}(hh:h=CK f.d s ct js)(hk:K0 lv h.st h.ct fs=some k)(hS:yg S R out B f Z K0 Ψ)
  (bE:At S R out B f Z XT (.join k b) lv s ct fs a w):∃Z',(∃pre,Z'.K=pre++Z.K)∧(∃e,Z'.ρ=Z.ρ++e)∧At S R out B f Z' XT b (lv+1) s ct fs a w∧∀tag,yg S R out B f Z' (Qj f.d h lv tag) Ψ:=by
 obtain⟨K,ρ,G,h1,h2,⟨pre,h3⟩,⟨e,h4⟩,h5,h6,h7,h8,_⟩:=bE
 simp only[PL.den]at h1
 have Hy:h.c0=ct:=by rw[hh];rfl
 refine⟨⟨(λts=>k.den S R K (ρ++ts))::K,ρ⟩,⟨_::pre,by simp[h3];rfl⟩,⟨e,h4⟩,⟨_,ρ,G,h1,by simp[h2],⟨[],rfl⟩,⟨[],by simp⟩,h5,h6,h7,h8,trivial⟩,λtag=>?_⟩
 refine SF h2 (by rw[Hy];exact h5) (λi b hb=>by rw[Hy];exact(h7.bt i b hb).1) λts a w G' hd hl hr hs=>?_
 exact hS lv h.st h.ct fs k a w hk ⟨K,ρ++ts,G',hd,h2,⟨pre,h3⟩,⟨e++ts,by rw[h4,List.append_assoc]⟩,hl,h6.ext,hr,hs,trivial⟩
theorem At.at{Z:Zb}{X:Gh->World->List T->Prop}{p:PL}{lv:Nat}{s:St}{ct:Ct}{fs:jF}{a:Act}{w:World}(h:At S R out B f Z X p lv s ct fs a w):True:=trivial
theorem SG{Z:Zb}{c:Operand}{x y:Code}{tag lv:Nat}{s:St}{ct:Ct}{fs:jF}{p:PL}{a:Act}{w:World}{Q:Exit->Act->World->Prop}{cx' cy':jF->Option PL}
  (h:DH tag (ch f.d s.get c) cx' cy' s fs=some p)(bE:At S R out B f Z XT p lv s ct fs a w)(hx:∀fs p,cx' fs=some p->At S R out B f Z XT p lv s ct fs a w->x.wp P Q a w)
  (hy:∀fs p,cy' fs=some p->At S R out B f Z XT p lv s ct fs a w->y.wp P Q a w):(Code.cond c x y).wp P Q a w:=by
 obtain⟨K,ρ,G,h1,h2,h3,h4,h5,h6,h7,h8,_⟩:=bE
 have jy:=(CM h7 c).1
 unfold DH at h
 split at h
 ·rename_i b hd
  have hc:=En hd jy h6
  refine wp_cond hc ?_
  cases b with
  |true=>exact hx fs p h ⟨K,ρ,G,h1,h2,h3,h4,h5,h6,h7,h8,trivial⟩
  |false=>exact hy fs p h ⟨K,ρ,G,h1,h2,h3,h4,h5,h6,h7,h8,trivial⟩
 ·rename_i n hd
  simp only[cG,br]at h
  obtain⟨px,hpx,py,hpy,rfl⟩:=h
  obtain⟨b,hb,hp⟩:=JQ h1
  have hc:=En (Ep (b:=b) hd) jy (h6.cons hb)
  refine wp_cond hc ?_
  cases b with
  |true=>exact hx _ px hpx ⟨K,ρ,G,hp,h2,h3,h4,h5,h6.cons hb,h7,h8,trivial⟩
  |false=>exact hy _ py hpy ⟨K,ρ,G,hp,h2,h3,h4,h5,h6.cons hb,h7,h8,trivial⟩
 ·cases h;cases h1
 ·cases h;cases h1
theorem SH(E:Env P cx S)(hI:A0 P S R out B cR)(tF:P.follows .mixedOrders=true):∀(c:Code) (vp lv:Nat) (s:St) (ct:Ct) (fs:jF) (KE:KE) (p:PL) (a:Act) (w:World) (Z:Zb) (Q:Exit->Act->World->Prop),
  wy f.nt c=true->comp cx cR cC f.d c vp lv s ct fs KE=some p->At S R out B f Z XT p lv s ct fs a w->(∀e,yg S R out B f Z (KE e) (Q (EF e)))->c.wp P Q a w:=by
 intro c
 induction c with
 |skip=>intro vp lv s ct fs KE p a w Z Q _ h bE hK;exact wp_skip (hK .normal lv s ct fs p a w h bE)
 |label l=>intro vp lv s ct fs KE p a w Z Q _ h bE hK;exact wp_label (hK .normal lv s ct fs p a w h bE)
 |seq x y ihx ihy=>
  intro vp lv s ct fs KE p a w Z Q hd h bE hK
  simp only[wy,bk]at hd
  refine wp_seq (ihx 0 lv s ct fs _ p a w Z _ hd.1 h bE λe=>?_)
  cases e with
  |normal=>exactλlv s ct fs p a w hk bE=>ihy 0 lv s ct fs KE p a w Z Q hd.2 hk bE hK
  |exit id=>exact hK (.exit id)
  |ret=>exact hK .ret
 |region id ops draw=>
  intro vp lv s ct fs KE p a w Z Q hd h bE hK
  have hn:∀o∈ops.toList,∀n,o.dst=some n->n<f.nt:=by
   intro o ho n hn
   have:=List.all_eq_true.1 hd o ho
   rw[hn]at this
   exact wS this
  have agB:∀p,At S R out B f Z XT p lv s ct fs a w->At S R out B f Z XT p lv (IJ cx cC f.d id s) ct fs a w:=by
   rintro p ⟨K,ρ,G,h1,h2,h3,h4,h5,h6,h7,h8,_⟩
   unfold IJ
   cases cx.qB cC 4 id with
   |none=>exact⟨K,ρ,G,h1,h2,h3,h4,h5,h6,h7,h8,trivial⟩
   |some js=>
    obtain⟨G',h7'⟩:=h7.jv (js:=js) (d':=f.d)
    exact⟨K,ρ,G',h1,h2,h3,h4,h5,h6,h7',h8,trivial⟩
  have SI:∀(s0:St) p,At S R out B f Z XT p lv s0 ct fs a w->At S R out B f Z XT p lv (DJ cx cC f.d id s0 ct).1 (DJ cx cC f.d id s0 ct).2 fs a w:=by
   rintro s0 p ⟨K,ρ,G,h1,h2,h3,h4,h5,h6,h7,h8,_⟩
   unfold DJ
   cases cx.qB cC 5 id with
   |none=>exact⟨K,ρ,G,h1,h2,h3,h4,h5,h6,h7,h8,trivial⟩
   |some js=>
    obtain⟨⟨G',h7'⟩,g2,_⟩:=h7.jG (js:=js) (d':=f.d)
    exact⟨K,ρ,G',h1,h2,h3,h4,h5.trans g2.symm,h6,h7',h8,trivial⟩
  have lh:=SI _ p (agB p bE)
  simp only[comp]at h
  split at h
  ·exact Sl E hI tF hn (hK .normal) h lh
  ·rename_i js hj
   simp only[cG,br]at h
   obtain⟨k,hk,b,hb,rfl⟩:=h
   obtain⟨Z',z1,z2,vH,hS⟩:=Ka rfl hk (hK .normal) lh
   exact Sl E hI tF hn (hS _) hb vH
 |cond c x y ihx ihy=>
  intro vp lv s ct fs KE p a w Z Q hd h bE hK
  simp only[wy,bk]at hd
  simp only[comp]at h
  split at h
  ·exact SG h bE (λfs p hp bE=>ihx 0 lv s ct fs KE p a w Z Q hd.1 hp bE hK) (λfs p hp bE=>ihy 0 lv s ct fs KE p a w Z Q hd.2 hp bE hK)
  ·rename_i js hj
   simp only[cG,br]at h
   obtain⟨k,hk,b,hb,rfl⟩:=h
   obtain⟨Z',z1,z2,vH,hS⟩:=Ka rfl hk (hK .normal) bE
   have hKE:∀tag e,yg S R out B f Z' (z8 f.d (CK f.d s ct js) lv tag KE e) (Q (EF e)):=by
    intro tag e
    cases e with
    |normal=>exact hS tag
    |exit id=>exact(hK (.exit id)).ext z1 z2
    |ret=>exact(hK .ret).ext z1 z2
   exact SG hb vH (λfs p hp bE=>ihx 0 (lv+1) s ct fs _ p a w Z' Q hd.1 hp bE (hKE _)) (λfs p hp bE=>ihy 0 (lv+1) s ct fs _ p a w Z' Q hd.2 hp bE (hKE _))
 |block id body ih=>
  intro vp lv s ct fs KE p a w Z Q hd h bE hK
  have wT:∀(Z:Zb) (KE':Go.Proofs.YtjimmglpkndemaaGreatC.KE),(∀e,yg S R out B f Z (KE' e) (Q (EF e)))->∀e,yg S R out B f Z (DE id KE' e) (Exit.inBlock id Q (EF e)):=by
   intro Z KE' hK e
   cases e with
   |normal=>exact hK .normal
   |ret=>exact hK .ret
   |exit i=>
    intro lv s ct fs p a w hk bE
    simp only[DE]at hk
    show(if i=id then Q .normal a w else Q (.exit i) a w)
    cases hb:Nat.beq i id with
    |true=>
     rw[hb]at hk
     rw[if_pos (dN hb)]
     exact hK .normal lv s ct fs p a w hk bE
    |false=>
     rw[hb]at hk
     rw[if_neg (λe=>by subst e;simp at hb)]
     exact hK (.exit i) lv s ct fs p a w hk bE
  simp only[comp]at h
  split at h
  ·exact wp_block (ih id lv s ct fs _ p a w Z _ hd h bE (wT Z KE hK))
  ·rename_i js hj
   simp only[cG,br]at h
   obtain⟨k,hk,b,hb,rfl⟩:=h
   obtain⟨Z',z1,z2,vH,hS⟩:=Ka rfl hk (hK .normal) bE
   refine wp_block (ih id (lv+1) s ct fs _ b a w Z' _ hd hb vH (wT Z' _ λe=>?_))
   cases e with
   |normal=>exact hS _
   |exit id=>exact(hK (.exit id)).ext z1 z2
   |ret=>exact(hK .ret).ext z1 z2
 |loop body ih=>
  intro vp lv s ct fs KE p a w Z Q hd h bE hK
  simp only[comp]at h
  split at h
  ·cases h;obtain⟨K,ρ,G,h1,_⟩:=bE;cases h1
  ·rename_i js hj
   split at h
   ·cases h;obtain⟨K,ρ,G,h1,_⟩:=bE;cases h1
   ·rename_i xs hm
    simp only[cG,br]at h
    obtain⟨b,hb,rfl⟩:=h
    obtain⟨K,ρ,G,h1,h2,⟨pre,h3⟩,⟨e,h4⟩,h5,h6,h7,h8,_⟩:=bE
    have iK:∀i b,B.bt i=some b->i<(CK f.d s ct js).c0.i:=λi b hb=>(h7.bt i b hb).1
    have key:∀(n:Nat) (ts:List T) (a:Act) (w:World) (G:Gh),iter (λself ts=>b.den S R (self::K) (ρ++ts)) n ts=some out->(ρ++ts).length=(CK f.d s ct js).ct.a->
      Rel (λi=>i<(CK f.d s ct js).ct.i) B f.d f.up (CK f.d s ct js).st (ρ++ts) G a w->a.tmps.size=f.nt->Code.rounds P body Q n a w:=by
     intro n
     induction n with
     |zero=>intro ts a w G hi;cases hi
     |succ n ihn=>
      intro ts a w G hi hl hr hs
      rw[rounds_succ]
      refine ih 0 (lv+1) _ _ fs _ b a w ⟨iter (λself ts=>b.den S R (self::K) (ρ++ts)) n::K,ρ⟩ _ hd hb ⟨_,ρ++ts,G,hi,by simp[h2],⟨[],rfl⟩,⟨ts,rfl⟩,hl,h6.ext,hr,hs,trivial⟩ λe'=>?_
      cases e' with
      |normal=>exact SF h2 h5 iK λts a w G hJ hl hr hs=>ihn ts a w G hJ hl hr hs
      |exit id=>exact(hK (.exit id)).ext ⟨_::pre,by simp[h3];rfl⟩ ⟨e,h4⟩
      |ret=>exact(hK .ret).ext ⟨_::pre,by simp[h3];rfl⟩ ⟨e,h4⟩
    simp only[PL.den]at h1
    obtain⟨g1,G',g2⟩:=SD (e:=[]) hm (by rw[List.append_nil];exact h7) h5 iK
    rw[List.append_nil]at g1 g2
    exact wp_loop_rounds R (key R _ a w G' h1 g1 g2 h8)
 |exit id=>intro vp lv s ct fs KE p a w Z Q _ h bE hK;exact wp_exit (hK (.exit id) lv s ct fs p a w h bE)
 |ret=>intro vp lv s ct fs KE p a w Z Q _ h bE hK;exact wp_ret (hK .ret lv s ct fs p a w h bE)
 |_=>intros;rename_i h bE _;simp only[comp,br]at h;subst h;obtain⟨K,ρ,G,h1,_⟩:=bE;cases h1
end
section
variable {M:Nat->Prop} {B:eI} {d:Nat} {up:Nat->Nat->Value} {ρ:List T} {G:Gh} {a:Act} {w:World} {s:St} {S:Nat->af} {P:Program} {cx:Cx} {R:Nat} {out:List T}
theorem agE{t:Nat}{ti:TI}(hT:td P t ti){b off:Nat}{vs:List Value}(hl:vs.length=ti.sz)(hc:∀j v,vs[j]?=some v->w.cell? ⟨b,off+j,none⟩=some v):
  (loadVar t ⟨b,off,none⟩).run P w=.ok (if ti.ag then .agg vs.toArray else vs.getD 0 undef) w:=by
 have:=Qz (P:=P) hT hl hc
 simpa[Instr.loadAt,Instr.sureAddr]using this
def yj(tmps:Array Value):ResultVar->Sem Value
 | .tmp t=>pure (tmps.getD t undef)
 | .cell a t=>do loadVar t (<-asAddr (tmps.getD a undef))
theorem EH(dT:eu P cx)(hr:Rel M B d up s ρ G a w):∀{rvs:List ResultVar} {rs:List SV},Go.Proofs.YtjimmglpkndemaaGreatC.results cx d s rvs=some rs->
  ∃us:List Value,(rvs.mapM (yj a.tmps)).run P w=.ok us w∧cP G w ρ rs us∧∀v∈rs,∀i∈de v,M i
 | [],rs,h=>by
  simp[Go.Proofs.YtjimmglpkndemaaGreatC.results]at h
  subst h
  exact⟨[],rfl,trivial,λv hv=>by cases hv⟩
 | .tmp t::rvs,rs,h=>by
  simp only[Go.Proofs.YtjimmglpkndemaaGreatC.results,cG,br]at h
  obtain⟨vs,o7,rfl⟩:=h
  obtain⟨us,g1,g2,g3⟩:=EH dT hr o7
  have ht:=hr.tm d t (Nat.le_refl _)
  simp only[oz,if_true]at ht
  refine⟨a.tmps.getD t undef::us,?_,⟨ht,g2⟩,λv hv=>?_⟩
  ·rw[List.mapM_cons,Sem.run_bind]
   simp only[yj,Sem.run_pure,Result.andThen_ok,Sem.run_bind,g1]
  ·rcases List.mem_cons.1 hv with rfl|hv
   ·exact hr.fQ _
   ·exact g3 v hv
 | .cell ad t::rvs,rs,h=>by
  simp only[Go.Proofs.YtjimmglpkndemaaGreatC.results,cG]at h
  obtain⟨ti,fJ,h⟩:=h
  have ht:=hr.tm d ad (Nat.le_refl _)
  simp only[oz,if_true]at ht
  split at h
  ·rename_i bx off hpt
   split at h
   ·rename_i ag cs uK
    cases hb:Nat.ble (off+ti.sz) cs.length with
    |false=>simp[hb]at h
    |true=>
     simp only[hb,cond_true,cG,br]at h
     obtain⟨vs,o7,rfl⟩:=h
     obtain⟨us,g1,g2,g3⟩:=EH dT hr o7
     rw[hpt]at ht
     have pP:=hr.bx bx
     rw[uK]at pP
     obtain⟨_,bT,elem,hh,kg⟩:=pP
     have hle:=Nat.le_of_ble_eq_true hb
     have hlen:=kg.length
     simp only[Array.length_toList]at hlen
     have hT:=dT.ty _ _ fJ
     have oE:=aX.take ti.sz (aX.drop off kg)
     have pi:((bT.toList.drop off).take ti.sz).length=ti.sz:=by simp;omega
     have eB:=agE (P:=P) (w:=w) (b:=G.β bx) (off:=off) hT pi (λj v hj=>by
      rw[xN hh]
      have be:=(List.getElem?_eq_some_iff.1 hj).1
      rw[List.getElem?_take,if_pos (by omega),List.getElem?_drop]at hj
      simpa using hj)
     refine⟨_::us,?_,⟨Ah hT oE pi,g2⟩,λv hv=>?_⟩
     ·rw[List.mapM_cons,Sem.run_bind]
      simp only[yj,Sem.run_bind]
      rw[show a.tmps.getD ad undef=.pointer (some ⟨G.β bx,off,none⟩) from ht]
      simp only[asAddr,Sem.run_pure,Result.andThen_ok,eB,g1]
     ·rcases List.mem_cons.1 hv with rfl|hv
      ·intro i hi
       have hm:=hr.fQ (.x bx)
       rw[uK]at hm
       exact hm i (IY _ _ i (IZ _ _ i hi))
      ·exact g3 v hv
   ·cases h
  ·cases h
theorem SJ{fn:Func}{us:List Value}(h:(fn.results.toList.mapM (yj a.tmps)).run P w=.ok us w):(Go.results fn a.tmps).run P w=.ok (nc us) w:=by
 have h2:(fn.results.mapM (yj a.tmps)).run P w=.ok us.toArray w:=by
  rw[Array.mapM_eq_mapM_toList,Sem.run_map,h]
  rfl
 have h3:Go.results fn a.tmps=(do let vs <-fn.results.mapM (yj a.tmps);pure (if h:vs.size=1 then vs[0]else .tuple vs)):=by
  unfold Go.results
  congr 1
 rw[h3,Sem.run_bind,h2]
 simp only[Result.andThen_ok,Sem.run_pure,nc,List.size_toArray]
 by_cases hl:us.length=1
 ·simp[hl]
 ·simp[hl]
theorem EI(d e n:Nat):∀s:St,(rv d s).get (.t e n)=if d<=e then .un else s.get (.t e n)
 | []=>by simp[rv,St.get]
 |(.t e' n',v)::s=>by
  simp only[rv]
  cases hb:Nat.ble d e' with
  |true=>
   have:=Nat.le_of_ble_eq_true hb
   simp only[cond_true]
   rw[EI d e n s]
   split
   ·rfl
   ·simp only[St.get]
    have:(bn.t e' n').beq (.t e n)=false:=by
     cases hq:(bn.t e' n').beq (.t e n)with
     |false=>rfl
     |true=>have:=bn.beq_iff.1 hq;cases this;omega
    rw[this];rfl
  |false=>
   have be:¬d<=e':=λh=>by rw[Nat.ble_eq_true_of_le h]at hb;cases hb
   simp only[cond_false,St.get]
   cases hq:(bn.t e' n').beq (.t e n)with
   |true=>have:=bn.beq_iff.1 hq;cases this;simp[be]
   |false=>simp only[cond_false];exact EI d e n s
 |(.x b,v)::s=>by
  simp only[rv,St.get]
  rw[show(bn.x b).beq (.t e n)=false from rfl]
  exact EI d e n s
 |(.o b,v)::s=>by
  simp only[rv,St.get]
  rw[show(bn.o b).beq (.t e n)=false from rfl]
  exact EI d e n s
theorem EJ(d:Nat)(r:bn)(hr:∀e n,r≠.t e n):∀s:St,(rv d s).get r=s.get r
 | []=>rfl
 |(.t e' n',v)::s=>by
  have hb:(bn.t e' n').beq r=false:=by
   cases hq:(bn.t e' n').beq r with
   |false=>rfl
   |true=>exact absurd (bn.beq_iff.1 hq).symm (hr e' n')
  simp only[rv]
  cases Nat.ble d e' with
  |true=>simp only[cond_true,St.get,hb,cond_false];exact EJ d r hr s
  |false=>simp only[cond_false,St.get,hb];exact EJ d r hr s
 |(.x b,v)::s=>by
  simp only[rv,St.get]
  rw[EJ d r hr s]
 |(.o b,v)::s=>by
  simp only[rv,St.get]
  rw[EJ d r hr s]
theorem EK(d:Nat):∀(vs:List SV) (s:St) (i:Nat) (r:bn),(vq d s i vs).get r=match r with
  | .t e n=>if e=d∧i<=n∧n<i+vs.length then vs.getD (n-i) .un else s.get (.t e n)
  |r=>s.get r
 | [],s,i,r=>by
  cases r with
  |t e n=>simp only[vq,List.length_nil];rw[if_neg (by omega)]
  |_=>rfl
 |v::vs,s,i,r=>by
  simp only[vq]
  rw[EK d vs (s.set (.t d i) v) (i+1) r]
  cases r with
  |t e n=>
   simp only[List.length_cons]
   by_cases h1:e=d∧i+1<=n∧n<i+1+vs.length
   ·rw[if_pos h1,if_pos ⟨h1.1,by omega,by omega⟩]
    rw[show n-i=(n-(i+1))+1 by omega]
    simp
   ·rw[if_neg h1]
    by_cases h2:e=d∧n=i
    ·obtain⟨rfl,rfl⟩:=h2
     rw[if_pos ⟨rfl,by omega,by omega⟩,St.cg]
     simp
    ·rw[if_neg (by omega),St.eh _ _ (λh=>by cases h;exact h2 ⟨rfl,rfl⟩)]
  |x b=>exact St.eh _ _ (by simp)
  |o b=>exact St.eh _ _ (by simp)
theorem cP.get{vs:List SV}{us:List Value}(h:cP G w ρ vs us):∀(i:Nat) (v:SV),vs[i]?=some v->∃u,us[i]?=some u∧cD G w ρ v u:=by
 induction vs generalizing us with
 |nil=>intro i v hi;simp at hi
 |cons x vs ih=>
  cases us with
  |nil=>exact h.elim
  |cons u us=>
   intro i v hi
   cases i with
   |zero=>simp at hi;subst hi;exact⟨u,rfl,h.1⟩
   |succ i=>simpa using ih h.2 i v (by simpa using hi)
theorem Rel.enter{vs:List SV}{args:List Value}{nt:Nat}(hr:Rel M B d up s ρ G a w)(hv:cP G w ρ vs args)(hm:∀v∈vs,∀i∈de v,M i)(hn:vs.length<=nt):
  Rel M B (d+1) (oz up d a) (vq (d+1) (rv (d+1) s) 0 vs) ρ G {tmps:=args.toArray++Array.replicate (nt-args.toArray.size) undef,defers:=[]} w∧
   (args.toArray++Array.replicate (nt-args.toArray.size) undef:Array Value).size=nt:=by
 have hl:=hv.length
 have hg:∀r,(∀e n,r≠.t e n)->(vq (d+1) (rv (d+1) s) 0 vs).get r=s.get r:=by
  intro r hr
  rw[EK]
  cases r with
  |t e n=>exact absurd rfl (hr e n)
  |x b=>exact EJ _ _ hr s
  |o b=>exact EJ _ _ hr s
 refine⟨⟨λe n he=>?_,λb=>?_,λi=>?_,λr i hi=>?_,λi hi=>?_,hr.ia,rfl,hr.base,hr.bt⟩,by simp;omega⟩
 ·rw[EK]
  simp only[Nat.zero_le,true_and,Nat.zero_add,Nat.sub_zero]
  by_cases Pf:e=d+1
  ·subst Pf
   by_cases hnl:n<vs.length
   ·rw[if_pos ⟨rfl,hnl⟩]
    obtain⟨u,hu,qu⟩:=hv.get n vs[n] (List.getElem?_eq_getElem hnl)
    rw[List.getD_eq_getElem?_getD,List.getElem?_eq_getElem hnl]
    have:oz (oz up d a) (d+1) {tmps:=args.toArray++Array.replicate (nt-args.toArray.size) undef,defers:=[]} (d+1) n=u:=by
     simp only[oz,if_true]
     rw[Array.getD_eq_getD_getElem?,Array.getElem?_append_left (by simp;omega),List.getElem?_toArray,hu]
     rfl
    rw[this]
    exact qu
   ·rw[if_neg (by omega),EI,if_pos (Nat.le_refl _)]
    trivial
  ·rw[if_neg (by omega),EI,if_neg (by omega)]
   have:oz (oz up d a) (d+1) {tmps:=args.toArray++Array.replicate (nt-args.toArray.size) undef,defers:=[]} e n=oz up d a e n:=by
    show(if e=d+1 then _ else _)=_
    rw[if_neg Pf]
   rw[this]
   exact hr.tm e n (by omega)
 ·rw[hg _ (by simp)];exact hr.bx b
 ·rw[hg _ (by simp)];exact hr.ob i
 ·rw[EK]at hi
  cases r with
  |t e n=>
   simp only[Nat.zero_le,true_and,Nat.zero_add,Nat.sub_zero]at hi
   split at hi
   ·rename_i hc
    rw[List.getD_eq_getElem?_getD,List.getElem?_eq_getElem hc.2]at hi
    exact hm _ (List.getElem_mem hc.2) i hi
   ·rw[EI]at hi
    split at hi
    ·simp[de]at hi
    ·exact hr.fQ _ i hi
  |x b=>
   simp only at hi
   exact hr.fQ (.x b) i (by rwa[EJ _ _ (by simp) s]at hi)
  |o b=>
   simp only at hi
   exact hr.fQ (.o b) i (by rwa[EJ _ _ (by simp) s]at hi)
 ·rw[hg _ (by simp),hg _ (by simp)]at hi;exact hr.key i hi
theorem Rel.SK{a2:Act}{w2:World}{G2:Gh}{s2:St}{EG:List T}(hd:a.defers=[])(hr:Rel M B (d+1) (oz up d a) s2 EG G2 a2 w2):Rel M B d up (rv (d+1) s2) EG G2 a w2:=by
 have hg:∀r,(∀e n,r≠.t e n)->(rv (d+1) s2).get r=s2.get r:=λr hr=>EJ _ _ hr s2
 refine⟨λe n he=>?_,λb=>?_,λi=>?_,λr i hi=>?_,λi hi=>?_,hr.ia,hd,hr.base,hr.bt⟩
 ·rw[EI,if_neg (by omega)]
  have:=hr.tm e n (by omega)
  have e1:oz (oz up d a) (d+1) a2 e n=oz up d a e n:=by
   show(if e=d+1 then _ else _)=_
   rw[if_neg (by omega)]
  rw[e1]at this
  exact this
 ·rw[hg _ (by simp)];exact hr.bx b
 ·rw[hg _ (by simp)];exact hr.ob i
 ·cases r with
  |t e n=>
   rw[EI]at hi
   split at hi
   ·simp[de]at hi
   ·exact hr.fQ _ i hi
  |x b=>exact hr.fQ (.x b) i (by rwa[hg _ (by simp)]at hi)
  |o b=>exact hr.fQ (.o b) i (by rwa[hg _ (by simp)]at hi)
 ·rw[hg _ (by simp),hg _ (by simp)]at hi;exact hr.key i hi
theorem SL(E:Env P cx S)(tF:P.follows .mixedOrders=true):∀n,A0 P S R out B (DK cx n)
 |0=>by intro f g vs lv s ct fs kk p K0 a w args Ψ h;cases h
 |n+1=>by
  intro f g vs lv s ct fs kk p Z a w args Ψ h bE hk
  simp only[DK,cG]at h
  obtain⟨fn,RX,c,hc,h⟩:=h
  obtain⟨hf,jl⟩:=E.cR g fn RX
  refine⟨jl,?_⟩
  cases hb:(Nat.ble vs.length fn.ntmps&&wy fn.ntmps c)with
  |false=>simp[hb]at h
  |true=>
   simp only[hb,cond_true]at h
   simp only[bk]at hb
   obtain⟨K,ρ,G,h1,h2,h3,h4,h5,h6,h7,h8,h9,nz⟩:=bE
   have hle:=Nat.le_of_ble_eq_true hb.1
   obtain⟨q1,q2⟩:=h7.enter h9 nz hle
   refine calls_of_wp hf hc ?_
   refine SH (f:=⟨f.d+1,oz f.up f.d a,fn.ntmps⟩) E (SL E tF n) tF c 0 lv _ ct fs _ p _ w Z _ hb.2 h ⟨K,ρ,G,h1,h2,h3,h4,h5,h6,q1,q2,trivial⟩ λe=>?_
   have fin:∀(qv:Nat) (s':St) (gI:Ct) (jf:jF) (p':PL) (a2:Act) (w2:World),(Go.Proofs.YtjimmglpkndemaaGreatC.results cx (f.d+1) s' fn.results.toList).bind (λrs=>kk rs qv (rv (f.d+1) s') gI jf)=some p'->
     At S R out B ⟨f.d+1,oz f.up f.d a,fn.ntmps⟩ Z XT p' qv s' gI jf a2 w2->a2.defers=[]∧∃v,(Go.results fn a2.tmps).run P w2=.ok v w2∧∃v',Ending.returned v=.returned v'∧Ψ v' w2:=by
    rintro qv s' gI jf p' a2 w2 cK ⟨K2,EG,G2,g1,g2,g3,g4,g5,g6,g7,g8,_⟩
    rw[cG]at cK
    obtain⟨rs,JK,cK⟩:=cK
    obtain⟨us,u1,u2,u3⟩:=EH E.dT g7 JK
    refine⟨g7.dn,nc us,SJ u1,nc us,rfl,?_⟩
    exact hk rs qv _ gI jf p' w2 us cK ⟨K2,EG,G2,g1,g2,g3,g4,g5,g6,g7.SK h7.dn,h8,u2,u3⟩
   cases e with
   |normal=>intro qv s' gI jf p' a2 w2 cK lh;exact fin qv s' gI jf p' a2 w2 cK lh
   |ret=>intro qv s' gI jf p' a2 w2 cK lh;exact fin qv s' gI jf p' a2 w2 cK lh
   |exit id=>intro qv s' gI jf p' a2 w2 cK lh;cases cK
theorem SM{k:Wk}{c:Ce}{x:Lf}{v:Value}(hk:∀id,cE G w ρ id (k.get (.o id)))(h:k.plain c=some x)(hr:fT G w ρ c v):∃t,x.ev ρ=t∧eM G.q w t v:=by
 unfold Wk.plain at h
 split at h
 ·cases h;obtain⟨t,h1,h2⟩:=hr;exact⟨t,Lf.bM h1,h2⟩
 ·cases h
  have hv:v=.slice none 0 0:=hr
  subst hv
  exact⟨_,rfl,.nil⟩
 ·rename_i id
  split at h
  ·rename_i y hy
   cases h
   have ei:=hk id
   rw[hy]at ei
   obtain⟨t,h1,h2,_⟩:=ei
   obtain⟨p,hp,hv⟩:=hr
   simp only[l7,br]at hp
   subst hp
   exact⟨t,Lf.bM h1,by rw[hv];exact h2⟩
  ·cases h
 ·cases h
theorem SN{k:Wk}(hk:∀id,cE G w ρ id (k.get (.o id))):∀{cs:List Ce} {xs:List Lf} {vs:List Value},k.pD cs=some xs->aX G w ρ cs vs->ew G.q w (xs.map (Lf.ev ρ)) vs∧xs.length=cs.length
 | [],xs,vs,h,hr=>by
  simp[Wk.pD]at h
  subst h
  cases vs with
  |nil=>exact⟨trivial,rfl⟩
  |cons _ _=>exact hr.elim
 |c::cs,xs,[],h,hr=>hr.elim
 |c::cs,xs,v::vs,h,hr=>by
  simp only[Wk.pD,cG,br]at h
  obtain⟨x,hx,ys,Rp,rfl⟩:=h
  obtain⟨t,ht,hd⟩:=SM hk hx hr.1
  obtain⟨g1,g2⟩:=SN hk Rp hr.2
  exact⟨⟨by rw[ht];exact hd,g1⟩,by simp[g2]⟩
theorem A_:∀{cs:List Ce} {ks:List Ck} {k k1:Wk} {xs:List Lf} {ids:List Nat} {vs:List Value},lS k cs ks=some (k1,xs,ids)->(∀id,cE G w ρ id (k.get (.o id)))->aX G w ρ cs vs->k1.bA S ρ->
  k.bA S ρ∧k.eP k1∧∃is,bU G w ks vs (xs.map (Lf.ev ρ)) is∧is.filterMap id=ids∧∀j,some j∈is->j%4≠2
 | [],[],k,k1,xs,ids,vs,h,hk,hr,hd=>by
  simp only[lS,br,Prod.mk.injEq]at h
  obtain⟨rfl,rfl,rfl⟩:=h
  cases vs with
  |nil=>exact⟨hd,.refl _,[],trivial,rfl,λj hj=>by cases hj⟩
  |cons _ _=>exact hr.elim
 |c::cs,ck::ks,k,k1,xs,ids,[],h,hk,hr,hd=>hr.elim
 |c::cs,.p::ks,k,k1,xs,ids,v::vs,h,hk,hr,hd=>by
  have h':(k.plain c).bind (λx=>(lS k cs ks).bind λr=>some (r.1,x::r.2.1,r.2.2))=some (k1,xs,ids):=by
   cases c with
   |o id q=>cases q<;>exact h
   |p x=>exact h
   |n=>exact h
   |d=>exact h
  simp only[cG,br,Prod.mk.injEq]at h'
  obtain⟨x,hx,⟨k2,ys,qG⟩,h2,rfl,rfl,rfl⟩:=h'
  obtain⟨g1,g2,is,g3,g4,g5⟩:=A_ h2 hk hr.2 hd
  obtain⟨t,ht,dZ⟩:=SM hk hx hr.1
  exact⟨g1,g2,none::is,⟨rfl,by rw[ht];exact dZ,g3⟩,by simpa using g4,λj hj=>g5 j (by simpa using hj)⟩
 | .p x::cs,.s::ks,k,k1,xs,ids,v::vs,h,hk,hr,hd=>by
  simp only[lS,cG,br,Prod.mk.injEq]at h
  obtain⟨⟨k2,ys,qG⟩,h2,rfl,rfl,rfl⟩:=h
  obtain⟨oB,r,rG,oC⟩:=Wk.bO hd
  obtain⟨g1,g2,is,g3,g4,g5⟩:=A_ h2 hk hr.2 oB
  obtain⟨t,ht,dZ⟩:=hr.1
  simp only[List.map_cons,List.map_nil,Lf.bM ht,Prim.ev]at rG
  split at rG
  ·rename_i l9
   cases rG
   refine⟨g1,g2.trans (Wk.bF _ _ _),none::is,⟨rfl,?_,?_,g3⟩,by simpa using g4,λj hj=>g5 j (by simpa using hj)⟩
   ·rw[Lf.bM oC];exact dZ
   ·rw[Lf.bM oC];exact l9
  ·cases rG
 | .n::cs,.o dp::ks,k,k1,xs,ids,v::vs,h,hk,hr,hd=>by
  simp only[lS,cG,br,Prod.mk.injEq]at h
  obtain⟨⟨k2,ys,qG⟩,h2,rfl,rfl,rfl⟩:=h
  obtain⟨g1,g2,is,g3,g4,g5⟩:=A_ h2 hk hr.2 hd
  exact⟨g1,g2,none::is,⟨hr.1,rfl,g3⟩,by simpa using g4,λj hj=>g5 j (by simpa using hj)⟩
 | .o id []::cs,.o dp::ks,k,k1,xs,ids,v::vs,h,hk,hr,hd=>by
  simp only[lS]at h
  split at h
  ·rename_i uF x hx
   cases gA:(uF==dp&& !Nat.beq (id%4) 2)with
   |false=>simp[gA]at h
   |true=>
    simp only[gA,cond_true,cG,br,Prod.mk.injEq]at h
    simp only[bk,beq_iff_eq,Bool.not_eq_true']at gA
    obtain⟨gA,Az⟩:=gA
    subst gA
    obtain⟨⟨k2,ys,qG⟩,h2,rfl,rfl,rfl⟩:=h
    obtain⟨g1,g2,is,g3,g4,g5⟩:=A_ h2 hk hr.2 hd
    have ei:=hk id
    rw[hx]at ei
    obtain⟨t,ht,bI⟩:=ei
    obtain⟨p,hp,hv⟩:=hr.1
    simp only[l7,br]at hp
    subst hp
    refine⟨g1,g2,some id::is,⟨hv,by rw[Lf.bM ht];exact bI,g3⟩,by simpa using g4,λj hj=>?_⟩
    rcases List.mem_cons.1 hj with hj|hj
    ·cases hj;intro e;rw[e]at Az;cases Az
    ·exact g5 j hj
  ·cases h
 | [],_::_,k,k1,xs,ids,vs,h,_,_,_=>by simp[lS]at h
 |c::_,[],k,k1,xs,ids,vs,h,_,_,_=>by simp[lS]at h
 | .p _::_,.o _::_,k,k1,xs,ids,_::_,h,_,_,_=>by simp[lS]at h
 | .n::_,.s::_,k,k1,xs,ids,_::_,h,_,_,_=>by simp[lS]at h
 | .d::_,.s::_,k,k1,xs,ids,_::_,h,_,_,_=>by simp[lS]at h
 | .d::_,.o _::_,k,k1,xs,ids,_::_,h,_,_,_=>by simp[lS]at h
 | .o _ _::_,.s::_,k,k1,xs,ids,_::_,h,_,_,_=>by simp[lS]at h
 | .o _ (_::_)::_,.o _::_,k,k1,xs,ids,_::_,h,_,_,_=>by simp[lS]at h
theorem SO:∀{cs:List Ce} {ks:List Ck} {k k1:Wk} {xs:List Lf} {ids:List Nat},lS k cs ks=some (k1,xs,ids)->k.eP k1
 | [],[],k,k1,xs,ids,h=>by
  simp only[lS,br,Prod.mk.injEq]at h
  obtain⟨rfl,rfl,rfl⟩:=h
  exact .refl _
 |c::cs,.p::ks,k,k1,xs,ids,h=>by
  have h':(k.plain c).bind (λx=>(lS k cs ks).bind λr=>some (r.1,x::r.2.1,r.2.2))=some (k1,xs,ids):=by
   cases c with
   |o id q=>cases q<;>exact h
   |p x=>exact h
   |n=>exact h
   |d=>exact h
  simp only[cG,br,Prod.mk.injEq]at h'
  obtain⟨x,hx,⟨k2,ys,qG⟩,h2,rfl,rfl,rfl⟩:=h'
  exact SO h2
 | .p x::cs,.s::ks,k,k1,xs,ids,h=>by
  simp only[lS,cG,br,Prod.mk.injEq]at h
  obtain⟨⟨k2,ys,qG⟩,h2,rfl,rfl,rfl⟩:=h
  exact(SO h2).trans (Wk.bF _ _ _)
 | .n::cs,.o dp::ks,k,k1,xs,ids,h=>by
  simp only[lS,cG,br,Prod.mk.injEq]at h
  obtain⟨⟨k2,ys,qG⟩,h2,rfl,rfl,rfl⟩:=h
  exact SO h2
 | .o id []::cs,.o dp::ks,k,k1,xs,ids,h=>by
  simp only[lS]at h
  split at h
  ·rename_i uF x hx
   cases gA:(uF==dp&& !Nat.beq (id%4) 2)with
   |false=>simp[gA]at h
   |true=>
    simp only[gA,cond_true,cG,br,Prod.mk.injEq]at h
    obtain⟨⟨k2,ys,qG⟩,h2,rfl,rfl,rfl⟩:=h
    exact SO h2
  ·cases h
 | [],_::_,k,k1,xs,ids,h=>by simp[lS]at h
 |c::_,[],k,k1,xs,ids,h=>by simp[lS]at h
 | .p _::_,.o _::_,k,k1,xs,ids,h=>by simp[lS]at h
 | .n::_,.s::_,k,k1,xs,ids,h=>by simp[lS]at h
 | .d::_,.s::_,k,k1,xs,ids,h=>by simp[lS]at h
 | .d::_,.o _::_,k,k1,xs,ids,h=>by simp[lS]at h
 | .o _ _::_,.s::_,k,k1,xs,ids,h=>by simp[lS]at h
 | .o _ (_::_)::_,.o _::_,k,k1,xs,ids,h=>by simp[lS]at h
theorem Kb:∀{vs:List SV} {rs:List (Bool×List Ck)} {k k1:Wk} {xs:List Lf} {ids:List Nat},lH k vs rs=some (k1,xs,ids)->k.eP k1
 | [],[],k,k1,xs,ids,h=>by
  simp only[lH,br,Prod.mk.injEq]at h
  obtain⟨rfl,rfl,rfl⟩:=h
  exact .refl _
 | .v ag cs::vs,(wx,ks)::rs,k,k1,xs,ids,h=>by
  simp only[lH]at h
  cases nB:(ag==wx)with
  |false=>simp[nB]at h
  |true=>
   simp only[nB,cond_true,cG,br,Prod.mk.injEq]at h
   obtain⟨⟨k2,ys,qG⟩,h2,⟨k3,zs,SP⟩,h3,rfl,rfl,rfl⟩:=h
   exact(Kb h2).trans (SO h3)
 | [],_::_,k,k1,xs,ids,h=>by simp[lH]at h
 |v::_,[],k,k1,xs,ids,h=>by cases v<;>simp[lH]at h
 | .un::_,_::_,k,k1,xs,ids,h=>by simp[lH]at h
 | .pt _ _::_,_::_,k,k1,xs,ids,h=>by simp[lH]at h
 | .ep _ _ _ _ _::_,_::_,k,k1,xs,ids,h=>by simp[lH]at h
 | .fp _ _ _ _::_,_::_,k,k1,xs,ids,h=>by simp[lH]at h
 | .tp _::_,_::_,k,k1,xs,ids,h=>by simp[lH]at h
 | .cl _ _::_,_::_,k,k1,xs,ids,h=>by simp[lH]at h
 | .ob _ _::_,_::_,k,k1,xs,ids,h=>by simp[lH]at h
 | .fz _ _::_,_::_,k,k1,xs,ids,h=>by simp[lH]at h
 | .tk _ _::_,_::_,k,k1,xs,ids,h=>by simp[lH]at h
 | .fl _::_,_::_,k,k1,xs,ids,h=>by simp[lH]at h
 | .fr _::_,_::_,k,k1,xs,ids,h=>by simp[lH]at h
theorem SQ:∀{vs:List SV} {rs:List (Bool×List Ck)} {k k1:Wk} {xs:List Lf} {ids:List Nat} {us:List Value},lH k vs rs=some (k1,xs,ids)->(∀id,cE G w ρ id (k.get (.o id)))->cP G w ρ vs us->k1.bA S ρ->
  k.bA S ρ∧k.eP k1∧∃is,iO G w rs us (xs.map (Lf.ev ρ)) is∧is.filterMap id=ids∧∀j,some j∈is->j%4≠2
 | [],[],k,k1,xs,ids,us,h,hk,hr,hd=>by
  simp only[lH,br,Prod.mk.injEq]at h
  obtain⟨rfl,rfl,rfl⟩:=h
  cases us with
  |nil=>exact⟨hd,.refl _,[],trivial,rfl,λj hj=>by cases hj⟩
  |cons _ _=>exact hr.elim
 | .v ag cs::vs,(wx,ks)::rs,k,k1,xs,ids,[],h,hk,hr,hd=>hr.elim
 | .v ag cs::vs,(wx,ks)::rs,k,k1,xs,ids,u::us,h,hk,hr,hd=>by
  simp only[lH]at h
  cases nB:(ag==wx)with
  |false=>simp[nB]at h
  |true=>
   simp only[nB,cond_true,cG,br,Prod.mk.injEq]at h
   simp only[beq_iff_eq]at nB
   subst nB
   obtain⟨⟨k2,ys,qG⟩,h2,⟨k3,zs,SP⟩,h3,rfl,rfl,rfl⟩:=h
   have h0:=hr.1
   have key:∀ws:List Value,aX G w ρ cs ws->(∀is,bU G w ks ws (zs.map (Lf.ev ρ)) is->RC G w (ag,ks) u (zs.map (Lf.ev ρ)) is)->
     k.bA S ρ∧k.eP k3∧∃is,iO G w ((ag,ks)::rs) (u::us) ((zs++ys).map (Lf.ev ρ)) is∧is.filterMap id=SP++qG∧∀j,some j∈is->j%4≠2:=by
    intro ws hws agH
    have tv:∀{k':Wk},k.eP k'->∀id,cE G w ρ id (k'.get (.o id)):=λhs id=>by rw[hs.get];exact hk id
    have pre:k.eP k2:=Kb h2
    obtain⟨g1,g2,is,g3,g4,g5⟩:=A_ h3 (tv pre) hws hd
    obtain⟨f1,f2,is2,f3,f4,f5⟩:=SQ h2 hk hr.2 g1
    exact⟨f1,f2.trans g2,is++is2,⟨_,_,is,is2,List.map_append,rfl,agH is g3,f3⟩,by rw[List.filterMap_append,g4,f4],λj hj=>(List.mem_append.1 hj).elim (g5 j) (f5 j)⟩
   cases ag with
   |true=>obtain⟨ws,rfl,hws⟩:=h0;exact key ws hws λis ho=>⟨ws,rfl,ho⟩
   |false=>obtain⟨c,rfl,hc,DX⟩:=h0;exact key [u] ⟨hc,trivial⟩ λis ho=>⟨ho,DX⟩
 | [],_::_,k,k1,xs,ids,us,h,_,_,_=>by simp[lH]at h
 |v::_,[],k,k1,xs,ids,us,h,_,_,_=>by cases v<;>simp[lH]at h
 | .un::_,_::_,k,k1,xs,ids,us,h,_,_,_=>by simp[lH]at h
 | .pt _ _::_,_::_,k,k1,xs,ids,us,h,_,_,_=>by simp[lH]at h
 | .ep _ _ _ _ _::_,_::_,k,k1,xs,ids,us,h,_,_,_=>by simp[lH]at h
 | .fp _ _ _ _::_,_::_,k,k1,xs,ids,us,h,_,_,_=>by simp[lH]at h
 | .tp _::_,_::_,k,k1,xs,ids,us,h,_,_,_=>by simp[lH]at h
 | .cl _ _::_,_::_,k,k1,xs,ids,us,h,_,_,_=>by simp[lH]at h
 | .ob _ _::_,_::_,k,k1,xs,ids,us,h,_,_,_=>by simp[lH]at h
 | .fz _ _::_,_::_,k,k1,xs,ids,us,h,_,_,_=>by simp[lH]at h
 | .tk _ _::_,_::_,k,k1,xs,ids,us,h,_,_,_=>by simp[lH]at h
 | .fl _::_,_::_,k,k1,xs,ids,us,h,_,_,_=>by simp[lH]at h
 | .fr _::_,_::_,k,k1,xs,ids,us,h,_,_,_=>by simp[lH]at h
end
section
variable {ρ:List T} {w:World} {S:Nat->af} {P:Program} {cx:Cx} {R:Nat} {out:List T}
def Gh.HS(ω:Nat->Option Lb)(bl:Nat->Option Nat):Gh where
 ω:=ω
 β:=λi=>(bl i).getD 0
 H:=λ_ _=>.slice none 0 0
 hs:=λ_ _=>⟨_,_,_,rfl⟩
theorem Kc{nA:Nat->Option Lb}{bl:Nat->Option Nat}:∀{ps:List PS} {args:List Value} {ts:List T} {i a:Nat},ye nA w bl i ps args ts->(∀j t,ts[j]?=some t->ρ[a+j]?=some t)->
  (uH a i ps).1=a+ts.length∧args.length=ps.length∧(∀n,(∃m,ps[n]?=some (.x m))->bl (i+n)≠none)∧
  ∀r v,(r,v)∈(uH a i ps).2->(∃n c,r=.t 0 (i+n)∧n<ps.length∧args[n]?=some c∧cD (Gh.HS nA bl) w ρ v c∧∀j∈de v,j<i+ps.length)∨
   (∃b,r=.x b∧b<i+ps.length∧fP (Gh.HS nA bl) w ρ b v∧de v=[])
 | [],args,ts,i,a,h,mQ=>by
  obtain⟨rfl,rfl⟩:=h
  exact⟨rfl,rfl,λn ⟨m,hm⟩=>by simp at hm,λr v hm=>by simp[uH]at hm⟩
 | .v ag n::ps,args,ts,i,a,h,mQ=>by
  obtain⟨c,eR,vs,t1,t2,rfl,rfl,hl,nB,hd,h⟩:=h
  obtain⟨g1,g2,g3,g4⟩:=Kc (i:=i+1) (a:=a+n) h (λj t hj=>by
   have:=mQ (n+j) t (by rw[List.getElem?_append_right (by omega),hl];simpa using hj)
   rw[<-this];congr 1;omega)
  obtain⟨r1,r2⟩:=Ej (a:=a) (G:=Gh.HS nA bl) hl (hd.aY (Nat.le_refl _) λb _ hb=>⟨z' hb,rfl⟩) (λj t hj=>mQ j t (by rw[List.getElem?_append_left (List.getElem?_eq_some_iff.1 hj).1];exact hj))
  refine⟨by simp only[uH,List.length_append];omega,by simp[g2],λn' ⟨m,hm⟩=>?_,λr v hm=>?_⟩
  ·cases n' with
   |zero=>simp at hm
   |succ n'=>have:=g3 n' ⟨m,by simpa using hm⟩;rwa[show i+1+n'=i+(n'+1) by omega]at this
  ·simp only[uH,List.mem_cons,Prod.mk.injEq]at hm
   simp only[List.length_cons]
   rcases hm with⟨rfl,rfl⟩|hm
   ·left
    refine⟨0,c,by simp,by omega,rfl,?_,λj hj=>by rw[show de (.v ag (CJ a n))=dF (CJ a n) from rfl,r2]at hj;cases hj⟩
    cases ag with
    |true=>exact⟨vs,nB,r1⟩
    |false=>
     obtain⟨rfl,DX⟩:=nB
     match h0:CJ a n,r1 with
     | [x],r1=>exact⟨x,h0.symm▸h0,r1.1,DX⟩
   ·rcases g4 r v hm with⟨n',c',e1,e2,e3,e4,e5⟩|⟨b,e1,e2,e3,e4⟩
    ·exact .inl ⟨n'+1,c',by rw[e1];congr 1;omega,by omega,by simpa using e3,e4,λj hj=>by have:=e5 j hj;omega⟩
    ·exact .inr ⟨b,e1,by omega,e3,e4⟩
 | .x n::ps,args,ts,i,a,h,mQ=>by
  obtain⟨c,eR,b,bT,elem,t1,t2,rfl,hc,hb,gV,hh,rfl,hl,hd,h⟩:=h
  obtain⟨g1,g2,g3,g4⟩:=Kc (i:=i+1) (a:=a+n) h (λj t hj=>by
   have:=mQ (n+j) t (by rw[List.getElem?_append_right (by omega),hl];simpa using hj)
   rw[<-this];congr 1;omega)
  obtain⟨r1,r2⟩:=Ej (a:=a) (G:=Gh.HS nA bl) hl (hd.aY (Nat.le_refl _) λb _ hb=>⟨z' hb,rfl⟩) (λj t hj=>mQ j t (by rw[List.getElem?_append_left (List.getElem?_eq_some_iff.1 hj).1];exact hj))
  have DQ:(Gh.HS nA bl).β i=b:=by simp[Gh.HS,hb]
  refine⟨by simp only[uH,List.length_append];omega,by simp[g2],λn' ⟨m,hm⟩=>?_,λr v hm=>?_⟩
  ·cases n' with
   |zero=>rw[Nat.add_zero,hb];simp
   |succ n'=>have:=g3 n' ⟨m,by simpa using hm⟩;rwa[show i+1+n'=i+(n'+1) by omega]at this
  ·simp only[uH,List.mem_cons,Prod.mk.injEq]at hm
   simp only[List.length_cons]
   rcases hm with⟨rfl,rfl⟩|⟨rfl,rfl⟩|hm
   ·exact .inl ⟨0,c,by simp,by omega,rfl,by rw[cD,DQ];exact hc,λj hj=>by simp[de]at hj;omega⟩
   ·exact .inr ⟨i,rfl,by omega,⟨by rw[DQ];exact gV,bT,elem,by rw[DQ];exact hh,r1⟩,r2⟩
   ·rcases g4 r v hm with⟨n',c',e1,e2,e3,e4,e5⟩|⟨b,e1,e2,e3,e4⟩
    ·exact .inl ⟨n'+1,c',by rw[e1];congr 1;omega,by omega,by simpa using e3,e4,λj hj=>by have:=e5 j hj;omega⟩
    ·exact .inr ⟨b,e1,by omega,e3,e4⟩
theorem Kd{G:Gh}{bl:Nat->Option Nat}{k:Wk}(hk:∀id,cE G w ρ id (k.get (.o id)))(hx:∀b,fP G w ρ b (k.get (.x b)))(uP:∀i b,bl i=some b->G.β i=b):
  ∀{ps:List PS} {i:Nat} {xs:List Lf},xK k i ps=some xs->(∀n,(∃m,ps[n]?=some (.x m))->bl (i+n)≠none)->ib G w bl i ps (xs.map (Lf.ev ρ))
 | [],i,xs,h,_=>by simp[xK]at h;subst h;rfl
 | .v _ _::ps,i,xs,h,hn=>Kd (ps:=ps) (i:=i+1) hk hx uP h λn ⟨m,hm⟩=>by have:=hn (n+1) ⟨m,by simpa using hm⟩;rwa[show i+1+n=i+(n+1) by omega]
 | .x n::ps,i,xs,h,hn=>by
  simp only[xK]at h
  split at h
  ·rename_i ag cs kg
   cases hb:Nat.beq cs.length n with
   |false=>simp[hb]at h
   |true=>
    simp only[hb,cond_true,cG,br]at h
    obtain⟨x1,h1,x2,h2,rfl⟩:=h
    have pP:=hx i
    rw[kg]at pP
    obtain⟨g1,bT,elem,g2,g3⟩:=pP
    obtain⟨f1,f2⟩:=SN hk h1 g3
    cases hbi:bl i with
    |none=>exact absurd hbi (by have:=hn 0 ⟨n,rfl⟩;simpa using this)
    |some b=>
     have DQ:=uP i b hbi
     rw[DQ]at g1 g2
     exact⟨b,bT,elem,_,_,hbi,g1,g2,List.map_append,by rw[List.length_map,f2];exact dN hb,f1,
      Kd hk hx uP h2 λn ⟨m,hm⟩=>by have:=hn (n+1) ⟨m,by simpa using hm⟩;rwa[show i+1+n=i+(n+1) by omega]⟩
  ·cases h
theorem iO.len{G':Gh}{w':World}:∀{rs:List (Bool×List Ck)} {vs:List Value} {ts:List T} {is:List (Option Nat)},iO G' w' rs vs ts is->rs.length=vs.length
 | [],[],[],[],_=>rfl
 |r::rs,v::vs,ts,is,h=>by
  obtain⟨t1,t2,i1,i2,rfl,rfl,h1,h2⟩:=h
  simp[iO.len h2]
 | [],[],_::_,_,h=>h.elim
 | [],[],[],_::_,h=>h.elim
 | [],_::_,_,_,h=>h.elim
 |_::_,[],_,_,h=>h.elim
theorem SR{G':Gh}{w':World}{rs:List (Bool×List Ck)}{vs:List Value}{ts:List T}{is:List (Option Nat)}(h:iO G' w' rs vs ts is):JB G' w' rs (nc vs) ts is:=by
 have hl:=h.len
 match rs,vs,h,hl with
 | [],[],h,_=>
  cases ts with
  |nil=>cases is with
   |nil=>exact⟨rfl,rfl⟩
   |cons _ _=>exact h.elim
  |cons _ _=>exact h.elim
 | [r],[v],h,_=>exact h
 |r::r'::rs,v::v'::vs,h,_=>
  refine⟨v::v'::vs,?_,h⟩
  unfold nc
  rw[dif_neg (by simp)]
theorem cP.ext{G:Gh}{e:List T}:∀{vs:List SV} {us:List Value},cP G w ρ vs us->cP G w (ρ++e) vs us
 | [],[],_=>trivial
 |_::_,_::_,h=>⟨h.1.ext,cP.ext h.2⟩
 | [],_::_,h=>h.elim
 |_::_,[],h=>h.elim
def Gh.gq(G:Gh):Gh:={G with ω:=G.q}
theorem Gh.nf(G:Gh):G.gq.q=G.q:=by
 funext b
 show qf (qf G.ω) b=qf G.ω b
 unfold qf
 cases hb:G.ω b with
 |none=>rfl
 |some l=>cases hq:qt l<;>simp[hq]
theorem agJ{sg:nw}(h:DN sg=true)(hp:pC sg=true):∀r∈sg.rs,∀k∈r.2,k≠.o true:=by
 intro r hr k hk e
 subst e
 simp only[DN,hp,Bool.true_and,Bool.not_eq_true']at h
 have h1:=List.any_eq_false.1 h r hr
 exact absurd (List.any_eq_true.2 ⟨Ck.o true,hk,rfl⟩) h1
theorem bU.gq{G:Gh}:∀{ks:List Ck} {vs:List Value} {ts:List T} {is:List (Option Nat)},bU G w ks vs ts is->(∀k∈ks,k≠.o true)->(∀j,some j∈is->j%4≠2)->bU G.gq w ks vs ts is
 | [],[],[],[],_,_,_=>trivial
 | .s::ks,v::vs,t::ts,x::is,h,hk,h2=>⟨h.1,by rw[Gh.nf];exact h.2.1,h.2.2.1,bU.gq h.2.2.2 (λk hm=>hk k (by simp[hm])) λj hj=>h2 j (by simp[hj])⟩
 | .p::ks,v::vs,t::ts,x::is,h,hk,h2=>⟨h.1,by rw[Gh.nf];exact h.2.1,bU.gq h.2.2 (λk hm=>hk k (by simp[hm])) λj hj=>h2 j (by simp[hj])⟩
 | .o dp::ks,v::vs,t::ts,none::is,h,hk,h2=>⟨h.1,h.2.1,bU.gq h.2.2 (λk hm=>hk k (by simp[hm])) λj hj=>h2 j (by simp[hj])⟩
 | .o true::ks,v::vs,t::ts,some id::is,h,hk,h2=>absurd rfl (hk _ (by simp))
 | .o false::ks,v::vs,t::ts,some id::is,h,hk,h2=>
  ⟨h.1,h.2.1.pQ (λc hc=>Aa hc (DO (h2 id (by simp)))) rfl (λb hb=>by rw[Gh.nf];exact hb),bU.gq h.2.2 (λk hm=>hk k (by simp[hm])) λj hj=>h2 j (by simp[hj])⟩
 | [],[],[],_::_,h,_,_=>h.elim
 | [],[],_::_,_,h,_,_=>h.elim
 | [],_::_,_,_,h,_,_=>h.elim
 |k::_,[],_,_,h,_,_=>by cases k<;>exact h.elim
 |k::_,_::_,[],_,h,_,_=>by cases k<;>exact h.elim
 |k::_,_::_,_::_,[],h,_,_=>by cases k<;>exact h.elim
theorem iO.gq{G:Gh}:∀{rs:List (Bool×List Ck)} {vs:List Value} {ts:List T} {is:List (Option Nat)},iO G w rs vs ts is->(∀r∈rs,∀k∈r.2,k≠.o true)->(∀j,some j∈is->j%4≠2)->iO G.gq w rs vs ts is
 | [],[],[],[],_,_,_=>trivial
 |(ag,ks)::rs,v::vs,ts,is,h,hk,h2=>by
  obtain⟨t1,t2,i1,i2,rfl,rfl,h1,h3⟩:=h
  refine⟨t1,t2,i1,i2,rfl,rfl,?_,iO.gq h3 (λr hr=>hk r (by simp[hr])) λj hj=>h2 j (by simp[hj])⟩
  have h20:∀j,some j∈i1->j%4≠2:=λj hj=>h2 j (by simp[hj])
  have h0:=hk (ag,ks) (by simp)
  cases ag with
  |true=>obtain⟨us,e,h3⟩:=h1;exact⟨us,e,h3.gq h0 h20⟩
  |false=>exact⟨h1.1.gq h0 h20,h1.2⟩
 | [],[],_::_,_,h,_,_=>h.elim
 | [],[],[],_::_,h,_,_=>h.elim
 | [],_::_,_,_,h,_,_=>h.elim
 |_::_,[],_,_,h,_,_=>h.elim
theorem ib.gq{G:Gh}{bl:Nat->Option Nat}:∀{ps:List PS} {i:Nat} {ts:List T},ib G w bl i ps ts->ib G.gq w bl i ps ts
 | [],i,ts,h=>h
 | .v _ _::ps,i,ts,h=>ib.gq (ps:=ps) (i:=i+1) h
 | .x n::ps,i,ts,h=>by
  obtain⟨b,bT,elem,t1,t2,h1,h2,h3,h4,h5,h6,h7⟩:=h
  exact⟨b,bT,elem,t1,t2,h1,Aa h2 rfl,h3,h4,h5,by rw[Gh.nf];exact h6,ib.gq h7⟩
theorem SS{n cC:Nat}{fn:Func}{sg:nw}{pl:PL}(E:Env P cx S)(tF:P.follows .mixedOrders=true)(hf:P.funcs[cC]?=some fn)(h:z_ cx n cC fn sg=some pl):
  Eg P sg cC λts=>pl.den S R [] ts:=by
 intro w nA bl args ts outs hF cm jl
 unfold z_ at h
 simp only[cG]at h
 obtain⟨c,hc,h⟩:=h
 cases hb:(wy fn.ntmps c&&Nat.ble sg.ps.length fn.ntmps&&DN sg)with
 |false=>simp[hb]at h
 |true=>
  simp only[hb,cond_true]at h
  simp only[bk]at hb
  obtain⟨hb,agK⟩:=hb
  have mP:=Nat.le_of_ble_eq_true hb.2
  obtain⟨g1,g2,g3,g4⟩:=Kc (ρ:=ts) (i:=0) (a:=0) jl (λj t hj=>by rw[Nat.zero_add];exact hj)
  simp only[Nat.zero_add]at g1 g3 g4
  have qZ:∀r,(uH 0 0 sg.ps).2.get r=.un∨(r,(uH 0 0 sg.ps).2.get r)∈(uH 0 0 sg.ps).2:=by
   intro r
   rw[St.tb]
   cases hl:(uH 0 0 sg.ps).2.look r with
   |none=>exact .inl rfl
   |some v=>exact .inr (Eh hl)
  refine calls_of_wp hf hc ?_
  have gY:(args.toArray++Array.replicate (fn.ntmps-args.toArray.size) undef:Array Value).size=fn.ntmps:=by simp;omega
  have jy:Rel (λi=>i<sg.ps.length+1) ⟨w,nA,bl⟩ 0 (λ_ _=>undef) (uH 0 0 sg.ps).2 ts (Gh.HS nA bl) {tmps:=args.toArray++Array.replicate (fn.ntmps-args.toArray.size) undef,defers:=[]} w:=by
   refine⟨λe m he=>?_,λb=>?_,λi=>?_,λr i hi=>?_,λi hi=>?_,λb l hb=>?_,rfl,⟨rfl,rfl,rfl,Nat.le_refl _,λb _ hb=>⟨hb,rfl⟩,λb hb=>⟨hb,rfl⟩,cm.gl⟩,λi b hb=>⟨by have:=(cm.bl i b hb).1;omega,by show(bl i).getD 0=b;rw[show bl i=some b from hb];rfl⟩⟩
   ·obtain rfl:e=0:=by omega
    rcases qZ (.t 0 m)with hu|hm
    ·rw[hu];trivial
    ·rcases g4 _ _ hm with⟨k,c',e1,e2,e3,e4,_⟩|⟨b,e1,_⟩
     ·cases e1
      simp only[oz,if_true]
      rw[Array.getD_eq_getD_getElem?,Array.getElem?_append_left (by simp;omega),List.getElem?_toArray,e3]
      exact e4
     ·cases e1
   ·rcases qZ (.x b)with hu|hm
    ·rw[hu];trivial
    ·rcases g4 _ _ hm with⟨k,c',e1,_⟩|⟨b',e1,_,e2,_⟩
     ·cases e1
     ·cases e1;exact e2
   ·rcases qZ (.o i)with hu|hm
    ·rw[hu];trivial
    ·rcases g4 _ _ hm with⟨k,c',e1,_⟩|⟨b',e1,_⟩<;>cases e1
   ·rcases qZ r with hu|hm
    ·rw[hu]at hi;simp[de]at hi
    ·rcases g4 _ _ hm with⟨k,c',_,_,_,_,e5⟩|⟨b',_,_,_,e4⟩
     ·have:=e5 i hi;omega
     ·rw[e4]at hi;cases hi
   ·rcases hi with hi|hi
    ·rcases qZ (.x i)with hu|hm
     ·exact absurd hu hi
     ·rcases g4 _ _ hm with⟨k,c',e1,_⟩|⟨b',e1,e2,_⟩
      ·cases e1
      ·cases e1;omega
    ·rcases qZ (.o i)with hu|hm
     ·exact absurd hu hi
     ·rcases g4 _ _ hm with⟨k,c',e1,_⟩|⟨b',e1,_⟩<;>cases e1
   ·obtain⟨q1,q2⟩:=cm.ia b l hb
    refine⟨?_,q1⟩
    rcases q2 with rfl|⟨i,rfl,hi⟩
    ·show 0<sg.ps.length+1;omega
    ·have:=(cm.bl i b hi).1;show i<_;omega
  refine SH (f:=⟨0,λ_ _=>undef,fn.ntmps⟩) (R:=R) (out:=outs) (B:=⟨w,nA,bl⟩) E (SL E tF n) tF c 0 0 _ ⟨(uH 0 0 sg.ps).1,sg.ps.length+1⟩ [] _ pl _ w ⟨[],ts⟩ _ hb.1 h
   ⟨[],ts,Gh.HS nA bl,hF,rfl,⟨[],rfl⟩,⟨[],by simp⟩,g1.symm,λn b hn=>by simp[fact]at hn,jy,gY,trivial⟩ λe=>?_
  have fin:∀(qv:Nat) (s':St) (gI:Ct) (jf:jF) (p':PL) (a2:Act) (w2:World),IK cx fn sg qv s' gI jf=some p'->At S R outs ⟨w,nA,bl⟩ ⟨0,λ_ _=>undef,fn.ntmps⟩ ⟨[],ts⟩ XT p' qv s' gI jf a2 w2->
    a2.defers=[]∧∃v,(Go.results fn a2.tmps).run P w2=.ok v w2∧∃v' G is o1 o2,Ending.returned v=.returned v'∧RD sg w nA bl outs v' w2 G is o1 o2:=by
   rintro qv s' gI jf p' a2 w2 hk ⟨K2,EG,G2,d1,d2,d3,d4,d5,d6,d7,d8,_⟩
   unfold IK at hk
   rw[cG]at hk
   obtain⟨vs,o7,hk⟩:=hk
   obtain⟨us,u1,u2,u3⟩:=EH E.dT d7 o7
   refine⟨d7.dn,nc us,SJ u1,?_⟩
   simp only at hk
   split at hk
   ·cases hk;cases d1
   ·rename_i k xs ids Jr
    split at hk
    ·cases hk;cases d1
    ·rename_i ys Rp
     cases CX:vg ids with
     |false=>rw[CX]at hk;simp only[cond_false,br]at hk;subst hk;cases d1
     |true=>
      rw[CX]at hk
      simp only[cond_true]at hk
      cases SU:(Nat.beq k.ct.a (gI.a+qo k.is)&&ru k.ct.a k.is)with
      |false=>rw[SU]at hk;cases hk
      |true=>
       rw[SU]at hk
       simp only[cond_true,br]at hk
       subst hk
       simp only[bk]at SU
       have hca:=dN SU.1
       obtain⟨tz,w1,w3,w4⟩:=Em (S:=S) (R:=R) (K:=K2) (out:=outs) (ρ:=EG) (by rw[d5,<-hca];exact SU.2) d1
       have SW:k.bA S (EG++tz):=by
        have:=w4 []
        rw[List.append_nil,d5,<-hca]at this
        exact this
       obtain⟨G3,d9,SX⟩:=(d7.ext (e:=tz)).A8 (l:=DM vs sg.rs++z9 s' 0 sg.ps)
       have SY:cP G3 w2 (EG++tz) vs us:=cP.aY (SX.aY w2) (cP.ext u2)
       have hg:∀r,k.get r=(s8 s' (DM vs sg.rs++z9 s' 0 sg.ps)).get r:=λr=>(Kb Jr).get r
       obtain⟨_,_,is,v3,v4,v5⟩:=SQ Jr (λid=>d9.ob id) SY SW
       simp only[PL.den,br,List.map_append]at w3
       have Ke:=Kd (k:=k) (λid=>by rw[hg];exact d9.ob id) (λb=>by rw[hg];exact d9.bx b) (λi b hb=>(d9.bt i b hb).2) Rp λn hn=>by rw[Nat.zero_add];exact g3 n hn
       have SZ:(is.filterMap id).Nodup:=by rw[v4];exact JF CX
       cases hp:pC sg with
       |false=>exact⟨nc us,G3,is,_,_,rfl,⟨⟨d9.base.os,d9.base.tape,d9.base.output⟩,d9.base.size,d9.base.free,d9.base.CL,λb l hb=>(d9.ia b l hb).2,λhq=>absurd (hp.symm.trans hq) (by simp),w3.symm,SZ,SR v3,Ke⟩⟩
       |true=>
        refine⟨nc us,G3.gq,is,_,_,rfl,⟨⟨d9.base.os,d9.base.tape,d9.base.output⟩,d9.base.size,λb hb h0=>⟨z' (d9.base.free b hb h0).1,(d9.base.free b hb h0).2⟩,λb hb=>⟨Aa (d9.base.CL b hb).1 rfl,(d9.base.CL b hb).2⟩,
         λb l hb=>(d9.ia b l (IL hb)).2,λ_ b hb=>by rw[Gh.nf]at hb;exact hb,w3.symm,SZ,SR (v3.gq (agJ agK hp) v5),Ke.gq⟩⟩
  cases e with
  |normal=>intro qv s' gI jf p' a2 w2 cK lh;exact fin qv s' gI jf p' a2 w2 cK lh
  |ret=>intro qv s' gI jf p' a2 w2 cK lh;exact fin qv s' gI jf p' a2 w2 cK lh
  |exit id=>intro qv s' gI jf p' a2 w2 cK lh;cases cK
end
def pick(l:List (Nat×af))(g:Nat):af:=
 match l with
 | []=>λ_=>none
 |e::l=>bif Nat.beq e.1 g then e.2 else pick l g
def Q(p:Prim)(l:List Lf)(r:PL):PL:=.ins (.pr p l) r
def I(n:Int):Lf:=.k (.int .i64 n)
instance Lfn {n:Nat}:OfNat Lf n:=⟨.a n⟩
def Fs(p:PL)(l:List (Nat×af)):af:=λts=>p.den (pick l) rounds [] ts
inductive Ty where
 |i (k:IntKind)
 |b
 |s
 |sl (fs:List Ty)
mutual
def WT:Ty->T->Prop
 | .i k,t=>∃n,t=.c (.int k n)∧(Lit.int k n).wf=true
 | .b,t=>∃b,t=.c (.bool b)
 | .s,t=>∃s:ByteArray,t=.c (.string s)∧s.size<=maxLen
 | .sl fs,t=>∃xs,t=.l xs∧xs.length<=maxLen∧∀r∈xs,cV fs r
def cV:List Ty->List T->Prop
 | [],ts=>ts=[]
 |f::fs,ts=>∃t lV,ts=t::lV∧WT f t∧cV fs lV
end
def gu:List Ty->List T->Prop
 | [],ts=>ts=[]
 |f::fs,ts=>∃t lV,ts=t::lV∧(match f with
  | .i k=>∃n,t=.c (.int k n)∧(Lit.int k n).wf=true
  | .b=>∃b,t=.c (.bool b)
  | .s=>∃s:ByteArray,t=.c (.string s)∧s.size<=maxLen
  | .sl gs=>WT (.sl gs) t)∧gu fs lV
theorem ng:∀{fs:List Ty} {ts:List T},cV fs ts->gu fs ts
 | [],ts,h=>by unfold cV at h;exact h
 |f::fs,ts,h=>by
  unfold cV at h
  obtain⟨t,lV,rfl,h1,h2⟩:=h
  refine⟨t,lV,rfl,?_,ng h2⟩
  cases f with
  |i k=>unfold WT at h1;exact h1
  |b=>unfold WT at h1;exact h1
  |s=>unfold WT at h1;exact h1
  |sl gs=>exact h1
theorem li:∀{fs:List Ty} {ts:List T},gu fs ts->cV fs ts
 | [],ts,h=>by unfold cV;exact h
 |f::fs,ts,h=>by
  obtain⟨t,lV,rfl,h1,h2⟩:=h
  unfold cV
  refine⟨t,lV,rfl,?_,li h2⟩
  cases f with
  |i k=>unfold WT;exact h1
  |b=>unfold WT;exact h1
  |s=>unfold WT;exact h1
  |sl gs=>exact h1
theorem cV.append:∀{fs gs:List Ty} {ts us:List T},cV fs ts->cV gs us->cV (fs++gs) (ts++us)
 | [],gs,ts,us,h,h'=>by
  unfold cV at h
  subst h
  exact h'
 |f::fs,gs,ts,us,h,h'=>by
  unfold cV at h
  obtain⟨t,lV,rfl,h1,h2⟩:=h
  show cV (f::(fs++gs)) (t::(lV++us))
  unfold cV
  exact⟨t,_,rfl,h1,h2.append h'⟩
theorem cV.length:∀{fs:List Ty} {ts:List T},cV fs ts->ts.length=fs.length
 | [],ts,h=>by
  unfold cV at h
  subst h
  rfl
 |f::fs,ts,h=>by
  unfold cV at h
  obtain⟨t,lV,rfl,h1,h2⟩:=h
  simp[h2.length]
mutual
def bulk:T->Nat
 | .c (.string s)=>s.size
 | .c _=>0
 | .l xs=>gE xs
def lj:List T->Nat
 | []=>0
 |t::ts=>bulk t+lj ts
def gE:List (List T)->Nat
 | []=>0
 |r::rs=>1+(lj r+gE rs)
end
theorem EL:∀(xs:List (List T)),xs.length<=gE xs
 | []=>by simp[gE]
 |r::rs=>by have:=EL rs;simp[gE];omega
theorem S0:∀{xs:List (List T)} {i:Nat} {r:List T},xs[i]?=some r->lj r+1<=gE xs
 | [],_,_,h=>by simp at h
 |r'::rs,0,r,h=>by simp at h;subst h;simp[gE];omega
 |r'::rs,i+1,r,h=>by
  have:=S0 (xs:=rs) (i:=i) (r:=r) (by simpa using h)
  simp[gE];omega
theorem uR_:∀{xs:List (List T)} {i:Nat} {r:List T},xs[i]?=some r->gE (xs.take (i+1))=gE (xs.take i)+(lj r+1)
 | [],_,_,h=>by simp at h
 |r'::rs,0,r,h=>by simp at h;subst h;simp[gE];omega
 |r'::rs,i+1,r,h=>by
  have:=uR_ (xs:=rs) (i:=i) (r:=r) (by simpa using h)
  simp only[List.take_succ_cons,gE,this];omega
theorem S1(xs ys:List (List T)):gE (xs++ys)=gE xs+gE ys:=by
 induction xs with
 |nil=>simp[gE]
 |cons r rs ih=>simp[gE,ih];omega
theorem fy(xs:List (List T)):bulk (.l xs)=gE xs:=by simp only[bulk]
theorem gB(k:IntKind)(n:Int):bulk (.c (.int k n))=0:=by simp only[bulk]
theorem gF(b:Bool):bulk (.c (.bool b))=0:=by simp only[bulk]
theorem iP(s:ByteArray):bulk (.c (.string s))=s.size:=by simp only[bulk]
theorem fG:lj []=0:=by simp only[lj]
theorem eU(t:T)(ts:List T):lj (t::ts)=bulk t+lj ts:=by simp only[lj]
theorem dU{α β:Type}(a:α)(f:α->Option β):(some a).bind f=f a:=rfl
theorem yk{n:Int}(h:-9223372036854775808<=n)(h':n<9223372036854775808):IntKind.i64.wrap n=n:=by
 simp[IntKind.wrap,IntKind.bits,IntKind.signed]
 omega
theorem pc(xs:List (List T)):Prim.ev .len [.l xs]=some (.c (.int .i64 xs.length)):=rfl
theorem S2(s:ByteArray):Prim.ev .lens [.c (.string s)]=some (.c (.int .i64 s.size)):=rfl
theorem CY(k:IntKind)(n:Int):Prim.ev .bz [.c (.int k n)]=some (.c (.int k n)):=rfl
theorem EM(b:Bool):Prim.ev .bz [.c (.bool b)]=some (.c (.bool b)):=rfl
theorem S3(s:ByteArray):Prim.ev .bz [.c (.string s)]=some (.c (.string s)):=rfl
theorem pn(k:IntKind)(a b:Int):Prim.ev (.bin .lss) [.c (.int k a),.c (.int k b)]=some (.c (.bool (decide (a<b)))):=by simp[Prim.ev,T.val,lO]
theorem S4(k:IntKind)(a b:Int):Prim.ev (.bin .leq) [.c (.int k a),.c (.int k b)]=some (.c (.bool (decide (a<=b)))):=by simp[Prim.ev,T.val,lO]
theorem S5(k:IntKind)(a b:Int):Prim.ev (.bin .gtr) [.c (.int k a),.c (.int k b)]=some (.c (.bool (decide (a>b)))):=by simp[Prim.ev,T.val,lO]
theorem S6(k:IntKind)(a b:Int):Prim.ev (.bin .geq) [.c (.int k a),.c (.int k b)]=some (.c (.bool (decide (a>=b)))):=by simp[Prim.ev,T.val,lO]
theorem EN(k:IntKind)(a b:Int):Prim.ev (.bin .eql) [.c (.int k a),.c (.int k b)]=some (.c (.bool (a==b))):=by simp[Prim.ev,T.val,lO]
theorem yl(k:IntKind)(a b:Int):Prim.ev (.bin .neq) [.c (.int k a),.c (.int k b)]=some (.c (.bool (a !=b))):=by simp[Prim.ev,T.val,lO]
theorem ym(k:IntKind)(a b:Int):Prim.ev (.bin .add) [.c (.int k a),.c (.int k b)]=some (.c (.int k (k.wrap (a+b)))):=by simp[Prim.ev,T.val,lO]
theorem yn(k:IntKind)(a b:Int):Prim.ev (.bin .sub) [.c (.int k a),.c (.int k b)]=some (.c (.int k (k.wrap (a-b)))):=by simp[Prim.ev,T.val,lO]
theorem agL(k:IntKind)(a b:Int):Prim.ev (.bin .mul) [.c (.int k a),.c (.int k b)]=some (.c (.int k (k.wrap (a*b)))):=by simp[Prim.ev,T.val,lO]
theorem S7(a b:ByteArray):Prim.ev (.bin .eql) [.c (.string a),.c (.string b)]=some (.c (.bool (a.toList==b.toList))):=by simp[Prim.ev,T.val,lO]
theorem S8(a b:ByteArray):Prim.ev (.bin .neq) [.c (.string a),.c (.string b)]=some (.c (.bool !(a.toList==b.toList))):=by simp[Prim.ev,T.val,lO]
theorem Kf(a b:Bool):Prim.ev (.bb .neq) [.c (.bool a),.c (.bool b)]=some (.c (.bool (a !=b))):=by cases a<;>cases b<;>rfl
theorem S9(a b:Bool):Prim.ev (.bb .eql) [.c (.bool a),.c (.bool b)]=some (.c (.bool (a==b))):=by cases a<;>cases b<;>rfl
theorem Kg(a:Bool):Prim.ev (.un .not) [.c (.bool a)]=some (.c (.bool !a)):=by cases a<;>rfl
theorem yo{xs:List (List T)}{i:Nat}{r:List T}{k:IntKind}(h:xs[i]?=some r):uE (.l xs) (.c (.int k (i:Int)))=some r:=by
 simp[uE,T.rows,T.int,h]
theorem wU{xs:List (List T)}{i:Nat}{r:List T}{k:IntKind}(h:xs[i]?=some r):Prim.ev .bW [.l xs,.c (.int k (i:Int))]=some (.c (.bool true)):=by
 simp[Prim.ev,yo h]
theorem EO{xs:List (List T)}{i w j:Nat}{r:List T}{t:T}{k:IntKind}(h:xs[i]?=some r)(hw:r.length=w)(hj:r[j]?=some t):Prim.ev (.cell w j) [.l xs,.c (.int k (i:Int))]=some t:=by
 simp[Prim.ev,yo h,hw,hj]
theorem EP{sc:Bool}{xs:List (List T)}{i w off n:Nat}{r vs:List T}{k:IntKind}(h:xs[i]?=some r)(hw:r.length=w)(ho:off+n<=w)(hv:vs.length=n)(hs:(!sc||vs.all eA)=true):
  Prim.ev (.put sc w off n) (.l xs:: .c (.int k (i:Int))::vs)=some (.l (setRow xs i off vs)):=by
 simp only[Prim.ev,yo h,hw,ho,hv,hs,T.rows,T.int,Option.bind_some,if_true,Int.toNat_natCast]
theorem agM{ms:List Bool}{xs:List (List T)}{i w off:Nat}{r vs:List T}{k:IntKind}(h:xs[i]?=some r)(hw:r.length=w)(ho:off+vs.length<=w)(hs:rl ms vs=true):
  Prim.ev (.gj ms w off) (.l xs:: .c (.int k (i:Int))::vs)=some (.l (setRow xs i off vs)):=by
 simp[Prim.ev,yo h,hw,ho,T.rows,T.int,hs]
theorem Kh{k k':IntKind}{n:Nat}{ts:List T}(h:n<qS):Prim.ev .mk (.c (.int k (n:Int)):: .c (.int k' (n:Int))::ts)=some (.l (List.replicate n ts)):=by
 unfold qS at h
 simp[Prim.ev,qS,show(n:Int)<4294967296 by omega]
theorem A'{α β:Type}{F:(α->Option β)->α->Option β}{n:Nat}(st:Nat->α){out:β}(h:∀i,i<n->∀self,F self (st i)=self (st (i+1)))(hn:∀self,F self (st n)=some out):
  ∀R,n<R->iter F R (st 0)=some out:=by
 have:∀d i,i+d=n->∀R,d<R->iter F R (st i)=some out:=by
  intro d
  induction d with
  |zero=>
   intro i hi R hR
   cases R with
   |zero=>omega
   |succ R=>rw[Nat.add_zero]at hi;subst hi;exact hn _
  |succ d ih=>
   intro i hi R hR
   cases R with
   |zero=>omega
   |succ R=>unfold iter;rw[h i (by omega)];exact ih (i+1) (by omega) R (by omega)
 intro R hR
 exact this n 0 (by omega) R hR
theorem agN{α β:Type}{F:(α->Option β)->α->Option β}{n:Nat}(Inv:Nat->α->Prop){Q:β->Prop}(h:∀i x,i<n->Inv i x->(∃x',Inv (i+1) x'∧∀self,F self x=self x')∨∃out,Q out∧∀self,F self x=some out)
  (hn:∀x,Inv n x->∃out,Q out∧∀self,F self x=some out){x:α}(hx:Inv 0 x){R:Nat}(hR:n<R):∃out,Q out∧iter F R x=some out:=by
 have:∀d i x,i+d=n->Inv i x->∀R,d<R->∃out,Q out∧iter F R x=some out:=by
  intro d
  induction d with
  |zero=>
   intro i x hi hx R hR
   cases R with
   |zero=>omega
   |succ R=>
    rw[Nat.add_zero]at hi;subst hi
    obtain⟨out,h1,h2⟩:=hn x hx
    exact⟨out,h1,h2 _⟩
  |succ d ih=>
   intro i x hi hx R hR
   cases R with
   |zero=>omega
   |succ R=>
    unfold iter
    rcases h i x (by omega) hx with⟨x',h1,h2⟩|⟨out,h1,h2⟩
    ·rw[h2];exact ih (i+1) x' (by omega) h1 R (by omega)
    ·exact⟨out,h1,h2 _⟩
 exact this n 0 x (by omega) hx R hR
theorem agO{F:(List T->Option (List T))->List T->Option (List T)}{n:Nat}(Inv:Nat->List T->Prop){P:Int->Prop}{x:List T}{R:Nat}
  (h:∀i x,i<n->Inv i x->(∃x',Inv (i+1) x'∧∀self,F self x=self x')∨∃m:Int,P m∧∀self,F self x=some [.c (.int .i64 m)])
  (hn:∀x,Inv n x->∃m:Int,P m∧∀self,F self x=some [.c (.int .i64 m)])(hx:Inv 0 x)(hR:n<R):∃m:Int,iter F R x=some [.c (.int .i64 m)]∧P m:=by
 obtain⟨out,⟨m,rfl,q1⟩,q2⟩:=agN (F:=F) (n:=n) Inv (Q:=λout=>∃m:Int,out=[.c (.int .i64 m)]∧P m)
  (λi x hi hx=>(h i x hi hx).imp_right λ⟨m,h1,h2⟩=>⟨_,⟨m,rfl,h1⟩,h2⟩) (λx hx=>(hn x hx).elim λm ⟨h1,h2⟩=>⟨_,⟨m,rfl,h1⟩,h2⟩) hx hR
 exact⟨m,q2,q1⟩
theorem qH{S:Nat->af}{R:Nat}{K:List af}{ρ:List T}(xs:List Lf):PL.den S R K ρ (.ret xs)=some (xs.map (Lf.ev ρ)):=by simp only[PL.den]
theorem i_{S:Nat->af}{R:Nat}{K:List af}{ρ:List T}(p:Prim)(xs:List Lf)(k:PL):PL.den S R K ρ (.ins (.pr p xs) k)=(p.ev (xs.map (Lf.ev ρ))).bind λt=>k.den S R K (ρ++[t]):=by simp only[PL.den]
theorem qI{S:Nat->af}{R:Nat}{K:List af}{ρ:List T}(g:Nat)(xs:List Lf)(m:Nat)(k:PL):PL.den S R K ρ (.ins (.cl g xs m) k)=(S g (xs.map (Lf.ev ρ))).bind λts=>k.den S R K (ρ++fS ts 0 m):=by simp only[PL.den]
def aA(t:T)(x y:Option (List T)):Option (List T):=match t with
 | .c (.bool b)=>bif b then x else y
 |_=>none
theorem nD(b:Bool)(x y:Option (List T)):aA (.c (.bool b)) x y=bif b then x else y:=rfl
theorem mR{S:Nat->af}{R:Nat}{K:List af}{ρ:List T}(c:Nat)(x y:PL):PL.den S R K ρ (.ite c x y)=aA (ρ.getD c T.cp) (x.den S R K ρ) (y.den S R K ρ):=by
 simp only[PL.den,aA]
 generalize ρ.getD c T.cp=t
 cases t with
 |c v=>cases v<;>rfl
 |l xs=>rfl
theorem vL{S:Nat->af}{R:Nat}{K:List af}{ρ:List T}(xs:List Lf)(b:PL):PL.den S R K ρ (.loop xs b)=iter (λself ts=>b.den S R (self::K) (ρ++ts)) R (xs.map (Lf.ev ρ)):=by simp only[PL.den]
theorem sK{S:Nat->af}{R:Nat}{f:af}{K:List af}{ρ:List T}(xs:List Lf):PL.den S R (f::K) ρ (.go 0 xs)=f (xs.map (Lf.ev ρ)):=by simp[PL.den]
theorem S_{S:Nat->af}{R j:Nat}{f:af}{K:List af}{ρ:List T}(xs:List Lf):PL.den S R (f::K) ρ (.go (j+1) xs)=PL.den S R K ρ (.go j xs):=by simp[PL.den]
theorem eV(ρ:List T)(v:Value):Lf.ev ρ (.k v)=.c v:=rfl
theorem Ba(ρ:List T):Lf.ev ρ .e=.l []:=rfl
theorem dL(ρ:List T)(n:Nat):Lf.ev ρ (.a n)=ρ.getD n T.cp:=rfl
set_option linter.unusedSimpArgs false
def big:Nat:=1048576
def nU(F:af)(fs:List Ty):Prop:=
 ∀(ts:List T) (l:Int),cV fs ts->0<=l->l<=1048576->∃n:Int,F (ts++[.c (.int .i64 l)])=some [.c (.int .i64 n)]∧n<=l∧(0<=n->n=l-lj ts)
def lk(F:af)(fs:List Ty):Prop:=∀ts:List T,cV fs ts->lj ts<=1048576->F ts=some ts
def jP(F:af)(fs:List Ty):Prop:=∀ts:List T,cV fs ts->lj ts<=1048576->F (ts++ts)=some [.c (.bool true)]
def Ki:Ty->Bool
 | .i _=>true
 | .b=>true
 |_=>false
theorem S':∀{fs:List Ty} {ts:List T},fs.all Ki=true->cV fs ts->lj ts=0
 | [],ts,_,h=>by unfold cV at h;subst h;rfl
 |f::fs,ts,hf,h=>by
  unfold cV at h
  obtain⟨t,lV,rfl,h1,h2⟩:=h
  simp only[List.all_cons,bk]at hf
  have h3:=S' hf.2 h2
  rw[eU,h3]
  cases f with
  |i k=>unfold WT at h1;obtain⟨n,rfl,_⟩:=h1;simp[gB]
  |b=>unfold WT at h1;obtain⟨n,rfl⟩:=h1;simp[gF]
  |s=>cases hf.1
  |sl gs=>cases hf.1
theorem Ta{fs:List Ty}(hf:fs.all Ki=true):∀{xs:List (List T)},(∀r∈xs,cV fs r)->gE xs=xs.length
 | [],_=>by simp[gE]
 |r::xs,h=>by
  have h1:=S' hf (h r (.head _))
  have h2:=Ta hf (xs:=xs) λr hr=>h r (.tail _ hr)
  simp[gE,h1,h2];omega
theorem cV.one{f:Ty}{ts:List T}(h:cV [f] ts):∃t,ts=[t]∧WT f t:=by
 unfold cV at h
 obtain⟨t,lV,rfl,h1,h2⟩:=h
 unfold cV at h2
 subst h2
 exact⟨t,rfl,h1⟩
theorem cV.Kj{fs:List Ty}{ts:List T}(h:cV [.sl fs] ts):∃xs,ts=[.l xs]∧xs.length<=maxLen∧∀r∈xs,cV fs r:=by
 obtain⟨t,rfl,h1⟩:=h.one
 unfold WT at h1
 obtain⟨xs,rfl,h1,h2⟩:=h1
 exact⟨xs,rfl,h1,h2⟩
theorem Bb{α:Type}{xs:List α}{i:Nat}{r:α}(h:xs[i]?=some r):r∈xs:=List.mem_of_getElem? h
theorem HT{α:Type}{xs:List α}{i:Nat}(h:i<xs.length):∃r,xs[i]?=some r:=⟨xs[i],List.getElem?_eq_getElem h⟩
def CZ(w s i:Nat):Nat->Nat->PL->PL
 |_,0,k=>k
 |j,n+1,k=>.ins (.pr (.cell w j) [.a s,.a i]) (CZ w s i (j+1) n k)
def tS:Nat->Nat->List Lf
 |_,0=>[]
 |b,n+1=>.a b::tS (b+1) n
theorem rT{ρ B:List T}{n:Nat}(h:n<ρ.length):Lf.ev (ρ++B) (.a n)=Lf.ev ρ (.a n):=by
 simp[Lf.ev,List.getD,List.getElem?_append_left h]
theorem agQ{A B:List T}{t:T}{n:Nat}(hA:A.length=n):Lf.ev (A++t::B) (.a n)=t:=by
 subst hA
 simp[Lf.ev,List.getD]
theorem Kk{A r C:List T}{n k:Nat}(h:n=A.length+r.length+k):(A++(r++C)).getD n T.cp=C.getD k T.cp:=by
 subst h
 simp only[List.getD,List.getElem?_append_right (show A.length<=A.length+r.length+k by omega)]
 rw[List.getElem?_append_right (by omega)]
 congr 2
 omega
theorem yp:∀{r A B:List T} {b w:Nat},A.length=b->r.length=w->(tS b w).map (Lf.ev (A++(r++B)))=r
 | [],A,B,b,w,hA,hr=>by subst hr;rfl
 |t::r,A,B,b,w,hA,hr=>by
  subst hr
  show Lf.ev (A++(t::(r++B))) (.a b)::(tS (b+1) r.length).map (Lf.ev (A++(t::(r++B))))=t::r
  rw[agQ hA]
  have:=yp (r:=r) (A:=A++[t]) (B:=B) (b:=b+1) (w:=r.length) (by simp[hA]) rfl
  rw[List.append_assoc]at this
  exact congrArg _ this
theorem yq{S:Nat->af}{R:Nat}{K:List af}{k:PL}{xs:List (List T)}{i:Nat}{r:List T}{w s ix:Nat}(hr:xs[i]?=some r)(hw:r.length=w):∀(n j:Nat) {ρ:List T},j+n=w->s<ρ.length->ix<ρ.length->
  Lf.ev ρ (.a s)=.l xs->Lf.ev ρ (.a ix)=.c (.int .i64 (i:Int))->PL.den S R K ρ (CZ w s ix j n k)=k.den S R K (ρ++r.drop j)
 |0,j,ρ,hj,_,_,_,_=>by
  have:r.drop j=[]:=List.drop_eq_nil_iff.2 (by omega)
  rw[this,List.append_nil]
  rfl
 |n+1,j,ρ,hj,h1,h2,h3,h4=>by
  obtain⟨t,ht⟩:=HT (xs:=r) (i:=j) (by omega)
  show PL.den S R K ρ (.ins (.pr (.cell w j) [.a s,.a ix]) (CZ w s ix (j+1) n k))=_
  rw[i_,List.map_cons,List.map_cons,List.map_nil,h3,h4,EO hr hw ht,dU,
   yq hr hw n (j+1) (by omega) (by simp;omega) (by simp;omega) (by rw[rT h1];exact h3) (by rw[rT h2];exact h4)]
  congr 1
  rw[List.append_assoc]
  congr 1
  rw[List.drop_eq_getElem_cons (by omega:j<r.length)]
  rw[List.getElem?_eq_getElem (by omega)]at ht
  cases ht
  rfl
def vM:PL:=
 .ins (.pr .len [.a 0])<|
 .ins (.pr (.bin .sub) [.a 1,.a 2])<|
 .ins (.pr (.bin .lss) [.a 3,.k (.int .i64 0)])<|
 .ite 4 (.ins (.pr .bz [.k (.int .i64 (-1))])<| .ret [.a 5]) (.ins (.pr .bz [.a 3])<| .ret [.a 5])
theorem Bc{S:Nat->af}{R:Nat}{fs:List Ty}(hf:fs.all Ki=true):nU (λts=>vM.den S R [] ts) [.sl fs]:=by
 intro ts l ht h0 h1
 obtain⟨xs,rfl,h2,h3⟩:=ht.Kj
 have e1:IntKind.i64.wrap (l-xs.length)=l-xs.length:=yk (by unfold maxLen at h2;omega) (by omega)
 have e2:=Ta hf h3
 by_cases h:l-(xs.length:Int)<0
 ·refine⟨-1,?_,by omega,by omega⟩
  simp only[vM,qH,i_,qI,mR,List.map_cons,List.map_nil,eV,Ba,dL,List.cons_append,List.nil_append,List.getD_cons_zero,List.getD_cons_succ,dU,pc,yn,pn,e1,h,decide_true,decide_false,nD,cond_true,cond_false,CY]
 ·refine⟨l-xs.length,?_,by omega,λ_=>?_⟩
  ·simp only[vM,qH,i_,qI,mR,List.map_cons,List.map_nil,eV,Ba,dL,List.cons_append,List.nil_append,List.getD_cons_zero,List.getD_cons_succ,dU,pc,yn,pn,e1,h,decide_true,decide_false,nD,cond_true,cond_false,CY]
  ·rw[eU,fG,fy,e2];omega
def Kl(w g:Nat):PL:=
 .ins (.pr .len [.a 0])<|
 .ins (.pr (.bin .sub) [.a 1,.a 2])<|
 .ins (.pr (.bin .lss) [.a 3,.k (.int .i64 0)])<|
 .ite 4 (.ins (.pr .bz [.k (.int .i64 (-1))])<| .ret [.a 5])<|
 .loop [.a 3,.k (.int .i64 0),.k (.int .i64 0)]<|
  .ins (.pr .len [.a 0])<|
  .ins (.pr (.bin .lss) [.a 7,.a 8])<|
  .ite 9 (.ins (.pr .bW [.a 0,.a 7])<|CZ w 0 7 0 w<|
   .ins (.cl g (tS 11 w++[.a 5]) 1)<|
   .ins (.pr (.bin .lss) [.a (11+w),.k (.int .i64 0)])<|
   .ite (12+w) (.ins (.pr .bz [.k (.int .i64 (-1))])<| .ret [.a (13+w)])<|
   .ins (.pr (.bin .add) [.a 7,.k (.int .i64 1)])<|
   .go 0 [.a (11+w),.a 6,.a (13+w)])
  (.ins (.pr .bz [.a 5])<| .ret [.a 10])
theorem agR{S:Nat->af}{w g:Nat}{fs:List Ty}(hw:fs.length=w)(hg:nU (S g) fs):nU (λts=>(Kl w g).den S rounds [] ts) [.sl fs]:=by
 intro ts l ht h0 h1
 obtain⟨xs,rfl,h2,h3⟩:=ht.Kj
 have e1:IntKind.i64.wrap (l-xs.length)=l-xs.length:=yk (by unfold maxLen at h2;omega) (by omega)
 by_cases h:l-(xs.length:Int)<0
 ·refine⟨-1,?_,by omega,by omega⟩
  simp only[Kl,qH,i_,qI,mR,List.map_cons,List.map_nil,eV,Ba,dL,List.cons_append,List.nil_append,List.getD_cons_zero,List.getD_cons_succ,dU,pc,yn,pn,e1,h,decide_true,decide_false,nD,cond_true,cond_false,CY]
 ·simp only[Kl,qH,i_,qI,mR,vL,List.map_cons,List.map_nil,eV,Ba,dL,List.cons_append,List.nil_append,List.getD_cons_zero,List.getD_cons_succ,dU,pc,yn,pn,e1,h,decide_true,decide_false,nD,cond_true,cond_false,CY]
  refine agO (n:=xs.length) (Inv:=λi x=>∃m:Int,x=[.c (.int .i64 m),.c (.int .i64 0),.c (.int .i64 (i:Int))]∧0<=m∧m=l-xs.length-(gE (xs.take i)-i:Int)) ?_ ?_ ⟨_,rfl,by omega,by simp[gE]⟩ (by unfold rounds;omega)
  ·rintro i x hi ⟨m,rfl,m0,m1⟩
   obtain⟨r,hr⟩:=HT hi
   have qF:r.length=w:=by rw[(h3 r (Bb hr)).length,hw]
   have hlen:=EL (xs.take i)
   rw[List.length_take,Nat.min_eq_left (by omega)]at hlen
   obtain⟨n,n1,n2,n3⟩:=hg r m (h3 r (Bb hr)) m0 (by omega)
   have hb:=uR_ hr
   have e3:IntKind.i64.wrap ((i:Int)+1)=((i+1:Nat):Int):=by rw[yk (by omega) (by omega)];simp
   have e5:(tS 11 w).map (Lf.ev (.l xs:: .c (.int .i64 l):: .c (.int .i64 xs.length):: .c (.int .i64 (l-xs.length)):: .c (.bool false):: .c (.int .i64 m):: .c (.int .i64 0):: .c (.int .i64 i):: .c (.int .i64 xs.length):: .c (.bool true):: .c (.bool true)::r))=r:=by
    have:=yp (r:=r) (A:=[.l xs,.c (.int .i64 l),.c (.int .i64 xs.length),.c (.int .i64 (l-xs.length)),.c (.bool false),.c (.int .i64 m),.c (.int .i64 0),.c (.int .i64 i),.c (.int .i64 xs.length),.c (.bool true),.c (.bool true)]) (B:=[]) (b:=11) (w:=w) rfl qF
    rw[List.append_nil]at this
    exact this
   have qJ:∀(n k:Nat) (C:List T),n=11+w+k->(.l xs:: .c (.int .i64 l):: .c (.int .i64 xs.length):: .c (.int .i64 (l-xs.length)):: .c (.bool false):: .c (.int .i64 m):: .c (.int .i64 0):: .c (.int .i64 i):: .c (.int .i64 xs.length):: .c (.bool true):: .c (.bool true)::(r++C)).getD n T.cp=C.getD k T.cp:=λn k C h=>
    Kk (A:=[.l xs,.c (.int .i64 l),.c (.int .i64 xs.length),.c (.int .i64 (l-xs.length)),.c (.bool false),.c (.int .i64 m),.c (.int .i64 0),.c (.int .i64 i),.c (.int .i64 xs.length),.c (.bool true),.c (.bool true)]) (by simp[qF];omega)
   have e6:=λC=>qJ (11+w) 0 C (by omega)
   have e7:=λC=>qJ (12+w) 1 C (by omega)
   have e8:=λC=>qJ (13+w) 2 C (by omega)
   have be:(i:Int)<xs.length:=by omega
   by_cases hn:n<0
   ·refine .inr ⟨-1,⟨by omega,by omega⟩,λself=>?_⟩
    simp only[qH,i_,qI,mR,sK,List.map_cons,List.map_nil,eV,dL,List.cons_append,List.nil_append,List.getD_cons_zero,List.getD_cons_succ,dU,pc,pn,be,decide_true,nD,cond_true,wU hr]
    rw[yq hr qF w 0 (by omega) (by simp) (by simp) rfl rfl]
    simp only[qH,i_,qI,mR,sK,List.map_cons,List.map_nil,List.map_append,eV,dL,List.cons_append,List.nil_append,List.append_assoc,List.getD_cons_zero,List.getD_cons_succ,dU,List.drop_zero,e5,n1,fS,e6,e7,e8,pn,hn,decide_true,nD,cond_true,CY]
   ·refine .inl ⟨[.c (.int .i64 n),.c (.int .i64 0),.c (.int .i64 ((i+1:Nat):Int))],⟨n,rfl,by omega,?_⟩,λself=>?_⟩
    ·rw[hb];have:=n3 (by omega);omega
    ·simp only[qH,i_,qI,mR,sK,List.map_cons,List.map_nil,eV,dL,List.cons_append,List.nil_append,List.getD_cons_zero,List.getD_cons_succ,dU,pc,pn,be,decide_true,nD,cond_true,wU hr]
     rw[yq hr qF w 0 (by omega) (by simp) (by simp) rfl rfl]
     simp only[qH,i_,qI,mR,sK,List.map_cons,List.map_nil,List.map_append,eV,dL,List.cons_append,List.nil_append,List.append_assoc,List.getD_cons_zero,List.getD_cons_succ,dU,List.drop_zero,e5,n1,fS,e6,e7,e8,pn,hn,decide_false,nD,cond_false,CY,ym,e3]
  ·rintro x ⟨m,rfl,m0,m1⟩
   refine⟨m,⟨?_,λ_=>?_⟩,λself=>?_⟩
   ·rw[List.take_length]at m1;have:=EL xs;omega
   ·rw[List.take_length]at m1;rw[eU,fG,fy];omega
   ·simp only[qH,i_,qI,mR,sK,List.map_cons,List.map_nil,eV,dL,List.cons_append,List.nil_append,List.getD_cons_zero,List.getD_cons_succ,dU,pc,pn,Int.lt_irrefl,decide_false,nD,cond_false,CY]
set_option linter.unusedSimpArgs false
theorem agS{xs ys:List (List T)}{z r:List T}{i:Nat}(hi:xs.length=i)(hz:z.length=r.length):setRow (xs++z::ys) i 0 r=xs++r::ys:=by
 have hd:z.drop r.length=[]:=List.drop_eq_nil_iff.2 (by omega)
 unfold setRow
 induction xs generalizing i with
 |nil=>subst hi;simp[hd]
 |cons x xs ih=>
  subst hi
  have:=ih (i:=xs.length) rfl
  simp only[List.length_cons,List.cons_append,List.modify_succ_cons,this]
theorem Tb{α:Type}{xs:List α}{i:Nat}{r:α}(h:xs[i]?=some r):xs.take (i+1)=xs.take i++[r]:=by
 rw[List.take_add_one,h];rfl
theorem Tc{xs:List (List T)}{z r:List T}{i:Nat}(h:xs[i]?=some r)(hz:z.length=r.length):setRow (xs.take i++List.replicate (xs.length-i) z) i 0 r=xs.take (i+1)++List.replicate (xs.length-(i+1)) z:=by
 have hi:i<xs.length:=by
  rcases Nat.lt_or_ge i xs.length with h'|h'
  ·exact h'
  ·rw[List.getElem?_eq_none h']at h;cases h
 obtain⟨d,hd⟩:∃d,xs.length-i=d+1:=⟨xs.length-i-1,by omega⟩
 rw[hd,List.replicate_succ,agS (by simp;omega) hz,Tb h,List.append_assoc,show xs.length-(i+1)=d by omega]
 rfl
theorem Td{xs:List (List T)}{z:List T}{i:Nat}(hi:i<xs.length):(xs.take i++List.replicate (xs.length-i) z)[i]?=some z:=by
 have hl:(xs.take i).length=i:=by simp;omega
 rw[List.getElem?_append_right (by omega),hl,Nat.sub_self]
 obtain⟨d,hd⟩:∃d,xs.length-i=d+1:=⟨xs.length-i-1,by omega⟩
 rw[hd]
 rfl
def Te(w g:Nat)(zs:List Lf)(st:Prim):PL:=
 .ins (.pr .len [.a 0])<|
 .ins (.pr .mk (.a 1:: .a 1::zs))<|
 .loop [.k (.int .i64 0),.a 2]<|
  .ins (.pr .len [.a 0])<|
  .ins (.pr (.bin .lss) [.a 3,.a 5])<|
  .ite 6 (.ins (.pr .bW [.a 0,.a 3])<|CZ w 0 3 0 w<|
   .ins (.cl g (tS 8 w) w)<|
   .ins (.pr .bW [.a 4,.a 3])<|
   .ins (.pr st (.a 4:: .a 3::tS (8+w) w))<|
   .ins (.pr (.bin .add) [.a 3,.k (.int .i64 1)])<|
   .go 0 [.a (10+(w+w)),.a (9+(w+w))])
  (.ret [.a 4])
def Km:Lf->Bool
 | .k _=>true
 | .e=>true
 | .a _=>false
theorem Tf{ρ nC:List T}:∀{zs:List Lf},zs.all Km=true->zs.map (Lf.ev ρ)=zs.map (Lf.ev nC)
 | [],_=>rfl
 |z::zs,h=>by
  simp only[List.all_cons,bk]at h
  rw[List.map_cons,List.map_cons,Tf (ρ:=ρ) (nC:=nC) h.2]
  cases z with
  |k v=>rfl
  |e=>rfl
  |a n=>cases h.1
theorem agT:∀(ts:List T) (i:Nat),fS ts i (ts.length-i)=ts.drop i
 |ts,i=>by
  generalize hd:ts.length-i=d
  induction d generalizing i with
  |zero=>simp[fS,List.drop_eq_nil_iff.2 (show ts.length<=i by omega)]
  |succ d ih=>
   have hi:i<ts.length:=by omega
   simp only[fS,ih (i+1) (by omega),List.drop_eq_getElem_cons hi,List.getD,List.getElem?_eq_getElem hi,Option.getD_some]
theorem Bd{S:Nat->af}{w g:Nat}{zs:List Lf}{st:Prim}{fs:List Ty}(hw:fs.length=w)(hg:lk (S g) fs)(hz:zs.all Km=true)(qD:zs.length=w)
  (cm:∀(xs:List (List T)) (i:Nat) (z vs:List T),xs[i]?=some z->z.length=w->cV fs vs->Prim.ev st (.l xs:: .c (.int .i64 (i:Int))::vs)=some (.l (setRow xs i 0 vs))):
  lk (λts=>(Te w g zs st).den S rounds [] ts) [.sl fs]:=by
 intro ts ht hb
 obtain⟨xs,rfl,h2,h3⟩:=ht.Kj
 rw[eU,fG,fy,Nat.add_zero]at hb
 have hlen:=EL xs
 let z:List T:=zs.map (Lf.ev [])
 have AM:∀ρ,zs.map (Lf.ev ρ)=z:=λρ=>Tf hz
 have hzw:z.length=w:=by simp[z,qD]
 have key:=A' (n:=xs.length) (out:=[T.l xs]) (F:=λself ts=>(PL.den S rounds (self::[]) ([T.l xs,.c (.int .i64 (xs.length:Int)),.l (List.replicate xs.length z)]++ts) (
  .ins (.pr .len [.a 0])<|
  .ins (.pr (.bin .lss) [.a 3,.a 5])<|
  .ite 6 (.ins (.pr .bW [.a 0,.a 3])<|CZ w 0 3 0 w<|
   .ins (.cl g (tS 8 w) w)<|
   .ins (.pr .bW [.a 4,.a 3])<|
   .ins (.pr st (.a 4:: .a 3::tS (8+w) w))<|
   .ins (.pr (.bin .add) [.a 3,.k (.int .i64 1)])<|
   .go 0 [.a (10+(w+w)),.a (9+(w+w))])
  (.ret [.a 4])))) (λi=>[.c (.int .i64 (i:Int)),.l (xs.take i++List.replicate (xs.length-i) z)]) ?_ ?_ rounds (by unfold rounds;omega)
 ·simp only[Te,i_,List.map_cons,List.map_nil,eV,dL,List.cons_append,List.nil_append,List.getD_cons_zero,List.getD_cons_succ,dU,pc,AM,Kh (show xs.length<qS by unfold qS;omega)]
  rw[vL]
  exact key
 ·intro i hi self
  obtain⟨r,hr⟩:=HT hi
  have qF:r.length=w:=by rw[(h3 r (Bb hr)).length,hw]
  have hbr:=S0 hr
  have hgr:=hg r (h3 r (Bb hr)) (by omega)
  have be:(i:Int)<xs.length:=by omega
  have e3:IntKind.i64.wrap ((i:Int)+1)=((i+1:Nat):Int):=by rw[yk (by omega) (by omega)];simp
  have e4:=agT r 0
  rw[Nat.sub_zero,List.drop_zero,qF]at e4
  have hf:=Td (z:=z) hi
  have Tg:=cm _ i z r hf hzw (h3 r (Bb hr))
  rw[Tc hr (by rw[hzw,qF])]at Tg
  have e5:(tS 8 w).map (Lf.ev (.l xs:: .c (.int .i64 xs.length):: .l (List.replicate xs.length z):: .c (.int .i64 i):: .l (xs.take i++List.replicate (xs.length-i) z):: .c (.int .i64 xs.length):: .c (.bool true):: .c (.bool true)::r))=r:=by
   have:=yp (r:=r) (A:=[.l xs,.c (.int .i64 xs.length),.l (List.replicate xs.length z),.c (.int .i64 i),.l (xs.take i++List.replicate (xs.length-i) z),.c (.int .i64 xs.length),.c (.bool true),.c (.bool true)]) (B:=[]) (b:=8) (w:=w) rfl qF
   rw[List.append_nil]at this
   exact this
  have e6:∀B,(tS (8+w) w).map (Lf.ev (.l xs:: .c (.int .i64 xs.length):: .l (List.replicate xs.length z):: .c (.int .i64 i):: .l (xs.take i++List.replicate (xs.length-i) z):: .c (.int .i64 xs.length):: .c (.bool true):: .c (.bool true)::(r++(r++B))))=r:=λB=>
   yp (r:=r) (A:=.l xs:: .c (.int .i64 xs.length):: .l (List.replicate xs.length z):: .c (.int .i64 i):: .l (xs.take i++List.replicate (xs.length-i) z):: .c (.int .i64 xs.length):: .c (.bool true):: .c (.bool true)::r) (B:=B) (b:=8+w) (w:=w) (by simp[qF];omega) qF
  have qJ:∀(n k:Nat) (C:List T),n=8+(w+w)+k->(.l xs:: .c (.int .i64 xs.length):: .l (List.replicate xs.length z):: .c (.int .i64 i):: .l (xs.take i++List.replicate (xs.length-i) z):: .c (.int .i64 xs.length):: .c (.bool true):: .c (.bool true)::(r++(r++C))).getD n T.cp=C.getD k T.cp:=λn k C h=>
   Kk (A:=.l xs:: .c (.int .i64 xs.length):: .l (List.replicate xs.length z):: .c (.int .i64 i):: .l (xs.take i++List.replicate (xs.length-i) z):: .c (.int .i64 xs.length):: .c (.bool true):: .c (.bool true)::r) (r:=r) (C:=C) (by simp[qF];omega)
  have e7:=λC=>qJ (9+(w+w)) 1 C (by omega)
  have e8:=λC=>qJ (10+(w+w)) 2 C (by omega)
  simp only[qH,i_,qI,mR,sK,List.map_cons,List.map_nil,eV,dL,List.cons_append,List.nil_append,List.getD_cons_zero,List.getD_cons_succ,dU,pc,pn,be,decide_true,nD,cond_true,wU hr]
  rw[yq hr qF w 0 (by omega) (by simp) (by simp) rfl rfl]
  simp only[qH,i_,qI,mR,sK,List.map_cons,List.map_nil,List.map_append,eV,dL,List.cons_append,List.nil_append,List.append_assoc,List.getD_cons_zero,List.getD_cons_succ,dU,List.drop_zero,e5,hgr,e4,e6,Tg,e7,e8,wU hf,ym,e3]
 ·intro self
  simp only[qH,i_,qI,mR,sK,List.map_cons,List.map_nil,eV,dL,List.cons_append,List.nil_append,List.getD_cons_zero,List.getD_cons_succ,dU,pc,pn,Int.lt_irrefl,decide_false,nD,cond_false,List.take_length,Nat.sub_self,List.replicate_zero,List.append_nil]
def Th(z:Lf):PL:=
 .ins (.pr .len [.a 0])<|
 .ins (.pr .mk [.a 1,.a 1,z])<|
 .loop [.k (.int .i64 0),.a 2]<|
  .ins (.pr .len [.a 0])<|
  .ins (.pr (.bin .lss) [.a 3,.a 5])<|
  .ite 6 (.ins (.pr .bW [.a 0,.a 3])<|
   .ins (.pr (.cell 1 0) [.a 0,.a 3])<|
   .ins (.pr .bW [.a 4,.a 3])<|
   .ins (.pr (.put true 1 0 1) [.a 4,.a 3,.a 8])<|
   .ins (.pr (.bin .add) [.a 3,.k (.int .i64 1)])<|
   .go 0 [.a 11,.a 10])
  (.ret [.a 4])
def vN:Ty->Bool
 | .sl _=>false
 |_=>true
theorem Ko{f:Ty}{t:T}(hf:vN f=true)(h:WT f t):eA t=true:=by
 cases f with
 |i k=>unfold WT at h;obtain⟨n,rfl,_⟩:=h;rfl
 |b=>unfold WT at h;obtain⟨n,rfl⟩:=h;rfl
 |s=>unfold WT at h;obtain⟨n,rfl,_⟩:=h;rfl
 |sl gs=>cases hf
theorem agW{S:Nat->af}{z:Lf}{f:Ty}(hf:vN f=true)(hz:Km z=true):lk (λts=>(Th z).den S rounds [] ts) [.sl [f]]:=by
 intro ts ht hb
 obtain⟨xs,rfl,h2,h3⟩:=ht.Kj
 rw[eU,fG,fy,Nat.add_zero]at hb
 have hlen:=EL xs
 let y:List T:=[Lf.ev [] z]
 have AM:∀ρ,Lf.ev ρ z=Lf.ev [] z:=λρ=>by cases z with
  |k v=>rfl
  |e=>rfl
  |a n=>cases hz
 have key:=A' (n:=xs.length) (out:=[T.l xs]) (F:=λself ts=>(PL.den S rounds (self::[]) ([T.l xs,.c (.int .i64 (xs.length:Int)),.l (List.replicate xs.length y)]++ts) (
  .ins (.pr .len [.a 0])<|
  .ins (.pr (.bin .lss) [.a 3,.a 5])<|
  .ite 6 (.ins (.pr .bW [.a 0,.a 3])<|
   .ins (.pr (.cell 1 0) [.a 0,.a 3])<|
   .ins (.pr .bW [.a 4,.a 3])<|
   .ins (.pr (.put true 1 0 1) [.a 4,.a 3,.a 8])<|
   .ins (.pr (.bin .add) [.a 3,.k (.int .i64 1)])<|
   .go 0 [.a 11,.a 10])
  (.ret [.a 4])))) (λi=>[.c (.int .i64 (i:Int)),.l (xs.take i++List.replicate (xs.length-i) y)]) ?_ ?_ rounds (by unfold rounds;omega)
 ·simp only[Th,i_,List.map_cons,List.map_nil,eV,dL,List.cons_append,List.nil_append,List.getD_cons_zero,List.getD_cons_succ,dU,pc]
  rw[AM,Kh (show xs.length<qS by unfold qS;omega),dU,vL]
  exact key
 ·intro i hi self
  obtain⟨r,hr⟩:=HT hi
  have EQ:=h3 r (Bb hr)
  obtain⟨t,rfl,ht⟩:=EQ.one
  have l9:=Ko hf ht
  have be:(i:Int)<xs.length:=by omega
  have e3:IntKind.i64.wrap ((i:Int)+1)=((i+1:Nat):Int):=by rw[yk (by omega) (by omega)];simp
  have hfg:=Td (z:=y) hi
  have e4:=EP (sc:=true) (w:=1) (off:=0) (n:=1) (vs:=[t]) (k:=.i64) hfg rfl (by omega) rfl (by simp[l9])
  rw[Tc (z:=y) hr rfl]at e4
  simp only[qH,i_,qI,mR,sK,List.map_cons,List.map_nil,eV,dL,List.cons_append,List.nil_append,List.getD_cons_zero,List.getD_cons_succ,dU,pc,pn,be,decide_true,nD,cond_true,wU hr,EO hr (w:=1) (j:=0) rfl rfl,wU hfg,e4,ym,e3]
 ·intro self
  simp only[qH,i_,qI,mR,sK,List.map_cons,List.map_nil,eV,dL,List.cons_append,List.nil_append,List.getD_cons_zero,List.getD_cons_succ,dU,pc,pn,Int.lt_irrefl,decide_false,nD,cond_false,List.take_length,Nat.sub_self,List.replicate_zero,List.append_nil]
theorem ER{fs:List Ty}{w:Nat}(hw:fs.length=w)(hf:fs.all vN=true)(xs:List (List T))(i:Nat)(z vs:List T)(hi:xs[i]?=some z)(hz:z.length=w)(hv:cV fs vs):
  Prim.ev (.put true w 0 w) (.l xs:: .c (.int .i64 (i:Int))::vs)=some (.l (setRow xs i 0 vs)):=by
 refine EP hi hz (by omega) (by rw[hv.length,hw]) ?_
 have:∀{fs:List Ty} {vs:List T},fs.all vN=true->cV fs vs->vs.all eA=true:=by
  intro fs
  induction fs with
  |nil=>intro vs _ h;unfold cV at h;subst h;rfl
  |cons f fs ih=>
   intro vs hf h
   unfold cV at h
   obtain⟨t,lV,rfl,h1,h2⟩:=h
   simp only[List.all_cons,bk]at hf⊢
   exact⟨Ko hf.1 h1,ih hf.2 h2⟩
 simp[this hf hv]
theorem Ti:∀{fs:List Ty} {vs:List T},cV fs vs->rl (fs.map vN) vs=true
 | [],vs,h=>by unfold cV at h;subst h;rfl
 |f::fs,vs,h=>by
  unfold cV at h
  obtain⟨t,lV,rfl,h1,h2⟩:=h
  have ih:=Ti h2
  rw[List.map_cons]
  cases hs:vN f with
  |true=>simp[rl,Ko hs h1,ih]
  |false=>simp[rl,ih]
theorem agX{fs:List Ty}{w:Nat}{ms:List Bool}(hw:fs.length=w)(hm:ms=fs.map vN)(xs:List (List T))(i:Nat)(z vs:List T)(hi:xs[i]?=some z)(hz:z.length=w)(hv:cV fs vs):
  Prim.ev (.gj ms w 0) (.l xs:: .c (.int .i64 (i:Int))::vs)=some (.l (setRow xs i 0 vs)):=
 agM hi hz (by rw[hv.length,hw];omega) (by rw[hm];exact Ti hv)
def Tj(w g:Nat):PL:=
 .ins (.pr .len [.a 0])<|
 .ins (.pr .len [.a 1])<|
 .ins (.pr (.bin .neq) [.a 2,.a 3])<|
 .ite 4 (.ins (.pr .bz [.k (.bool false)])<| .ret [.a 5])<|
 .loop [.k (.bool false),.k (.int .i64 0)]<|
  .ins (.pr .len [.a 0])<|
  .ins (.pr (.bin .lss) [.a 6,.a 7])<|
  .ite 8 (.ins (.pr .bW [.a 0,.a 6])<|CZ w 0 6 0 w<|
   .ins (.pr .bW [.a 1,.a 6])<|CZ w 1 6 0 w<|
   .ins (.cl g (tS 10 w++tS (11+w) w) 1)<|
   .ins (.pr (.un .not) [.a (11+(w+w))])<|
   .ite (12+(w+w)) (.ins (.pr .bz [.k (.bool false)])<| .ret [.a (13+(w+w))])<|
   .ins (.pr (.bin .add) [.a 6,.k (.int .i64 1)])<|
   .go 0 [.a 5,.a (13+(w+w))])
  (.ins (.pr .bz [.k (.bool true)])<| .ret [.a 9])
theorem yr{S:Nat->af}{w g:Nat}{fs:List Ty}(hw:fs.length=w)(hg:jP (S g) fs):jP (λts=>(Tj w g).den S rounds [] ts) [.sl fs]:=by
 intro ts ht hb
 obtain⟨xs,rfl,h2,h3⟩:=ht.Kj
 rw[eU,fG,fy,Nat.add_zero]at hb
 have hlen:=EL xs
 have key:=A' (n:=xs.length) (out:=[T.c (.bool true)]) (F:=λself ts=>(PL.den S rounds (self::[]) ([T.l xs,.l xs,.c (.int .i64 (xs.length:Int)),.c (.int .i64 (xs.length:Int)),.c (.bool false)]++ts) (
  .ins (.pr .len [.a 0])<|
  .ins (.pr (.bin .lss) [.a 6,.a 7])<|
  .ite 8 (.ins (.pr .bW [.a 0,.a 6])<|CZ w 0 6 0 w<|
   .ins (.pr .bW [.a 1,.a 6])<|CZ w 1 6 0 w<|
   .ins (.cl g (tS 10 w++tS (11+w) w) 1)<|
   .ins (.pr (.un .not) [.a (11+(w+w))])<|
   .ite (12+(w+w)) (.ins (.pr .bz [.k (.bool false)])<| .ret [.a (13+(w+w))])<|
   .ins (.pr (.bin .add) [.a 6,.k (.int .i64 1)])<|
   .go 0 [.a 5,.a (13+(w+w))])
  (.ins (.pr .bz [.k (.bool true)])<| .ret [.a 9])))) (λi=>[.c (.bool false),.c (.int .i64 (i:Int))]) ?_ ?_ rounds (by unfold rounds;omega)
 ·simp only[Tj,i_,mR,List.map_cons,List.map_nil,eV,dL,List.cons_append,List.nil_append,List.getD_cons_zero,List.getD_cons_succ,dU,pc,yl,bne_self_eq_false,nD,cond_false]
  rw[vL]
  exact key
 ·intro i hi self
  obtain⟨r,hr⟩:=HT hi
  have qF:r.length=w:=by rw[(h3 r (Bb hr)).length,hw]
  have hbr:=S0 hr
  have hgr:=hg r (h3 r (Bb hr)) (by omega)
  have be:(i:Int)<xs.length:=by omega
  have e3:IntKind.i64.wrap ((i:Int)+1)=((i+1:Nat):Int):=by rw[yk (by omega) (by omega)];simp
  have e5:∀B,(tS 10 w).map (Lf.ev (.l xs:: .l xs:: .c (.int .i64 xs.length):: .c (.int .i64 xs.length):: .c (.bool false):: .c (.bool false):: .c (.int .i64 i):: .c (.int .i64 xs.length):: .c (.bool true):: .c (.bool true)::(r++B)))=r:=λB=>
   yp (r:=r) (A:=[.l xs,.l xs,.c (.int .i64 xs.length),.c (.int .i64 xs.length),.c (.bool false),.c (.bool false),.c (.int .i64 i),.c (.int .i64 xs.length),.c (.bool true),.c (.bool true)]) (B:=B) (b:=10) (w:=w) rfl qF
  have e6:∀t,(tS (11+w) w).map (Lf.ev (.l xs:: .l xs:: .c (.int .i64 xs.length):: .c (.int .i64 xs.length):: .c (.bool false):: .c (.bool false):: .c (.int .i64 i):: .c (.int .i64 xs.length):: .c (.bool true):: .c (.bool true)::(r++t::r)))=r:=λt=>by
   have:=yp (r:=r) (A:=.l xs:: .l xs:: .c (.int .i64 xs.length):: .c (.int .i64 xs.length):: .c (.bool false):: .c (.bool false):: .c (.int .i64 i):: .c (.int .i64 xs.length):: .c (.bool true):: .c (.bool true)::(r++[t])) (B:=[]) (b:=11+w) (w:=w) (by simp[qF];omega) qF
   simpa using this
  have qJ:∀(n k:Nat) (t:T) (C:List T),n=11+(w+w)+k->(.l xs:: .l xs:: .c (.int .i64 xs.length):: .c (.int .i64 xs.length):: .c (.bool false):: .c (.bool false):: .c (.int .i64 i):: .c (.int .i64 xs.length):: .c (.bool true):: .c (.bool true)::(r++t::(r++C))).getD n T.cp=C.getD k T.cp:=λn k t C h=>by
   have:=Kk (A:=.l xs:: .l xs:: .c (.int .i64 xs.length):: .c (.int .i64 xs.length):: .c (.bool false):: .c (.bool false):: .c (.int .i64 i):: .c (.int .i64 xs.length):: .c (.bool true):: .c (.bool true)::(r++[t])) (r:=r) (C:=C) (n:=n) (k:=k) (by simp[qF];omega)
   rw[<-this]
   simp
  have e7:=λt C=>qJ (11+(w+w)) 0 t C (by omega)
  have e8:=λt C=>qJ (12+(w+w)) 1 t C (by omega)
  have e9:=λt C=>qJ (13+(w+w)) 2 t C (by omega)
  simp only[qH,i_,qI,mR,sK,List.map_cons,List.map_nil,eV,dL,List.cons_append,List.nil_append,List.getD_cons_zero,List.getD_cons_succ,dU,pc,pn,be,decide_true,nD,cond_true,wU hr]
  rw[yq hr qF w 0 (by omega) (by simp) (by simp) rfl rfl]
  simp only[i_,List.map_cons,List.map_nil,dL,List.cons_append,List.nil_append,List.append_assoc,List.getD_cons_zero,List.getD_cons_succ,dU,List.drop_zero,wU hr]
  rw[yq hr qF w 0 (by omega) (by simp) (by simp) rfl rfl]
  simp only[qH,i_,qI,mR,sK,List.map_cons,List.map_nil,List.map_append,eV,dL,List.cons_append,List.nil_append,List.append_assoc,List.getD_cons_zero,List.getD_cons_succ,dU,List.drop_zero,e5,e6,hgr,fS,e7,e8,e9,Kg,Bool.not_true,nD,cond_false,ym,e3]
 ·intro self
  simp only[qH,i_,qI,mR,sK,List.map_cons,List.map_nil,eV,dL,List.cons_append,List.nil_append,List.getD_cons_zero,List.getD_cons_succ,dU,pc,pn,Int.lt_irrefl,decide_false,nD,cond_false,EM]
def Tk(op:Prim):PL:=
 .ins (.pr .len [.a 0])<|
 .ins (.pr .len [.a 1])<|
 .ins (.pr (.bin .neq) [.a 2,.a 3])<|
 .ite 4 (.ins (.pr .bz [.k (.bool false)])<| .ret [.a 5])<|
 .loop [.k (.bool false),.k (.int .i64 0)]<|
  .ins (.pr .len [.a 0])<|
  .ins (.pr (.bin .lss) [.a 6,.a 7])<|
  .ite 8 (.ins (.pr .bW [.a 0,.a 6])<| .ins (.pr (.cell 1 0) [.a 0,.a 6])<|
   .ins (.pr .bW [.a 1,.a 6])<| .ins (.pr (.cell 1 0) [.a 1,.a 6])<|
   .ins (.pr op [.a 10,.a 12])<|
   .ite 13 (.ins (.pr .bz [.k (.bool false)])<| .ret [.a 14])<|
   .ins (.pr (.bin .add) [.a 6,.k (.int .i64 1)])<|
   .go 0 [.a 5,.a 14])
  (.ins (.pr .bz [.k (.bool true)])<| .ret [.a 9])
theorem agY{S:Nat->af}{op:Prim}{f:Ty}(dV:∀t,WT f t->Prim.ev op [t,t]=some (.c (.bool false))):jP (λts=>(Tk op).den S rounds [] ts) [.sl [f]]:=by
 intro ts ht hb
 obtain⟨xs,rfl,h2,h3⟩:=ht.Kj
 rw[eU,fG,fy,Nat.add_zero]at hb
 have hlen:=EL xs
 have key:=A' (n:=xs.length) (out:=[T.c (.bool true)]) (F:=λself ts=>(PL.den S rounds (self::[]) ([T.l xs,.l xs,.c (.int .i64 (xs.length:Int)),.c (.int .i64 (xs.length:Int)),.c (.bool false)]++ts) (
  .ins (.pr .len [.a 0])<|
  .ins (.pr (.bin .lss) [.a 6,.a 7])<|
  .ite 8 (.ins (.pr .bW [.a 0,.a 6])<| .ins (.pr (.cell 1 0) [.a 0,.a 6])<|
   .ins (.pr .bW [.a 1,.a 6])<| .ins (.pr (.cell 1 0) [.a 1,.a 6])<|
   .ins (.pr op [.a 10,.a 12])<|
   .ite 13 (.ins (.pr .bz [.k (.bool false)])<| .ret [.a 14])<|
   .ins (.pr (.bin .add) [.a 6,.k (.int .i64 1)])<|
   .go 0 [.a 5,.a 14])
  (.ins (.pr .bz [.k (.bool true)])<| .ret [.a 9])))) (λi=>[.c (.bool false),.c (.int .i64 (i:Int))]) ?_ ?_ rounds (by unfold rounds;omega)
 ·simp only[Tk,i_,mR,List.map_cons,List.map_nil,eV,dL,List.cons_append,List.nil_append,List.getD_cons_zero,List.getD_cons_succ,dU,pc,yl,bne_self_eq_false,nD,cond_false]
  rw[vL]
  exact key
 ·intro i hi self
  obtain⟨r,hr⟩:=HT hi
  have EQ:=h3 r (Bb hr)
  obtain⟨t,rfl,ht⟩:=EQ.one
  have be:(i:Int)<xs.length:=by omega
  have e3:IntKind.i64.wrap ((i:Int)+1)=((i+1:Nat):Int):=by rw[yk (by omega) (by omega)];simp
  simp only[qH,i_,qI,mR,sK,List.map_cons,List.map_nil,eV,dL,List.cons_append,List.nil_append,List.getD_cons_zero,List.getD_cons_succ,dU,pc,pn,be,decide_true,nD,cond_true,wU hr,EO hr (w:=1) (j:=0) rfl rfl,dV t ht,cond_false,ym,e3]
 ·intro self
  simp only[qH,i_,qI,mR,sK,List.map_cons,List.map_nil,eV,dL,List.cons_append,List.nil_append,List.getD_cons_zero,List.getD_cons_succ,dU,pc,pn,Int.lt_irrefl,decide_false,nD,cond_false,EM]
theorem agZ{k:IntKind}(t:T)(h:WT (.i k) t):Prim.ev (.bin .neq) [t,t]=some (.c (.bool false)):=by
 unfold WT at h
 obtain⟨n,rfl,_⟩:=h
 rw[yl,bne_self_eq_false]
set_option linter.unusedSimpArgs false
theorem ag1{α β:Type}{F:(α->Option β)->α->Option β}{n:Nat}(Inv:Nat->α->Prop){Q:Option β->Prop}
  (step:∀i x,i<n->Inv i x->∀s,(∃x',Inv (i+1) x'∧F s x=s x')∨Q (F s x))(fin:∀x,Inv n x->∀s,Q (F s x)){x:α}(hx:Inv 0 x){R:Nat}(hR:n<R):Q (iter F R x):=by
 have:∀d i x,i+d=n->Inv i x->∀R,d<R->Q (iter F R x):=by
  intro d
  induction d with
  |zero=>
   intro i x hi hx R hR
   cases R with
   |zero=>omega
   |succ R=>rw[Nat.add_zero]at hi;subst hi;exact fin x hx _
  |succ d ih=>
   intro i x hi hx R hR
   cases R with
   |zero=>omega
   |succ R=>
    unfold iter
    rcases step i x (by omega) hx (iter F R)with⟨x',h1,h2⟩|h
    ·rw[h2];exact ih (i+1) x' (by omega) h1 R (by omega)
    ·exact h
 exact this n 0 x (by omega) hx R hR
def axZ(o o':Option (List T)):Prop:=∃b,o=some [.c (.bool b)]∧o'=some [.c (.bool b)]
theorem ag2(a b c d:Int):Prim.ev (.s5 [1,1]) [.c (.int .i64 a),.c (.int .i64 b),.c (.int .i64 c),.c (.int .i64 d)]=some (.c (.bool (a==c&&(b==d)))):=by
 simp[Prim.ev,ww,OS]
set_option linter.unusedSimpArgs false
def cW(g:Nat->List T->Nat×List T):Nat->List (List T)->Nat×List (List T)
 |n,[]=>(n,[])
 |n,r::rs=>((cW g (g n r).1 rs).1,(g n r).2::(cW g (g n r).1 rs).2)
mutual
def pd:Ty->Nat->T->Nat×T
 | .i k,n,_=>(n+1,.c (.int k (n:Int)))
 | .b,n,_=>(n+1,.c (.bool (n%3==0)))
 | .s,n,t=>(n,t)
 | .sl fs,n,t=>match t with
  | .l xs=>((cW (cT fs) n xs).1,.l (cW (cT fs) n xs).2)
  |t=>(n,t)
def cT:List Ty->Nat->List T->Nat×List T
 | [],n,_=>(n,[])
 |f::fs,n,ts=>match ts with
  |t::ts=>((cT fs (pd f n t).1 ts).1,(pd f n t).2::(cT fs (pd f n t).1 ts).2)
  | []=>(n,[])
end
theorem HU(n:Nat)(ts:List T):cT [] n ts=(n,[]):=by simp only[cT]
theorem Be(f:Ty)(fs:List Ty)(n:Nat)(t:T)(ts:List T):cT (f::fs) n (t::ts)=((cT fs (pd f n t).1 ts).1,(pd f n t).2::(cT fs (pd f n t).1 ts).2):=by simp only[cT]
theorem yu(k:IntKind)(n:Nat)(t:T):pd (.i k) n t=(n+1,.c (.int k (n:Int))):=by simp only[pd]
theorem yv(n:Nat)(t:T):pd .b n t=(n+1,.c (.bool (n%3==0))):=by simp only[pd]
theorem Bf(fs:List Ty)(n:Nat)(xs:List (List T)):pd (.sl fs) n (.l xs)=((cW (cT fs) n xs).1,.l (cW (cT fs) n xs).2):=by simp only[pd]
theorem Tl{g:Nat->List T->Nat×List T}:∀(xs:List (List T)) (n:Nat) (r:List T),cW g n (xs++[r])=((g (cW g n xs).1 r).1,(cW g n xs).2++[(g (cW g n xs).1 r).2])
 | [],n,r=>rfl
 |x::xs,n,r=>by
  show((cW g (g n x).1 (xs++[r])).1,(g n x).2::(cW g (g n x).1 (xs++[r])).2)=_
  rw[Tl xs]
  rfl
theorem Pk{g:Nat->List T->Nat×List T}:∀(xs:List (List T)) (n:Nat),(cW g n xs).2.length=xs.length
 | [],n=>rfl
 |x::xs,n=>by simp[cW,Pk xs]
theorem Tm{g:Nat->List T->Nat×List T}{xs:List (List T)}{i:Nat}{r:List T}(h:xs[i]?=some r)(n:Nat):cW g n (xs.take (i+1))=((g (cW g n (xs.take i)).1 r).1,(cW g n (xs.take i)).2++[(g (cW g n (xs.take i)).1 r).2]):=by
 rw[Tb h,Tl]
theorem Tn{g:Nat->List T->Nat×List T}:∀{xs:List (List T)} {i:Nat} {r:List T} (n:Nat),xs[i]?=some r->(cW g n xs).2[i]?=some (g (cW g n (xs.take i)).1 r).2
 | [],_,_,_,h=>by simp at h
 |x::xs,0,r,n,h=>by simp at h;subst h;simp[cW]
 |x::xs,i+1,r,n,h=>by
  have:=Tn (g:=g) (xs:=xs) (i:=i) (r:=r) (g n x).1 (by simpa using h)
  simpa[cW]using this
mutual
def vO:Ty->Bool
 | .i .i64=>true
 | .i _=>false
 | .b=>true
 | .s=>false
 | .sl fs=>Nat.ble fs.length 64&&lW fs
def lW:List Ty->Bool
 | []=>true
 |f::fs=>vO f&&lW fs
end
theorem ES{f:Ty}{fs:List Ty}(h:lW (f::fs)=true):vO f=true∧lW fs=true:=by
 unfold lW at h
 simpa using h
theorem yw{fs:List Ty}(h:vO (.sl fs)=true):fs.length<=64∧lW fs=true:=by
 unfold vO at h
 simp only[bk]at h
 exact⟨Nat.le_of_ble_eq_true h.1,h.2⟩
theorem ET{g:Nat->List T->Nat×List T}{xs:List (List T)}(hg:∀n,∀r∈xs,n<=(g n r).1∧(g n r).1<=n+64*(1+lj r)):∀(n:Nat),n<=(cW g n xs).1∧(cW g n xs).1<=n+64*gE xs:=by
 induction xs with
 |nil=>intro n;simp[cW,gE]
 |cons x xs ih=>
  intro n
  have h1:=hg n x (.head _)
  have h2:=ih (λn r hr=>hg n r (.tail _ hr)) (g n x).1
  simp only[cW,gE]
  omega
mutual
theorem EU:∀(f:Ty) (n:Nat) (t:T),vO f=true->WT f t->n<=(pd f n t).1∧(pd f n t).1<=n+1+64*bulk t
 | .i k,n,t,_,_=>by simp only[yu];omega
 | .b,n,t,_,_=>by simp only[yv];omega
 | .s,n,t,h,_=>by simp[vO]at h
 | .sl fs,n,t,h,ht=>by
  unfold WT at ht
  obtain⟨xs,rfl,_,hx⟩:=ht
  have hm:=yw h
  rw[Bf,fy]
  have:=ET (g:=cT fs) (xs:=xs) (λn r hr=>by
   have:=yx fs n r hm.2 (hx r hr)
   omega) n
  simp only
  omega
theorem yx:∀(fs:List Ty) (n:Nat) (ts:List T),lW fs=true->cV fs ts->n<=(cT fs n ts).1∧(cT fs n ts).1<=n+fs.length+64*lj ts
 | [],n,ts,_,_=>by simp only[HU,List.length_nil];omega
 |f::fs,n,ts,h,ht=>by
  unfold cV at ht
  obtain⟨t,lV,rfl,h1,h2⟩:=ht
  have hm:=ES h
  have g1:=EU f n t hm.1 h1
  have g2:=yx fs (pd f n t).1 lV hm.2 h2
  rw[Be,eU]
  simp only[List.length_cons]
  omega
end
mutual
theorem ag3:∀(f:Ty) (n:Nat) (t:T),vO f=true->WT f t->n+1+64*bulk t<4611686018427387904->WT f (pd f n t).2∧bulk (pd f n t).2=bulk t
 | .i k,n,t,hk,ht,hn=>by
  unfold WT at ht
  obtain⟨m,rfl,_⟩:=ht
  rw[yu,gB,gB]
  refine⟨?_,rfl⟩
  unfold WT
  cases k with
  |i64=>exact⟨n,rfl,by simp[Lit.wf,IntKind.min,IntKind.max,IntKind.signed,IntKind.bits];omega⟩
  |_=>simp[vO]at hk
 | .b,n,t,_,ht,_=>by
  unfold WT at ht
  obtain⟨m,rfl⟩:=ht
  rw[yv,gF,gF]
  refine⟨?_,rfl⟩
  unfold WT
  exact⟨_,rfl⟩
 | .s,n,t,h,_,_=>by simp[vO]at h
 | .sl fs,n,t,h,ht,hn=>by
  unfold WT at ht
  obtain⟨xs,rfl,hl,hx⟩:=ht
  have hm:=yw h
  rw[Bf,fy,fy]
  rw[fy]at hn
  have:∀(xs:List (List T)) (n:Nat),(∀r∈xs,cV fs r)->n+1+64*gE xs<4611686018427387904->(∀r∈(cW (cT fs) n xs).2,cV fs r)∧gE (cW (cT fs) n xs).2=gE xs:=by
   intro xs
   induction xs with
   |nil=>intro n _ _;simp[cW]
   |cons x xs ih=>
    intro n hx hn
    simp only[gE]at hn
    have g0:=yx fs n x hm.2 (hx x (.head _))
    have g1:=Kp fs n x hm.2 (hx x (.head _)) (by omega)
    have g2:=ih (cT fs n x).1 (λr hr=>hx r (.tail _ hr)) (by omega)
    simp only[cW,gE,List.mem_cons]
    refine⟨?_,by rw[g1.2,g2.2]⟩
    rintro r (rfl|hr)
    ·exact g1.1
    ·exact g2.1 r hr
  have:=this xs n hx hn
  refine⟨?_,this.2⟩
  unfold WT
  exact⟨_,rfl,by rw[Pk];exact hl,this.1⟩
theorem Kp:∀(fs:List Ty) (n:Nat) (ts:List T),lW fs=true->cV fs ts->n+fs.length+64*lj ts<4611686018427387904->cV fs (cT fs n ts).2∧lj (cT fs n ts).2=lj ts
 | [],n,ts,_,ht,_=>by
  unfold cV at ht
  subst ht
  rw[HU]
  refine⟨?_,rfl⟩
  unfold cV
  rfl
 |f::fs,n,ts,h,ht,hn=>by
  unfold cV at ht
  obtain⟨t,lV,rfl,h1,h2⟩:=ht
  have hm:=ES h
  simp only[eU,List.length_cons]at hn
  have g0:=EU f n t hm.1 h1
  have g1:=ag3 f n t hm.1 h1 (by omega)
  have g2:=Kp fs (pd f n t).1 lV hm.2 h2 (by omega)
  rw[Be,eU,eU,g1.2,g2.2]
  refine⟨?_,rfl⟩
  unfold cV
  exact⟨_,_,rfl,g1.1,g2.1⟩
end
def C0(F:af)(fs:List Ty):Prop:=
 ∀(n:Nat) (ts:List T),cV fs ts->lj ts<=1048576->n+64*lj ts<=1099511627776->F ((cT fs n ts).2++[.c (.int .i64 (n:Int))])=some [.c (.int .i64 ((cT fs n ts).1:Int))]
def C1(w:Nat):List Ty->List Nat->Nat->Nat->Nat->(Nat->Nat->PL)->PL
 | [],_,_,c,p,k=>k c p
 | .b::fs,gs,j,c,p,k=>
  .ins (.pr .bW [.a 0,.a 4])<| .ins (.pr (.cell w j) [.a 0,.a 4])<| .ins (.pr (.bin .rem) [.a c,.k (.int .i64 3)])<| .ins (.pr (.bin .eql) [.a (p+2),.k (.int .i64 0)])<|
  .ins (.pr (.bb .neq) [.a (p+1),.a (p+3)])<| .ite (p+4) (.ins (.pr .bz [.k (.int .i64 (-1))])<| .ret [.a (p+5)])<| .ins (.pr (.bin .add) [.a c,.k (.int .i64 1)])<|C1 w fs gs (j+1) (p+5) (p+6) k
 | .sl _::fs,gs,j,c,p,k=>
  .ins (.pr .bW [.a 0,.a 4])<| .ins (.pr (.cell w j) [.a 0,.a 4])<| .ins (.cl (gs.headD 0) [.a (p+1),.a c] 1)<| .ins (.pr (.bin .lss) [.a (p+2),.k (.int .i64 0)])<|
  .ite (p+3) (.ins (.pr .bz [.k (.int .i64 (-1))])<| .ret [.a (p+4)])<|C1 w fs gs.tail (j+1) (p+2) (p+4) k
 |_::fs,gs,j,c,p,k=>
  .ins (.pr .bW [.a 0,.a 4])<| .ins (.pr (.cell w j) [.a 0,.a 4])<| .ins (.pr (.bin .neq) [.a (p+1),.a c])<| .ite (p+2) (.ins (.pr .bz [.k (.int .i64 (-1))])<| .ret [.a (p+3)])<|
  .ins (.pr (.bin .add) [.a c,.k (.int .i64 1)])<|C1 w fs gs (j+1) (p+3) (p+4) k
def To(fs:List Ty)(gs:List Nat):PL:=
 .loop [.a 1,.k (.int .i64 0),.k (.int .i64 0)]<|
  .ins (.pr .len [.a 0])<|
  .ins (.pr (.bin .lss) [.a 4,.a 5])<|
  .ite 6 (C1 fs.length fs gs 0 2 7 λc p=>.ins (.pr (.bin .add) [.a 4,.k (.int .i64 1)])<| .go 0 [.a c,.a 3,.a p])
  (.ins (.pr .bz [.a 2])<| .ret [.a 7])
def HV(S:Nat->af):List Ty->List Nat->Prop
 | [],_=>True
 | .sl fs::r,g::gs=>C0 (S g) [.sl fs]∧HV S r gs
 | .sl _::_,[]=>False
 |_::r,gs=>HV S r gs
theorem nE{ρ:List T}{n:Nat}{t:T}(h:ρ.getD n T.cp=t)(hn:n<ρ.length)(B:List T):(ρ++B).getD n T.cp=t:=by
 rw[<-h]
 simp[List.getD,List.getElem?_append_left hn]
theorem EV{ρ B:List T}{t:T}:(ρ++t::B).getD ρ.length T.cp=t:=by
 simp[List.getD]
theorem Tp(n:Nat):Prim.ev (.bin .rem) [.c (.int .i64 (n:Int)),.c (.int .i64 3)]=some (.c (.int .i64 ((n%3:Nat):Int))):=by
 simp only[Prim.ev,T.val,lO,Option.bind_some,if_true]
 rw[if_neg (by decide)]
 simp only[Option.bind_some]
 congr 3
theorem Tq(a b:Nat):(((a:Int))==(b:Int))=(a==b):=by
 rw[Bool.eq_iff_iff]
 simp only[beq_iff_eq]
 omega
set_option linter.unusedSimpArgs false
theorem tT{ρ:List T}{p:Nat}(hp:ρ.length=p)(m:Nat)(B:List T):(ρ++B).getD (p+m) T.cp=B.getD m T.cp:=by
 subst hp
 simp only[List.getD,List.getElem?_append_right (Nat.le_add_right _ _),Nat.add_sub_cancel_left]
theorem ag4{α:Type}{r:List α}{j:Nat}{t:α}{ts:List α}(h:r.drop j=t::ts):r[j]?=some t∧r.drop (j+1)=ts:=by
 have hj:j<r.length:=by
  rcases Nat.lt_or_ge j r.length with h'|h'
  ·exact h'
  ·rw[List.drop_eq_nil_iff.2 h']at h;cases h
 rw[List.drop_eq_getElem_cons hj]at h
 cases h
 exact⟨List.getElem?_eq_getElem hj,rfl⟩
theorem EW{S:Nat->af}{R:Nat}{K:List af}{w i:Nat}{ys:List (List T)}{r:List T}{out:Option (List T)}(hr:ys[i]?=some r)(hw:r.length=w):∀(fs:List Ty) (gs:List Nat) (j c p:Nat) (k:Nat->Nat->PL) (ρ:List T) (n:Nat) (ts:List T),
  HV S fs gs->lW fs=true->cV fs ts->lj ts<=1048576->n+fs.length+64*lj ts<=1099511627776->r.drop j=(cT fs n ts).2->ρ.length=p->4<p->ρ.getD 0 T.cp=.l ys->ρ.getD 4 T.cp=.c (.int .i64 (i:Int))->c<p->ρ.getD c T.cp=.c (.int .i64 (n:Int))->
  (∀(c' p':Nat) (B:List T),(ρ++B).length=p'->c'<p'->(ρ++B).getD c' T.cp=.c (.int .i64 ((cT fs n ts).1:Int))->PL.den S R K (ρ++B) (k c' p')=out)->
  PL.den S R K ρ (C1 w fs gs j c p k)=out
 | [],gs,j,c,p,k,ρ,n,ts,_,_,_,_,_,_,hp,h4,_,_,hc,hn,hk=>by
  have:=hk c p [] (by simpa using hp) hc (by simpa[HU]using hn)
  simpa[C1]using this
 |f::fs,gs,j,c,p,k,ρ,n,ts,hS,hm,ht,hb,zv,hd,hp,h4,e0,e4,hc,hn,hk=>by
  unfold cV at ht
  obtain⟨t,lV,rfl,QG,Ak⟩:=ht
  have pE:=ES hm
  rw[Be]at hd
  obtain⟨hj,jB⟩:=ag4 hd
  simp only[eU,List.length_cons]at hb zv
  have x0:∀B,(ρ++B).getD 0 T.cp=.l ys:=λB=>nE e0 (by omega) B
  have x4:∀B,(ρ++B).getD 4 T.cp=.c (.int .i64 (i:Int)):=λB=>nE e4 (by omega) B
  have xc:∀B,(ρ++B).getD c T.cp=.c (.int .i64 (n:Int)):=λB=>nE hn (by omega) B
  have xp:=tT hp
  have xp0:∀B,(ρ++B).getD p T.cp=B.getD 0 T.cp:=λB=>xp 0 B
  have cell:=EO (k:=.i64) hr hw hj
  have hle:=EU f n t pE.1 QG
  have wr:IntKind.i64.wrap ((n:Int)+1)=((n+1:Nat):Int):=by rw[yk (by omega) (by omega)];simp
  cases f with
  |i kk=>
   cases kk with
   |i64=>
    rw[yu]at cell
    simp only[C1,i_,mR,List.map_cons,List.map_nil,eV,dL,e0,e4,hn,x0,x4,xc,xp,xp0,List.append_assoc,List.cons_append,List.nil_append,List.getD_cons_zero,List.getD_cons_succ,dU,wU hr,cell,yl,bne_self_eq_false,nD,cond_false,ym,wr]
    refine EW hr hw fs gs (j+1) (p+3) (p+4) k _ (n+1) lV (by simpa[HV]using hS) pE.2 Ak (by omega) (by omega) (by rw[jB,yu]) (by simp[hp]) (by omega) (x0 _) (x4 _) (by omega) (by rw[xp];rfl) ?_
    intro c' p' B h1 h2 h3
    rw[List.append_assoc]at h1 h3⊢
    refine hk c' p' _ h1 h2 ?_
    rw[h3,Be,yu]
   |_=>simp[vO]at pE
  |b=>
   rw[yv]at cell
   have Kq:(((n%3:Nat):Int)==(0:Int))=(n%3==0):=Tq (n%3) 0
   simp only[C1,i_,mR,List.map_cons,List.map_nil,eV,dL,e0,e4,hn,x0,x4,xc,xp,xp0,List.append_assoc,List.cons_append,List.nil_append,List.getD_cons_zero,List.getD_cons_succ,dU,wU hr,cell,Tp,EN,Kq,Kf,bne_self_eq_false,nD,cond_false,ym,wr]
   refine EW hr hw fs gs (j+1) (p+5) (p+6) k _ (n+1) lV (by simpa[HV]using hS) pE.2 Ak (by omega) (by omega) (by rw[jB,yv]) (by simp[hp]) (by omega) (x0 _) (x4 _) (by omega) (by rw[xp];rfl) ?_
   intro c' p' B h1 h2 h3
   rw[List.append_assoc]at h1 h3⊢
   refine hk c' p' _ h1 h2 ?_
   rw[h3,Be,yv]
  |s=>simp[vO]at pE
  |sl es=>
   cases gs with
   |nil=>simp[HV]at hS
   |cons g gs=>
    simp only[HV]at hS
    have pR:=hS.1 n [t] (by unfold cV;exact⟨t,[],rfl,QG,by unfold cV;rfl⟩) (by simp only[eU,fG];omega) (by simp only[eU,fG];omega)
    rw[Be,HU]at pR
    simp only[List.cons_append,List.nil_append]at pR
    have EX:¬(((pd (.sl es) n t).1:Int)<0):=by omega
    simp only[C1,i_,qI,mR,List.map_cons,List.map_nil,eV,dL,e0,e4,hn,x0,x4,xc,xp,xp0,List.append_assoc,List.cons_append,List.nil_append,List.getD_cons_zero,List.getD_cons_succ,dU,wU hr,cell,List.headD_cons,pR,fS,pn,EX,decide_false,nD,cond_false]
    refine EW hr hw fs gs (j+1) (p+2) (p+4) k _ (pd (.sl es) n t).1 lV hS.2 pE.2 Ak (by omega) (by omega) jB (by simp[hp]) (by omega) (x0 _) (x4 _) (by omega) (by rw[xp];rfl) ?_
    intro c' p' B h1 h2 h3
    rw[List.append_assoc]at h1 h3⊢
    refine hk c' p' _ h1 h2 ?_
    rw[h3,Be]
theorem vQ{S:Nat->af}{fs:List Ty}{gs:List Nat}(hS:HV S fs gs)(hm:vO (.sl fs)=true):C0 (λts=>(To fs gs).den S rounds [] ts) [.sl fs]:=by
 intro n ts ht hb hn
 obtain⟨xs,rfl,h2,h3⟩:=ht.Kj
 have pE:=yw hm
 rw[eU,fG,fy,Nat.add_zero]at hb hn
 have hlen:=EL xs
 rw[Be,HU,Bf]
 simp only[List.cons_append,List.nil_append,To]
 rw[vL]
 have iK:∀i,gE (xs.take i)<=gE xs:=by
  intro i
  have:=S1 (xs.take i) (xs.drop i)
  rw[List.take_append_drop]at this
  omega
 have pU:=λi=>ET (g:=cT fs) (xs:=xs.take i) (λm r hr=>by
  have:=yx fs m r pE.2 (h3 r (List.mem_of_mem_take hr))
  omega) n
 have key:=A' (n:=xs.length) (out:=[T.c (.int .i64 ((cW (cT fs) n xs).1:Int))]) (F:=λself ts=>(PL.den S rounds (self::[]) ([T.l (cW (cT fs) n xs).2,.c (.int .i64 (n:Int))]++ts) (
  .ins (.pr .len [.a 0])<|
  .ins (.pr (.bin .lss) [.a 4,.a 5])<|
  .ite 6 (C1 fs.length fs gs 0 2 7 λc p=>.ins (.pr (.bin .add) [.a 4,.k (.int .i64 1)])<| .go 0 [.a c,.a 3,.a p])
  (.ins (.pr .bz [.a 2])<| .ret [.a 7])))) (λi=>[.c (.int .i64 ((cW (cT fs) n (xs.take i)).1:Int)),.c (.int .i64 0),.c (.int .i64 (i:Int))]) ?_ ?_ rounds (by unfold rounds;omega)
 ·exact key
 ·intro i hi self
  obtain⟨r,hr⟩:=HT hi
  have EQ:=h3 r (Bb hr)
  have hbr:=S0 hr
  have gb:=Tn (g:=cT fs) n hr
  have AC:=Tm (g:=cT fs) hr n
  have ma:=iK (i+1)
  have oF:=uR_ hr
  have hm1:=pU i
  have be:(i:Int)<xs.length:=by omega
  have e3:IntKind.i64.wrap ((i:Int)+1)=((i+1:Nat):Int):=by rw[yk (by omega) (by omega)];simp
  generalize hN:(cW (cT fs) n (xs.take i)).1=N at*
  have hlw:=Kp fs N r pE.2 EQ (by omega)
  simp only[i_,mR,List.map_cons,List.map_nil,eV,dL,List.cons_append,List.nil_append,List.getD_cons_zero,List.getD_cons_succ,dU,pc,Pk,pn,be,decide_true,nD,cond_true]
  refine EW gb (by rw[hlw.1.length]) fs gs 0 2 7 _ _ N r hS pE.2 EQ (by omega) (by omega) (by rw[List.drop_zero]) rfl (by omega) rfl rfl (by omega) rfl ?_
  intro c' p' B h1 h4 h5
  have h6:=EV (ρ:=[T.l (cW (cT fs) n xs).2,.c (.int .i64 (n:Int)),.c (.int .i64 (N:Int)),.c (.int .i64 0),.c (.int .i64 (i:Int)),.c (.int .i64 (xs.length:Int)),.c (.bool true)]++B) (B:=[]) (t:=.c (.int .i64 ((i+1:Nat):Int)))
  rw[h1]at h6
  have h7:=nE h5 (by rw[h1];exact h4) [.c (.int .i64 ((i+1:Nat):Int))]
  simp only[List.cons_append,List.nil_append,List.append_assoc]at h6 h7
  simp only[i_,sK,List.map_cons,List.map_nil,eV,dL,List.cons_append,List.nil_append,List.append_assoc,List.getD_cons_zero,List.getD_cons_succ,dU,ym,e3,h6,h7,AC]
 ·intro self
  have:xs.take xs.length=xs:=List.take_length
  simp only[this,qH,i_,mR,List.map_cons,List.map_nil,eV,dL,List.cons_append,List.nil_append,List.getD_cons_zero,List.getD_cons_succ,dU,pc,Pk,pn,Int.lt_irrefl,decide_false,nD,cond_false,CY]
set_option linter.unusedSimpArgs false
abbrev Pt:=List (Nat×Nat×Nat)
def fk:Pt->T->Option T
 | [],t=>some t
 |(i,w,j)::P,.l xs=>(xs[i]?).bind λr=>if r.length=w then(r[j]?).bind λt=>t.rows.bind λys=>fk P (.l ys)else none
 |_::_,.c _=>none
def cX:Pt->T->T->T
 | [],_,v=>v
 |(i,w,j)::P,.l xs,v=>.l (setRow xs i j [cX P (((xs[i]?).bind (·[j]?)).getD T.cp) v])
 |_::_,t,_=>t
theorem Kr{i w j:Nat}{P:Pt}{t d:T}(h:fk ((i,w,j)::P) t=some d):∃xs r ys,t=.l xs∧xs[i]?=some r∧r.length=w∧r[j]?=some (.l ys)∧fk P (.l ys)=some d:=by
 cases t with
 |c v=>simp[fk]at h
 |l xs=>
  simp only[fk,cG]at h
  obtain⟨r,hr,h⟩:=h
  split at h
  ·rename_i hw
   rw[cG]at h
   obtain⟨u,hu,h⟩:=h
   cases u with
   |c v=>simp[T.rows]at h
   |l ys=>exact⟨xs,r,ys,rfl,hr,hw,hu,by simpa[T.rows]using h⟩
  ·cases h
theorem Kt{i w j:Nat}{P:Pt}{xs:List (List T)}{r:List T}{ys:List (List T)}{d:T}(h1:xs[i]?=some r)(h2:r.length=w)(h3:r[j]?=some (.l ys))(h4:fk P (.l ys)=some d):fk ((i,w,j)::P) (.l xs)=some d:=by
 simp[fk,h1,h2,h3,T.rows,h4]
theorem EY{xs:List (List T)}{i:Nat}{a b:List T}{t v:T}{j:Nat}(h:xs[i]?=some (a++t::b))(hj:a.length=j):setRow xs i j [v]=xs.set i (a++v::b):=by
 subst hj
 unfold setRow
 apply List.ext_getElem?
 intro k
 rw[List.getElem?_modify,List.getElem?_set]
 by_cases hk:i=k
 ·subst hk
  have hi:i<xs.length:=(List.getElem?_eq_some_iff.1 h).1
  rw[h]
  simp[hi]
 ·simp[hk]
theorem Ku{r:List T}{j:Nat}{t:T}(h:r[j]?=some t):∃a b,r=a++t::b∧a.length=j:=by
 obtain⟨hj,he⟩:=List.getElem?_eq_some_iff.1 h
 refine⟨r.take j,r.drop (j+1),?_,by simp;omega⟩
 rw[<-he,<-List.drop_eq_getElem_cons hj,List.take_append_drop]
theorem ag6{xs:List (List T)}{i:Nat}{r:List T}{t v:T}{j:Nat}(h:xs[i]?=some r)(hj:r[j]?=some t):∃r',(setRow xs i j [v])[i]?=some r'∧r'.length=r.length∧r'[j]?=some v:=by
 obtain⟨a,b,rfl,ha⟩:=Ku hj
 have hi:i<xs.length:=(List.getElem?_eq_some_iff.1 h).1
 rw[EY h ha]
 refine⟨a++v::b,by simp[hi],by simp,?_⟩
 subst ha
 simp
theorem Bg:∀{P:Pt} {t d:T} {v:List (List T)},fk P t=some d->fk P (cX P t (.l v))=some (.l v)
 | [],t,d,v,_=>rfl
 |(i,w,j)::P,t,d,v,h=>by
  obtain⟨xs,r,ys,rfl,h1,h2,h3,h4⟩:=Kr h
  have ih:=Bg (v:=v) h4
  have e:((xs[i]?).bind (·[j]?)).getD T.cp=.l ys:=by simp[h1,h3]
  simp only[cX,e]
  cases hs:cX P (.l ys) (.l v)with
  |c u=>rw[hs]at ih;cases P with
   |nil=>simp[fk]at ih
   |cons q P=>obtain⟨q1,q2,q3⟩:=q;simp[fk]at ih
  |l zs=>
   obtain⟨r',g1,g2,g3⟩:=ag6 (v:=.l zs) h1 h3
   rw[hs]at ih
   exact Kt g1 (by rw[g2,h2]) g3 ih
theorem Kv:∀{P:Pt} {t d:T} {v:List (List T)} {v':T},fk P t=some d->cX P (cX P t (.l v)) v'=cX P t v'
 | [],t,d,v,v',_=>rfl
 |(i,w,j)::P,t,d,v,v',h=>by
  obtain⟨xs,r,ys,rfl,h1,h2,h3,h4⟩:=Kr h
  have ih:=Kv (v:=v) (v':=v') h4
  have e:((xs[i]?).bind (·[j]?)).getD T.cp=.l ys:=by simp[h1,h3]
  obtain⟨a,b,rfl,ha⟩:=Ku h3
  have hi:i<xs.length:=(List.getElem?_eq_some_iff.1 h1).1
  have e2:∀u:T,(((setRow xs i j [u])[i]?).bind (·[j]?)).getD T.cp=u:=by
   intro u
   rw[EY h1 ha]
   subst ha
   simp[hi]
  simp only[cX,e,e2,ih]
  congr 1
  have g1:(xs.set i (a++cX P (.l ys) (.l v)::b))[i]?=some (a++cX P (.l ys) (.l v)::b):=by simp[hi]
  rw[EY h1 ha,EY h1 ha,EY g1 ha,List.set_set]
theorem Ts{xs:List (List T)}{i:Nat}{r:List T}(h:xs[i]?=some r):xs.set i r=xs:=by
 apply List.ext_getElem?
 intro k
 rw[List.getElem?_set]
 by_cases hk:i=k
 ·subst hk
  have hi:i<xs.length:=(List.getElem?_eq_some_iff.1 h).1
  simp[hi,h.symm]
 ·simp[hk]
theorem Kw:∀{P:Pt} {t d:T},fk P t=some d->cX P t d=t
 | [],t,d,h=>by simp only[fk,br]at h;exact h.symm
 |(i,w,j)::P,t,d,h=>by
  obtain⟨xs,r,ys,rfl,h1,h2,h3,h4⟩:=Kr h
  have ih:=Kw h4
  have e:((xs[i]?).bind (·[j]?)).getD T.cp=.l ys:=by simp[h1,h3]
  obtain⟨a,b,rfl,ha⟩:=Ku h3
  simp only[cX,e,ih]
  rw[EY h1 ha,Ts h1]
theorem Tt:∀{P Q:Pt} {t:T},fk (P++Q) t=(fk P t).bind (fk Q)
 | [],Q,t=>rfl
 |(i,w,j)::P,Q,.c v=>by simp[fk]
 |(i,w,j)::P,Q,.l xs=>by
  simp only[List.cons_append,fk]
  cases xs[i]? with
  |none=>rfl
  |some r=>
   simp only[Option.bind_some]
   split
   ·cases r[j]? with
    |none=>rfl
    |some u=>
     simp only[Option.bind_some]
     cases u with
     |c v=>rfl
     |l ys=>simp only[T.rows,Option.bind_some];exact Tt
   ·rfl
theorem Tu:∀{P Q:Pt} {t d v:T},fk P t=some d->cX (P++Q) t v=cX P t (cX Q d v)
 | [],Q,t,d,v,h=>by simp only[fk,br]at h;subst h;rfl
 |(i,w,j)::P,Q,t,d,v,h=>by
  obtain⟨xs,r,ys,rfl,h1,h2,h3,h4⟩:=Kr h
  have e:((xs[i]?).bind (·[j]?)).getD T.cp=.l ys:=by simp[h1,h3]
  simp only[List.cons_append,cX,e,Tu h4]
def cJ(ρ:List T):Pt->Pt->Prop
 | [],[]=>True
 |(a,w,j)::P,(i,w',j')::Q=>w=w'∧j=j'∧a<ρ.length∧ρ.getD a T.cp=.c (.int .i64 (i:Int))∧cJ ρ P Q
 |_,_=>False
theorem cJ.ext{ρ:List T}(B:List T):∀{P Q:Pt},cJ ρ P Q->cJ (ρ++B) P Q
 | [],[],_=>trivial
 |(a,w,j)::P,(i,w',j')::Q,⟨h1,h2,h3,h4,h5⟩=>⟨h1,h2,by simp;omega,nE h4 h3 B,cJ.ext B h5⟩
 | [],_::_,h=>h.elim
 |(_,_,_)::_,[],h=>h.elim
theorem cJ.snoc{ρ:List T}{a i w j:Nat}(h1:a<ρ.length)(h2:ρ.getD a T.cp=.c (.int .i64 (i:Int))):∀{P Q:Pt},cJ ρ P Q->cJ ρ (P++[(a,w,j)]) (Q++[(i,w,j)])
 | [],[],_=>⟨rfl,rfl,h1,h2,trivial⟩
 |(a',w',j')::P,(i',w'',j'')::Q,⟨g1,g2,g3,g4,g5⟩=>⟨g1,g2,g3,g4,cJ.snoc h1 h2 g5⟩
 | [],_::_,h=>h.elim
 |(_,_,_)::_,[],h=>h.elim
def qK:Pt->Nat->Nat->(Nat->Nat->PL)->PL
 | [],s,p,k=>k s p
 |(a,w,j)::P,s,p,k=>.ins (.pr (.dJ w j) [.a s,.a a]) (qK P p (p+1) k)
def yz:Pt->Nat->Nat->Nat->Nat->(Nat->Nat->PL)->PL
 | [],_,_,v,p,k=>k v p
 |(a,w,j)::P,e,e',v,p,k=>yz P e' (e'+1) v p λv' p'=>.ins (.pr (.jd w j) [.a e,.a a,.a v']) (k p' (p'+1))
theorem Tv{xs:List (List T)}{i w j:Nat}{r:List T}{ys:List (List T)}(h:xs[i]?=some r)(hw:r.length=w)(hj:r[j]?=some (.l ys)):Prim.ev (.dJ w j) [.l xs,.c (.int .i64 (i:Int))]=some (.l ys):=by
 simp[Prim.ev,yo h,hw,hj,T.rows]
theorem ag7{xs:List (List T)}{i w j:Nat}{r:List T}{v:T}(h:xs[i]?=some r)(hw:r.length=w)(hj:j<w):Prim.ev (.jd w j) [.l xs,.c (.int .i64 (i:Int)),v]=some (.l (setRow xs i j [v])):=by
 simp[Prim.ev,yo h,hw,hj,T.rows,T.int]
def kj:Pt->T->List T
 | [],_=>[]
 |(i,w,j)::P,t=>match fk [(i,w,j)] t with
  |some u=>u::kj P u
  |none=>[]
theorem Kx{i w j:Nat}{P:Pt}{xs:List (List T)}{r:List T}{ys:List (List T)}(h1:xs[i]?=some r)(h2:r.length=w)(h3:r[j]?=some (.l ys)):kj ((i,w,j)::P) (.l xs)=.l ys::kj P (.l ys):=by
 simp only[kj,Kt h1 h2 h3 (P:=[]) rfl]
section
variable {S:Nat->af} {R:Nat} {K:List af} {out:Option (List T)}
theorem HW:∀{P Q:Pt} {s p:Nat} {k:Nat->Nat->PL} {ρ:List T} {t d:T},cJ ρ P Q->fk Q t=some d->ρ.length=p->s<p->ρ.getD s T.cp=t->
  (∀e,(kj Q t).length=P.length->e<p+P.length->(ρ++kj Q t).getD e T.cp=d->PL.den S R K (ρ++kj Q t) (k e (p+P.length))=out)->PL.den S R K ρ (qK P s p k)=out
 | [],[],s,p,k,ρ,t,d,_,hg,hp,hs,ht,hk=>by
  simp only[fk,br]at hg
  subst hg
  have:=hk s rfl (by simpa using hs) (by simpa[kj]using ht)
  simpa[kj,qK]using this
 |(a,w,j)::P,(i,w',j')::Q,s,p,k,ρ,t,d,⟨z1,z2,h3,h4,h5⟩,hg,hp,hs,ht,hk=>by
  subst z1 z2
  obtain⟨xs,r,ys,rfl,g1,g2,g3,g4⟩:=Kr hg
  rw[Kx g1 g2 g3]at hk
  simp only[qK,i_,List.map_cons,List.map_nil,dL,ht,h4,Tv g1 g2 g3,dU]
  refine HW (cJ.ext _ h5) g4 (by simp[hp]) (by omega) (by rw[<-hp];exact EV) λe he1 he2 he3=>?_
  rw[List.append_assoc]at he3⊢
  have:=hk e (by simp[he1]) (by simp;omega) he3
  simpa[Nat.add_assoc,Nat.add_comm 1]using this
 | [],_::_,_,_,_,_,_,_,h,_,_,_,_,_=>h.elim
 |(_,_,_)::_,[],_,_,_,_,_,_,h,_,_,_,_,_=>h.elim
theorem Tw:∀{P Q:Pt} {e e' v p:Nat} {k:Nat->Nat->PL} {ρ:List T} {t d vv:T},cJ ρ P Q->fk Q t=some d->ρ.length=p->e<p->ρ.getD e T.cp=t->(∀m x,(kj Q t)[m]?=some x->e'+m<p∧ρ.getD (e'+m) T.cp=x)->v<p->ρ.getD v T.cp=vv->
  (∀(B:List T) (v' p':Nat),(ρ++B).length=p'->v'<p'->(ρ++B).getD v' T.cp=cX Q t vv->PL.den S R K (ρ++B) (k v' p')=out)->PL.den S R K ρ (yz P e e' v p k)=out
 | [],[],e,e',v,p,k,ρ,t,d,vv,_,hg,hp,he,ht,hc,hv,sA,hk=>by
  have:=hk [] v p (by simpa using hp) hv (by simpa[cX]using sA)
  simpa[yz]using this
 |(a,w,j)::P,(i,w',j')::Q,e,e',v,p,k,ρ,t,d,vv,⟨z1,z2,h3,h4,h5⟩,hg,hp,he,ht,hc,hv,sA,hk=>by
  subst z1 z2
  obtain⟨xs,r,ys,rfl,g1,g2,g3,g4⟩:=Kr hg
  rw[Kx g1 g2 g3]at hc
  have c0:=hc 0 _ rfl
  have hjw:j<w:=by rw[<-g2];exact(List.getElem?_eq_some_iff.1 g3).1
  rw[show yz ((a,w,j)::P) e e' v p k=yz P e' (e'+1) v p (λv' p'=>.ins (.pr (.jd w j) [.a e,.a a,.a v']) (k p' (p'+1))) from rfl]
  refine Tw h5 g4 hp c0.1 c0.2 (λm x hm=>?_) hv sA λB v' p' q1 q2 q3=>?_
  ·have:=hc (m+1) x (by simpa using hm)
   rw[show e'+1+m=e'+(m+1) by omega]
   exact this
  ·have x1:=nE ht (by omega) B
   have x2:=nE h4 h3 B
   simp only[i_,List.map_cons,List.map_nil,dL,x1,x2,q3,ag7 g1 g2 hjw,dU]
   rw[List.append_assoc]
   have e0:((xs[i]?).bind (·[j]?)).getD T.cp=.l ys:=by simp[g1,g3]
   refine hk _ p' (p'+1) (by simp at q1⊢;omega) (by omega) ?_
   rw[<-List.append_assoc,<-q1,EV]
   simp only[cX,e0]
 | [],_::_,_,_,_,_,_,_,_,_,_,h,_,_,_,_,_,_,_,_=>h.elim
 |(_,_,_)::_,[],_,_,_,_,_,_,_,_,_,h,_,_,_,_,_,_,_,_=>h.elim
def EZ(P:Pt)(k w j s v p:Nat)(cont:Nat->Nat->PL):PL:=
 qK P s p λd p1=>.ins (.pr .bW [.a d,.a k])<|qK P s (p1+1) λd2 p2=>.ins (.pr (.put true w j 1) [.a d2,.a k,.a v])<|
  match P with
  | []=>cont p2 (p2+1)
  |_::_=>qK P s (p2+1) λ_ p3=>yz P s (p2+1) p2 p3 cont
theorem Tx{P Q:Pt}{k w j s v p kv:Nat}{cont:Nat->Nat->PL}{ρ:List T}{t vv:T}{xs:List (List T)}{r:List T}(hP:cJ ρ P Q)(hg:fk Q t=some (.l xs))(hp:ρ.length=p)(hs:s<p)(ht:ρ.getD s T.cp=t)
  (hkp:k<p)(hk:ρ.getD k T.cp=.c (.int .i64 (kv:Int)))(hv:v<p)(sA:ρ.getD v T.cp=vv)(l9:eA vv=true)(hr:xs[kv]?=some r)(hw:r.length=w)(hj:j<w)
  (hc:∀(B:List T) (s' p':Nat),(ρ++B).length=p'->s'<p'->(ρ++B).getD s' T.cp=cX Q t (.l (setRow xs kv j [vv]))->PL.den S R K (ρ++B) (cont s' p')=out):PL.den S R K ρ (EZ P k w j s v p cont)=out:=by
 have kt:=EP (sc:=true) (k:=.i64) (off:=j) (n:=1) (vs:=[vv]) hr hw (by omega) rfl (by simp[l9])
 unfold EZ
 refine HW hP hg hp hs ht λe a1 a2 a3=>?_
 have l1:(ρ++kj Q t).length=p+P.length:=by simp[hp,a1]
 simp only[i_,List.map_cons,List.map_nil,dL,a3,nE hk (by omega) _,wU hr,dU,List.append_assoc]
 refine HW (cJ.ext _ hP) hg (by simp[hp,a1];omega) (by omega) (nE ht (by omega) _) λe2 b1 b2 b3=>?_
 simp only[List.append_assoc]at b3⊢
 simp only[i_,List.map_cons,List.map_nil,dL,b3,nE hk (by omega) _,nE sA (by omega) _,kt,dU,List.append_assoc]
 cases P with
 |nil=>
  cases Q with
  |cons _ _=>exact hP.elim
  |nil=>
   simp only[fk,br]at hg
   refine hc _ _ _ (by simp[hp,kj]) (by simp) ?_
   simp only[kj,List.nil_append,List.length_nil,Nat.add_zero,List.cons_append]
   rw[show p+1=p+1 from rfl,tT hp]
   rfl
 |cons q P=>
  simp only
  refine HW (cJ.ext _ hP) hg (by simp[hp,a1];omega) (by omega) (nE ht (by omega) _) λe3 c1 c2 c3=>?_
  simp only[List.append_assoc]at c3⊢
  have l3:(ρ++(kj Q t++([T.c (.bool true)]++(kj Q t++([T.l (setRow xs kv j [vv])]++kj Q t))))).length=p+(q::P).length+1+(q::P).length+1+(q::P).length:=by simp[hp,a1];omega
  refine Tw (cJ.ext _ hP) hg l3 (by omega) (nE ht (by omega) _) (λm x hm=>?_) (by omega) (vv:=.l (setRow xs kv j [vv])) ?_ λB s' p' d1 d2 d3=>?_
  ·have J2:m<(kj Q t).length:=(List.getElem?_eq_some_iff.1 hm).1
   refine⟨by omega,?_⟩
   have:=tT (ρ:=ρ++(kj Q t++([T.c (.bool true)]++(kj Q t++[T.l (setRow xs kv j [vv])])))) (p:=p+(q::P).length+1+(q::P).length+1) (by simp[hp,a1];omega) m (kj Q t)
   simp only[List.append_assoc]at this
   rw[this]
   simp[List.getD,hm]
  ·have:=tT (ρ:=ρ++(kj Q t++([T.c (.bool true)]++kj Q t))) (p:=p+(q::P).length+1+(q::P).length) (by simp[hp,a1];omega) 0 ([T.l (setRow xs kv j [vv])]++kj Q t)
   simp only[List.append_assoc,Nat.add_zero]at this
   rw[this]
   rfl
  ·rw[List.append_assoc]at d1 d3⊢
   exact hc _ s' p' d1 d2 d3
end
set_option linter.unusedSimpArgs false
abbrev vR:=Pt->Nat->Nat->Nat->Nat->Nat->(Nat->Nat->Nat->Nat->PL)->PL
def Pl(pe:vR)(P:Pt)(cl:Lf)(s p:Nat)(cont:Nat->Nat->Nat->PL):PL:=
 .loop [cl,.k (.int .i64 0),.a s] (qK P (p+2) (p+3) λd p1=>.ins (.pr .len [.a d])<| .ins (.pr (.bin .lss) [.a (p+1),.a p1])<|
  .ite (p1+1) (pe P (p+1) (p+2) p (p1+2) 0 λs c p' q=>.ins (.pr (.bin .add) [.a (p+1),.k (.int .i64 1)])<| .go q [.a c,.a p',.a s]) (cont p (p+2) (p1+2)))
mutual
def Bh:Ty->Nat->Nat->vR
 | .i _,w,j,P,k,s,c,p,q,cont=>EZ P k w j s c p λs' p'=>.ins (.pr (.bin .add) [.a c,.k (.int .i64 1)]) (cont s' p' (p'+1) q)
 | .b,w,j,P,k,s,c,p,q,cont=>.ins (.pr (.bin .rem) [.a c,.k (.int .i64 3)])<| .ins (.pr (.bin .eql) [.a p,.k (.int .i64 0)])<|
   EZ P k w j s (p+1) (p+2) λs' p'=>.ins (.pr (.bin .add) [.a c,.k (.int .i64 1)]) (cont s' p' (p'+1) q)
 | .s,w,j,P,k,s,c,p,q,cont=>cont s c p q
 | .sl es,w,j,P,k,s,c,p,q,cont=>qK P s p λd p1=>.ins (.pr .bW [.a d,.a k])<|qK P s (p1+1) λd2 p2=>.ins (.pr (.dJ w j) [.a d2,.a k])<|
   Pl (tU es es.length 0) (P++[(k,w,j)]) (.a c) s (p2+1) λc' s' p'=>cont s' c' p' (q+1)
def tU:List Ty->Nat->Nat->vR
 | [],w,j,P,k,s,c,p,q,cont=>cont s c p q
 |f::fs,w,j,P,k,s,c,p,q,cont=>Bh f w j P k s c p q λs' c' p' q'=>tU fs w (j+1) P k s' c' p' q' cont
end
def Pm(S:Nat->af)(w:Nat)(fs:List Ty)(j:Nat)(pe:vR):Prop:=
 ∀(out:Option (List T)) (K:List af) (P Q:Pt) (k s c p q kv n:Nat) (cont:Nat->Nat->Nat->Nat->PL) (ρ:List T) (t:T) (xs:List (List T)) (dn ts:List T),cJ ρ P Q->fk Q t=some (.l xs)->ρ.length=p->s<p->ρ.getD s T.cp=t->
  k<p->ρ.getD k T.cp=.c (.int .i64 (kv:Int))->c<p->ρ.getD c T.cp=.c (.int .i64 (n:Int))->xs[kv]?=some (dn++ts)->dn.length=j->(dn++ts).length=w->cV fs ts->lj ts<=1048576->n+fs.length+64*lj ts<=1099511627776->
  (∀(Ks:List af) (B:List T) (s' c' p':Nat),(ρ++B).length=p'->s'<p'->c'<p'->(ρ++B).getD c' T.cp=.c (.int .i64 ((cT fs n ts).1:Int))->(ρ++B).getD s' T.cp=cX Q t (.l (xs.set kv (dn++(cT fs n ts).2)))->
   PL.den S rounds (Ks++K) (ρ++B) (cont s' c' p' (q+Ks.length))=out)->PL.den S rounds K ρ (pe P k s c p q cont)=out
theorem Tz{S:Nat->af}{R:Nat}{f:af}{K:List af}{ρ:List T}(xs:List Lf):∀Ks:List af,PL.den S R (Ks++f::K) ρ (.go Ks.length xs)=f (xs.map (Lf.ev ρ))
 | []=>by simp only[List.nil_append,List.length_nil,sK]
 |g::Ks=>by simp only[List.cons_append,List.length_cons,S_];exact Tz xs Ks
theorem TA{S:Nat->af}{out:Option (List T)}{K:List af}{es:List Ty}{pe:vR}(hF:Pm S es.length es 0 pe)(hl:es.length<=64)(hm:lW es=true){P Q:Pt}{cl:Lf}{s p n:Nat}{cont:Nat->Nat->Nat->PL}{ρ:List T}{t:T}{xs:List (List T)}
  (hP:cJ ρ P Q)(hg:fk Q t=some (.l xs))(hp:ρ.length=p)(hs:s<p)(ht:ρ.getD s T.cp=t)(hc:Lf.ev ρ cl=.c (.int .i64 (n:Int)))(hw:∀r∈xs,cV es r)(hb:gE xs<=1048576)(hn:n+64*gE xs<=1099511627776)
  (hk:∀f:af,PL.den S rounds (f::K) (ρ++([T.c (.int .i64 ((cW (cT es) n xs).1:Int)),T.c (.int .i64 (xs.length:Int)),cX Q t (.l (cW (cT es) n xs).2)]++(kj Q (cX Q t (.l (cW (cT es) n xs).2))++[T.c (.int .i64 (xs.length:Int)),T.c (.bool false)])))
   (cont p (p+2) (p+3+P.length+2))=out):PL.den S rounds K ρ (Pl pe P cl s p cont)=out:=by
 have hlen:=EL xs
 have iK:∀i,gE (xs.take i)<=gE xs:=by
  intro i
  have:=S1 (xs.take i) (xs.drop i)
  rw[List.take_append_drop]at this
  omega
 have pU:=λi=>ET (g:=cT es) (xs:=xs.take i) (λm r hr=>by
  have:=yx es m r hm (hw r (List.mem_of_mem_take hr))
  omega) n
 unfold Pl
 rw[vL]
 simp only[List.map_cons,List.map_nil,hc,eV,dL,ht]
 have jJ:∀i,(cW (cT es) n (xs.take i)).2.length=(xs.take i).length:=λi=>Pk _ _
 refine ag1 (n:=xs.length) (Inv:=λi x=>x=[T.c (.int .i64 ((cW (cT es) n (xs.take i)).1:Int)),T.c (.int .i64 (i:Int)),cX Q t (.l ((cW (cT es) n (xs.take i)).2++xs.drop i))]) (Q:=λo=>o=out) ?_ ?_ ?_ (by unfold rounds;omega)
 ·rintro i x hi rfl self
  left
  refine⟨_,rfl,?_⟩
  obtain⟨r,hr⟩:=HT hi
  have EQ:=hw r (Bb hr)
  have hbr:=S0 hr
  have ma:=iK (i+1)
  have oF:=uR_ hr
  have hm1:=pU i
  have AC:=Tm (g:=cT es) hr n
  have Qw:=jJ i
  have hil:(xs.take i).length=i:=by simp;omega
  have be:(i:Int)<xs.length:=by omega
  have e3:IntKind.i64.wrap ((i:Int)+1)=((i+1:Nat):Int):=by rw[yk (by omega) (by omega)];simp
  generalize hN:(cW (cT es) n (xs.take i)).1=N at*
  generalize hA:(cW (cT es) n (xs.take i)).2=A at*
  have hdr:xs.drop i=r::xs.drop (i+1):=by
   rw[List.drop_eq_getElem_cons hi]
   rw[List.getElem?_eq_getElem hi]at hr
   cases hr
   rfl
  have hgi:=Bg (v:=A++xs.drop i) hg
  have SE:(A++xs.drop i)[i]?=some r:=by
   rw[List.getElem?_append_right (by omega),hdr,Qw,hil,Nat.sub_self]
   rfl
  have hll:(A++xs.drop i).length=xs.length:=by simp;omega
  refine HW (cJ.ext _ hP) hgi (s:=p+2) (p:=p+3) (by simp[hp]) (by omega) (by rw[tT hp];rfl) λd a1 a2 a3=>?_
  have tV:(ρ++[T.c (.int .i64 (N:Int)),T.c (.int .i64 (i:Int)),cX Q t (.l (A++xs.drop i))]++kj Q (cX Q t (.l (A++xs.drop i)))).length=p+3+P.length:=by simp[hp,a1];omega
  have x1:∀B,(ρ++[T.c (.int .i64 (N:Int)),T.c (.int .i64 (i:Int)),cX Q t (.l (A++xs.drop i))]++kj Q (cX Q t (.l (A++xs.drop i)))++B).getD (p+1) T.cp=.c (.int .i64 (i:Int)):=λB=>by
   rw[List.append_assoc,List.append_assoc,tT hp];rfl
  have x0:∀B,(ρ++[T.c (.int .i64 (N:Int)),T.c (.int .i64 (i:Int)),cX Q t (.l (A++xs.drop i))]++kj Q (cX Q t (.l (A++xs.drop i)))++B).getD p T.cp=.c (.int .i64 (N:Int)):=λB=>by
   have:=tT hp 0 ([T.c (.int .i64 (N:Int)),T.c (.int .i64 (i:Int)),cX Q t (.l (A++xs.drop i))]++(kj Q (cX Q t (.l (A++xs.drop i)))++B))
   rw[List.append_assoc,List.append_assoc];exact this
  have x2:∀B,(ρ++[T.c (.int .i64 (N:Int)),T.c (.int .i64 (i:Int)),cX Q t (.l (A++xs.drop i))]++kj Q (cX Q t (.l (A++xs.drop i)))++B).getD (p+2) T.cp=cX Q t (.l (A++xs.drop i)):=λB=>by
   rw[List.append_assoc,List.append_assoc,tT hp];rfl
  have hPx:∀B,cJ (ρ++[T.c (.int .i64 (N:Int)),T.c (.int .i64 (i:Int)),cX Q t (.l (A++xs.drop i))]++kj Q (cX Q t (.l (A++xs.drop i)))++B) P Q:=λB=>by
   rw[List.append_assoc,List.append_assoc];exact cJ.ext _ hP
  generalize mQ:ρ++[T.c (.int .i64 (N:Int)),T.c (.int .i64 (i:Int)),cX Q t (.l (A++xs.drop i))]++kj Q (cX Q t (.l (A++xs.drop i)))=ρ1 at*
  have y1:=x1 [T.c (.int .i64 (xs.length:Int))]
  have y2:(ρ1++[T.c (.int .i64 (xs.length:Int))]).getD (p+3+P.length) T.cp=.c (.int .i64 (xs.length:Int)):=by rw[<-tV];exact EV
  have y3:(ρ1++[T.c (.int .i64 (xs.length:Int)),T.c (.bool true)]).getD (p+3+P.length+1) T.cp=.c (.bool true):=by rw[tT tV];rfl
  simp only[i_,mR,List.map_cons,List.map_nil,dL,a3,pc,hll,dU,y1,y2,pn,be,decide_true,List.append_assoc,List.cons_append,List.nil_append,y3,nD,cond_true]
  refine hF _ (self::K) P Q (p+1) (p+2) p (p+3+P.length+2) 0 i N _ _ _ (A++xs.drop i) [] r (hPx _) hgi (by simp only[List.length_append,tV,List.length_cons,List.length_nil]) (by omega) (x2 _) (by omega) (x1 _) (by omega) (x0 _) SE rfl EQ.length EQ (by omega) (by omega) ?_
  intro Ks B s' c' p' q1 q2 q3 q4 q5
  have z1:(ρ1++([T.c (.int .i64 (xs.length:Int)),T.c (.bool true)]++B)).getD (p+1) T.cp=.c (.int .i64 (i:Int)):=x1 _
  rw[List.append_assoc]at q1 q4 q5⊢
  have z2:((ρ1++([T.c (.int .i64 (xs.length:Int)),T.c (.bool true)]++B))++[T.c (.int .i64 ((i+1:Nat):Int))]).getD p' T.cp=.c (.int .i64 ((i+1:Nat):Int)):=by rw[<-q1];exact EV
  have z3:=nE q4 (by rw[q1];exact q3) [T.c (.int .i64 ((i+1:Nat):Int))]
  have z4:=nE q5 (by rw[q1];exact q2) [T.c (.int .i64 ((i+1:Nat):Int))]
  rw[i_]
  simp only[List.map_cons,List.map_nil,dL,eV,z1,ym,e3,dU,Nat.zero_add]
  rw[Tz]
  simp only[List.map_cons,List.map_nil,dL,z2,z3,z4]
  rw[AC]
  congr 4
  rw[Kv hg]
  congr 2
  rw[hdr,List.set_append_right _ _ (by omega),Qw,hil,Nat.sub_self]
  simp
 ·rintro x rfl self
  rw[show xs.take xs.length=xs from List.take_length,show xs.drop xs.length=[] from List.drop_length,List.append_nil]
  have hgi:=Bg (v:=(cW (cT es) n xs).2) hg
  refine HW (cJ.ext _ hP) hgi (s:=p+2) (p:=p+3) (by simp[hp]) (by omega) (by rw[tT hp];rfl) λd a1 a2 a3=>?_
  have tV:(ρ++[T.c (.int .i64 ((cW (cT es) n xs).1:Int)),T.c (.int .i64 (xs.length:Int)),cX Q t (.l (cW (cT es) n xs).2)]++kj Q (cX Q t (.l (cW (cT es) n xs).2))).length=p+3+P.length:=by simp[hp,a1];omega
  have x1:∀B,(ρ++[T.c (.int .i64 ((cW (cT es) n xs).1:Int)),T.c (.int .i64 (xs.length:Int)),cX Q t (.l (cW (cT es) n xs).2)]++kj Q (cX Q t (.l (cW (cT es) n xs).2))++B).getD (p+1) T.cp=.c (.int .i64 (xs.length:Int)):=λB=>by
   rw[List.append_assoc,List.append_assoc,tT hp];rfl
  have x0:∀B,(ρ++([T.c (.int .i64 ((cW (cT es) n xs).1:Int)),T.c (.int .i64 (xs.length:Int)),cX Q t (.l (cW (cT es) n xs).2)]++(kj Q (cX Q t (.l (cW (cT es) n xs).2))++B))).getD p T.cp=.c (.int .i64 ((cW (cT es) n xs).1:Int)):=λB=>tT hp 0 _
  have x2:∀B,(ρ++([T.c (.int .i64 ((cW (cT es) n xs).1:Int)),T.c (.int .i64 (xs.length:Int)),cX Q t (.l (cW (cT es) n xs).2)]++(kj Q (cX Q t (.l (cW (cT es) n xs).2))++B))).getD (p+2) T.cp=cX Q t (.l (cW (cT es) n xs).2):=λB=>by
   rw[tT hp];rfl
  have y1:=x1 [T.c (.int .i64 (xs.length:Int))]
  have y2:(ρ++[T.c (.int .i64 ((cW (cT es) n xs).1:Int)),T.c (.int .i64 (xs.length:Int)),cX Q t (.l (cW (cT es) n xs).2)]++kj Q (cX Q t (.l (cW (cT es) n xs).2))++[T.c (.int .i64 (xs.length:Int))]).getD (p+3+P.length) T.cp=.c (.int .i64 (xs.length:Int)):=by rw[<-tV];exact EV
  have y3:(ρ++[T.c (.int .i64 ((cW (cT es) n xs).1:Int)),T.c (.int .i64 (xs.length:Int)),cX Q t (.l (cW (cT es) n xs).2)]++kj Q (cX Q t (.l (cW (cT es) n xs).2))++[T.c (.int .i64 (xs.length:Int)),T.c (.bool false)]).getD (p+3+P.length+1) T.cp=.c (.bool false):=by rw[tT tV];rfl
  rw[i_]
  simp only[List.map_cons,List.map_nil,dL,a3,pc,Pk,dU]
  rw[i_]
  simp only[List.map_cons,List.map_nil,dL,y1,y2,pn,Int.lt_irrefl,decide_false,dU]
  rw[mR,List.append_assoc _ [_] [_]]
  simp only[List.cons_append,List.nil_append]at y3⊢
  rw[y3]
  simp only[nD,cond_false]
  have:=hk self
  simpa using this
 ·rw[List.take_zero,List.drop_zero]
  simp only[cW,List.nil_append,Kw hg]
  rfl
theorem ag_{S:Nat->af}{out:Option (List T)}{K:List af}{es:List Ty}{pe:vR}(hF:Pm S es.length es 0 pe)(hl:es.length<=64)(hm:lW es=true){P Q:Pt}{cl:Lf}{s p n:Nat}{cont:Nat->Nat->Nat->PL}{ρ:List T}{t:T}{xs:List (List T)}
  (hP:cJ ρ P Q)(hg:fk Q t=some (.l xs))(hp:ρ.length=p)(hs:s<p)(ht:ρ.getD s T.cp=t)(hc:Lf.ev ρ cl=.c (.int .i64 (n:Int)))(hw:∀r∈xs,cV es r)(hb:gE xs<=1048576)(hn:n+64*gE xs<=1099511627776)
  (hk:∀(f:af) (B:List T) (c' s' p':Nat),(ρ++B).length=p'->c'<p'->s'<p'->(ρ++B).getD c' T.cp=.c (.int .i64 ((cW (cT es) n xs).1:Int))->(ρ++B).getD s' T.cp=cX Q t (.l (cW (cT es) n xs).2)->
   PL.den S rounds (f::K) (ρ++B) (cont c' s' p')=out):PL.den S rounds K ρ (Pl pe P cl s p cont)=out:=by
 refine TA hF hl hm hP hg hp hs ht hc hw hb hn λf=>?_
 have hPQ:∀{P Q:Pt} {t d:T},cJ ρ P Q->fk Q t=some d->(kj Q t).length=P.length:=by
  intro P
  induction P with
  |nil=>intro Q t d hP hg;cases Q with
   |nil=>rfl
   |cons _ _=>exact hP.elim
  |cons q P ih=>
   intro Q t d hP hg
   obtain⟨a,w,j⟩:=q
   cases Q with
   |nil=>exact hP.elim
   |cons q Q=>
    obtain⟨i,w',j'⟩:=q
    obtain⟨_,_,_,_,h5⟩:=hP
    obtain⟨xs,r,ys,rfl,g1,g2,g3,g4⟩:=Kr hg
    rw[Kx g1 g2 g3,List.length_cons,List.length_cons,ih h5 g4]
 have oK:=hPQ hP (Bg (v:=(cW (cT es) n xs).2) hg)
 refine hk f _ _ _ _ (by simp[hp,oK];omega) (by omega) (by omega) ?_ ?_
 ·exact tT hp 0 _
 ·rw[tT hp];rfl
theorem aha{S:Nat->af}{out:Option (List T)}{K:List af}{es:List Ty}{pe:vR}(hF:Pm S es.length es 0 pe)(hl:es.length<=64)(hm:lW es=true){cl:Lf}{s p n:Nat}{rest:PL}{ρ:List T}{xs:List (List T)}
  (hp:ρ.length=p)(hs:s<p)(ht:ρ.getD s T.cp=.l xs)(hc:Lf.ev ρ cl=.c (.int .i64 (n:Int)))(hw:∀r∈xs,cV es r)(hb:gE xs<=1048576)(hn:n+64*gE xs<=1099511627776)
  (hk:∀f:af,PL.den S rounds (f::K) (ρ++[T.c (.int .i64 ((cW (cT es) n xs).1:Int)),T.c (.int .i64 (xs.length:Int)),.l (cW (cT es) n xs).2,T.c (.int .i64 (xs.length:Int)),T.c (.bool false)]) rest=out):
  PL.den S rounds K ρ (Pl pe [] cl s p λ_ _ _=>rest)=out:=
 TA hF hl hm (P:=[]) (Q:=[]) trivial rfl hp hs ht hc hw hb hn hk
set_option linter.unusedSimpArgs false
def TOk(S:Nat->af)(f:Ty):Prop:=
 ∀(w j:Nat) (out:Option (List T)) (K:List af) (P Q:Pt) (k s c p q kv n:Nat) (cont:Nat->Nat->Nat->Nat->PL) (ρ:List T) (t:T) (xs:List (List T)) (dn ts:List T) (u:T),cJ ρ P Q->fk Q t=some (.l xs)->ρ.length=p->s<p->ρ.getD s T.cp=t->
  k<p->ρ.getD k T.cp=.c (.int .i64 (kv:Int))->c<p->ρ.getD c T.cp=.c (.int .i64 (n:Int))->xs[kv]?=some (dn++u::ts)->dn.length=j->(dn++u::ts).length=w->WT f u->bulk u<=1048576->n+1+64*bulk u<=1099511627776->
  (∀(Ks:List af) (B:List T) (s' c' p':Nat),(ρ++B).length=p'->s'<p'->c'<p'->(ρ++B).getD c' T.cp=.c (.int .i64 ((pd f n u).1:Int))->(ρ++B).getD s' T.cp=cX Q t (.l (xs.set kv (dn++(pd f n u).2::ts)))->
   PL.den S rounds (Ks++K) (ρ++B) (cont s' c' p' (q+Ks.length))=out)->PL.den S rounds K ρ (Bh f w j P k s c p q cont)=out
theorem ahb{S:Nat->af}:TOk S (.i .i64):=by
 intro w j out K P Q k s c p q kv n cont ρ t xs dn ts u hP hg hp hs ht hk yd hc hn hr hj hw hu hb zv jm
 rw[yu]at jm
 have e3:IntKind.i64.wrap ((n:Int)+1)=((n+1:Nat):Int):=by rw[yk (by omega) (by omega)];simp
 simp only[Bh]
 refine Tx hP hg hp hs ht hk yd hc hn rfl hr hw (by simp at hw;omega) λB s' p' q1 q2 q3=>?_
 have x:=nE hn (by omega) B
 rw[i_]
 simp only[List.map_cons,List.map_nil,dL,eV,x,ym,e3,dU,List.append_assoc]
 rw[EY hr hj]at q3
 refine jm [] _ s' p' (p'+1) (by simp at q1⊢;omega) (by omega) (by omega) ?_ ?_
 ·rw[<-List.append_assoc,<-q1];exact EV
 ·rw[<-List.append_assoc];exact nE q3 (by rw[q1];exact q2) _
theorem ahc{S:Nat->af}:TOk S .b:=by
 intro w j out K P Q k s c p q kv n cont ρ t xs dn ts u hP hg hp hs ht hk yd hc hn hr hj hw hu hb zv jm
 rw[yv]at jm
 have e3:IntKind.i64.wrap ((n:Int)+1)=((n+1:Nat):Int):=by rw[yk (by omega) (by omega)];simp
 have Kq:(((n%3:Nat):Int)==(0:Int))=(n%3==0):=Tq (n%3) 0
 have y1:(ρ++[T.c (.int .i64 ((n%3:Nat):Int))]).getD p T.cp=.c (.int .i64 ((n%3:Nat):Int)):=by rw[<-hp];exact EV
 simp only[Bh]
 rw[i_]
 simp only[List.map_cons,List.map_nil,dL,eV,hn,Tp,dU]
 rw[i_]
 simp only[List.map_cons,List.map_nil,dL,eV,y1,EN,Kq,dU,List.append_assoc,List.cons_append,List.nil_append]
 have y2:(ρ++[T.c (.int .i64 ((n%3:Nat):Int)),T.c (.bool (n%3==0))]).getD (p+1) T.cp=T.c (.bool (n%3==0)):=by rw[tT hp];rfl
 refine Tx (cJ.ext _ hP) hg (by simp[hp]) (by omega) (nE ht (by omega) _) (by omega) (nE yd (by omega) _) (by omega) y2 rfl hr hw (by simp at hw;omega) λB s' p' q1 q2 q3=>?_
 simp only[List.append_assoc]at q1 q3⊢
 have x:=nE hn (by omega) ([T.c (.int .i64 ((n%3:Nat):Int)),T.c (.bool (n%3==0))]++B)
 rw[i_]
 simp only[List.map_cons,List.map_nil,dL,eV,x,ym,e3,dU]
 rw[EY hr hj]at q3
 rw[List.append_assoc]
 refine jm [] _ s' p' (p'+1) (by simp at q1⊢;omega) (by omega) (by omega) ?_ ?_
 ·rw[<-List.append_assoc,<-q1];exact EV
 ·rw[<-List.append_assoc];exact nE q3 (by rw[q1];exact q2) _
theorem ahd{S:Nat->af}{es:List Ty}(hF:Pm S es.length es 0 (tU es es.length 0))(hl:es.length<=64)(hm:lW es=true):TOk S (.sl es):=by
 intro w j out K P Q k s c p q kv n cont ρ t xs dn ts u hP hg hp hs ht hk yd hc hn hr hj hw hu hb zv jm
 unfold WT at hu
 obtain⟨ys,rfl,_,hy⟩:=hu
 rw[Bf]at jm
 rw[fy]at hb zv
 have HC:(dn++T.l ys::ts)[j]?=some (.l ys):=by subst hj;simp
 have QE:fk (Q++[(kv,w,j)]) t=some (.l ys):=by rw[Tt,hg];exact Kt hr hw HC rfl
 simp only[Bh]
 refine HW hP hg hp hs ht λe a1 a2 a3=>?_
 rw[i_]
 simp only[List.map_cons,List.map_nil,dL,a3,nE yd (by omega) _,wU hr,dU,List.append_assoc]
 refine HW (cJ.ext _ hP) hg (by simp[hp,a1];omega) (by omega) (nE ht (by omega) _) λe2 b1 b2 b3=>?_
 simp only[List.append_assoc]at b3⊢
 rw[i_]
 simp only[List.map_cons,List.map_nil,dL,b3,nE yd (by omega) _,Tv hr hw HC,dU,List.append_assoc]
 refine ag_ hF hl hm (cJ.snoc (by simp;omega) (nE yd (by omega) _) (cJ.ext _ hP)) QE (by simp[hp,a1];omega) (by omega) (nE ht (by omega) _) (n:=n) (by rw[dL];exact nE hn (by omega) _) hy hb (by omega) λf B c' s' p' q1 q2 q3 q4 q5=>?_
 rw[List.append_assoc]at q1 q4 q5⊢
 refine jm [f] _ s' c' p' q1 q3 q2 q4 ?_
 rw[q5,Tu hg]
 congr 1
 have e0:((xs[kv]?).bind (·[j]?)).getD T.cp=.l ys:=by rw[hr];simp[HC]
 simp only[cX,e0]
 rw[EY hr hj]
mutual
theorem ahe{S:Nat->af}:∀(f:Ty),vO f=true->TOk S f
 | .i k,h=>by
  cases k with
  |i64=>exact ahb
  |_=>simp[vO]at h
 | .b,h=>ahc
 | .s,h=>by simp[vO]at h
 | .sl es,h=>ahd (yA es 0 (yw h).2 es.length) (yw h).1 (yw h).2
theorem yA{S:Nat->af}:∀(fs:List Ty) (j:Nat),lW fs=true->∀w,Pm S w fs j (tU fs w j)
 | [],j,h,w=>by
  intro out K P Q k s c p q kv n cont ρ t xs dn ts hP hg hp hs ht hk yd hc hn hr hj hw hu hb zv jm
  unfold cV at hu
  subst hu
  simp only[tU]
  have:=jm [] [] s c p (by simpa using hp) hs hc (by simpa[HU]using hn) (by
   rw[HU,Ts hr,Kw hg];simpa using ht)
  simpa using this
 |f::fs,j,h,w=>by
  intro out K P Q k s c p q kv n cont ρ t xs dn ts hP hg hp hs ht hk yd hc hn hr hj hw hu hb zv jm
  unfold cV at hu
  obtain⟨u,lV,rfl,h1,h2⟩:=hu
  have hm:=ES h
  have hle:=EU f n u hm.1 h1
  simp only[eU,List.length_cons]at hb zv
  simp only[tU]
  refine ahe f hm.1 w j out K P Q k s c p q kv n _ ρ t xs dn lV u hP hg hp hs ht hk yd hc hn hr hj hw h1 (by omega) (by omega) λKs B s' c' p' q1 q2 q3 q4 q5=>?_
  have EB:kv<xs.length:=(List.getElem?_eq_some_iff.1 hr).1
  refine yA fs (j+1) hm.2 w out (Ks++K) P Q k s' c' p' (q+Ks.length) kv (pd f n u).1 cont (ρ++B) _ (xs.set kv (dn++(pd f n u).2::lV)) (dn++[(pd f n u).2]) lV (cJ.ext _ hP) (Bg hg) q1 q2 q5 (by simp at q1;omega) (nE yd (by omega) _) q3 q4
   (by simp[EB]) (by simp[hj]) (by simp at hw⊢;omega) h2 (by omega) (by omega) λKs2 B2 s2 c2 p2 r1 r2 r3 r4 r5=>?_
  rw[List.append_assoc]at r1 r4 r5⊢
  have:=jm (Ks2++Ks) (B++B2) s2 c2 p2 r1 r2 r3 (by rw[r4,Be]) (by
   rw[r5,Kv hg,List.set_set,Be,List.append_assoc]
   rfl)
  rw[List.append_assoc,List.length_append]at this
  rw[show q+Ks.length+Ks2.length=q+(Ks2.length+Ks.length) by omega]
  exact this
end
set_option linter.defProp false in
def pb:=(az (az (az (az (az (@qH) (@i_)) (az (@qI) (az (@mR) (@sK)))) (az (az (@S_) (az (@List.map_cons.{0,0}) (@List.map_nil.{0,0}))) (az (@eV) (az (@Ba) (@dL))))) (az (az (az (@List.cons_append.{0}) (@List.nil_append.{0})) (az (@List.append_assoc.{0}) (az (@List.getD_cons_zero.{0}) (@List.getD_cons_succ.{0})))) (az (az (@dU) (az (@nD) (@cond_true.{1}))) (az (@cond_false.{1}) (az (@decide_true) (@decide_false)))))) (az (az (az (az (@pc) (@S2)) (az (@CY) (az (@EM) (@S3)))) (az (az (@pn) (az (@S4) (@S5))) (az (@S6) (az (@EN) (@yl))))) (az (az (az (@ym) (@yn)) (az (@S7) (az (@S8) (@Kf)))) (az (az (@S9) (az (@Kg) (@Bool.not_true))) (az (@Bool.not_false) (az (@bne_self_eq_false.{0}) (@beq_self_eq_true.{0})))))))
set_option linter.unusedSimpArgs false
theorem ahg{sc:Bool}{w:Nat}{xs ys:List (List T)}(h:xs.length+ys.length<qS)(hs:(!sc||ys.all (·.all eA))=true)(h1:okW w xs=true)(h2:okW w ys=true):Prim.ev (.app sc w) [.l xs,.l ys]=some (.l (xs++ys)):=by
 simp only[Prim.ev,h,hs,h1,h2,if_true]
theorem pV{w:Nat}{ms:List Bool}{ts:List T}(hw:0<w)(hm:rl ms ts=true)(hl:ts.length=w):Prim.ev (.lit w ms) ts=some (.l [ts]):=by
 have h1:ts.length/w=1:=by rw[hl];exact Nat.div_self hw
 have h2:ts.take w=ts:=by rw[<-hl];exact List.take_length
 simp only[Prim.ev,hw,hm,h1,if_true,qA,h2]
theorem rV{fs:List Ty}{xs:List (List T)}(h1:xs.length<=maxLen)(h2:∀r∈xs,cV fs r):WT (.sl fs) (.l xs):=by
 unfold WT
 exact⟨xs,rfl,h1,h2⟩
theorem TB{fs:List Ty}{xs:List (List T)}(h1:xs.length<=maxLen)(h2:∀r∈xs,cV fs r):cV [.sl fs] [.l xs]:=by
 unfold cV
 refine⟨_,[],rfl,rV h1 h2,?_⟩
 unfold cV
 rfl
set_option linter.unusedSimpArgs false
def yB:List (Nat×nw)->Nat->Option nw
 | [],_=>none
 |e::l,g=>bif Nat.beq e.1 g then some e.2 else yB l g
theorem TC:∀{l:List (Nat×nw)} {g:Nat} {sg:nw},yB l g=some sg->(g,sg)∈l
 | [],_,_,h=>by cases h
 |e::l,g,sg,h=>by
  unfold yB at h
  cases hb:Nat.beq e.1 g with
  |true=>
   rw[hb]at h
   simp only[cond_true,br]at h
   have:=dN hb
   subst this;subst h
   exact .head _
  |false=>
   rw[hb]at h
   exact .tail _ (TC h)
def Cx.on(cx:Cx)(l:List (Nat×nw)):Cx:={cx with sg:=yB l}
def Ky(P:Program)(sg:nw)(g:Nat)(F:af):Prop:=fF P g∧Eg P sg g F
structure Kz (P:Program) (cx:Cx):Prop where
 dT:eu P cx
 cR:∀g fn,cx.fn g=some fn->P.funcs[g]?=some fn∧fF P g
 mx:P.follows .mixedOrders=true
def TD:List ((Nat×Nat×Nat)×Js)->Nat->Nat->Nat->Option Js
 | [],_,_,_=>none
 |e::l,f,k,j=>bif Nat.beq e.1.1 f&&(Nat.beq e.1.2.1 k&&Nat.beq e.1.2.2 j)then some e.2 else TD l f k j
def TE:List (Nat×Nat×Nat)->Nat->Nat->Nat->Bool
 | [],_,_,_=>false
 |e::l,f,k,j=>(Nat.beq e.1 f&&(Nat.beq e.2.1 k&&Nat.beq e.2.2 j))||TE l f k j
def TF:List Nat->Nat->Bool
 | [],_=>false
 |e::l,f=>Nat.beq e f||TF l f
theorem Ky.mk{P:Program}{cx:Cx}(Z:Kz P cx){R n g:Nat}{fn:Func}{sg:nw}{pl:PL}{l:List (Nat×nw)}{S:Nat->af}(jl:fF P g)(hf:P.funcs[g]?=some fn)
  (hl:∀x∈l,Ky P x.2 x.1 (S x.1))(h:z_ (cx.on l) n g fn sg=some pl):Ky P sg g λts=>pl.den S R [] ts:=
 ⟨jl,SS (cx:=cx.on l) ⟨⟨Z.dT.ty⟩,λg' sg' h'=>hl _ (TC h'),Z.cR⟩ Z.mx hf h⟩
theorem fF.mk{P:Program}{g:Nat}{fn:Func}(h:P.funcs[g]?=some fn)(h1:(fn.name== "runtime.NumGoroutine")=false)(h2:fn.body.isNone=false):fF P g:=⟨fn,h,h1,h2⟩
structure gh (P:Program) where
 g:Nat
 sg:nw
 F:af
 ok:Ky P sg g F
def TG{P:Program}(l:List (gh P)):List (Nat×nw):=l.map λk=>(k.g,k.sg)
def kS{P:Program}(l:List (gh P)):List (Nat×af):=l.map λk=>(k.g,k.F)
theorem TH{P:Program}:∀{ks:List (gh P)} {g:Nat} {sg:nw},yB (TG ks) g=some sg->Ky P sg g (pick (kS ks) g)
 | [],g,sg,h=>by cases h
 |k::ks,g,sg,h=>by
  simp only[TG,List.map_cons,yB]at h
  simp only[kS,List.map_cons,pick]
  cases hb:Nat.beq k.g g with
  |true=>
   rw[hb,cond_true]at h
   cases h
   rw[cond_true,<-dN hb]
   exact k.ok
  |false=>
   rw[hb,cond_false]at h
   rw[cond_false]
   exact TH h
def gh.dB{P:Program}{cx:Cx}(Z:Kz P cx)(g:Nat){fn:Func}(sg:nw)(pl:PL)(F:af)(ks:List (gh P))(hf:P.funcs[g]?=some fn)(h:z_ (cx.on (TG ks)) 8 g fn sg=some pl)
  (h1:((fn.name== "runtime.NumGoroutine")||fn.body.isNone)=false)(hF:F=Fs pl (kS ks)):gh P:=
 ⟨g,sg,F,⟨fn,hf,(Bool.or_eq_false_iff.1 h1).1,(Bool.or_eq_false_iff.1 h1).2⟩,by
  rw[hF]
  exact SS (cx:=cx.on (TG ks)) ⟨⟨Z.dT.ty⟩,λg' sg' h'=>TH h',Z.cR⟩ Z.mx hf h⟩
def ahh(P:Program)(l:List (Nat×TI)):Bool:=l.all λx=>tyB P x.1 x.2
def Bi:List (Nat×TI)->Nat->Option TI
 | [],_=>none
 |e::l,g=>bif Nat.beq e.1 g then some e.2 else Bi l g
theorem TJ:∀{l:List (Nat×TI)} {g:Nat} {sg:TI},Bi l g=some sg->(g,sg)∈l
 | [],_,_,h=>by cases h
 |e::l,g,sg,h=>by
  unfold Bi at h
  cases hb:Nat.beq e.1 g with
  |true=>
   rw[hb]at h
   simp only[cond_true,br]at h
   have:=dN hb
   subst this;subst h
   exact .head _
  |false=>
   rw[hb]at h
   exact .tail _ (TJ h)
theorem ahi{P:Program}{cx:Cx}{l:List (Nat×TI)}(h:ahh P l=true)(he:cx.ty=Bi l):eu P cx:=by
 refine⟨λt ti ht=>?_⟩
 rw[he]at ht
 exact ad4 (List.all_eq_true.1 h _ (TJ ht))
def E0:List (Nat×Func)->Nat->Option Func
 | [],_=>none
 |e::l,g=>bif Nat.beq e.1 g then some e.2 else E0 l g
theorem ahj{P:Program}{cx:Cx}{l:List (Nat×Func)}(h:∀x∈l,P.funcs[x.1]?=some x.2∧fF P x.1)(he:cx.fn=E0 l):∀g fn,cx.fn g=some fn->P.funcs[g]?=some fn∧fF P g:=by
 intro g fn hg
 rw[he]at hg
 clear he
 induction l with
 |nil=>cases hg
 |cons e l ih=>
  unfold E0 at hg
  cases hb:Nat.beq e.1 g with
  |true=>
   rw[hb]at hg
   simp only[cond_true,br]at hg
   have:=dN hb
   subst this;subst hg
   exact h _ (.head _)
  |false=>
   rw[hb]at hg
   exact ih (λx hx=>h x (.tail _ hx)) hg
open Go.ChangeShapes Go.WideShapes Go.ChangeAt Go.RowKit
section
variable {P:Program}
def Bj(P:Program)(r:TypeId->Option (List Ty)):Nat->List Field->Option (List Ty)
 |_,[]=>some []
 |o,f::fs=>bif Nat.beq f.offset o then(r f.type).bind λa=>bif Nat.beq (P.cellsOf f.type) a.length then(Bj P r (o+a.length) fs).bind λb=>some (a++b)else none else none
def yC(P:Program):Nat->TypeId->Option (List Ty)
 |0,_=>none
 |n+1,t=>
  match P.underlying t with
  |some (.int k)=>some [.i k]
  |some .bool=>some [.b]
  |some .string=>some [.s]
  |some (.slice e)=>(yC P n e).bind λfs=>bif fs.isEmpty then none else some [.sl fs]
  |some (.struct fs)=>(Bj P (yC P n) 0 fs.toList).bind λts=>bif Nat.beq ts.length (P.cellsOf t)then some ts else none
  |_=>none
variable {H:Type} {enc:TypeId×Value->H} {w:World} {base:Nat} {spare:Nat->Bool} {held:Bool} {ω:Nat->Option Lb}
theorem ew.append{ω:Nat->Option Lb}:∀{ts lV:List T} {vs tJ:List Value},ew ω w ts vs->ew ω w lV tJ->ew ω w (ts++lV) (vs++tJ)
 | [],lV,[],tJ,_,h'=>h'
 |t::ts,lV,v::vs,tJ,h,h'=>⟨h.1,ew.append h.2 h'⟩
 | [],_,_::_,_,h,_=>h.elim
 |_::_,_,[],_,h,_=>h.elim
theorem TK{r:TypeId->Option (List Ty)}{cs:List Value}:∀{fl:List Field} {o:Nat} {ys:List Ty},Bj P r o fl=some ys->
  (∀f∈fl,∀a,r f.type=some a->∃ts,ew ω w ts ((cs.drop f.offset).take (P.cellsOf f.type))∧cV a ts)->∃ts,ew ω w ts ((cs.drop o).take ys.length)∧cV ys ts
 | [],o,ys,h,_=>by
  simp only[Bj,br]at h
  subst h
  exact⟨[],by simp[ew],rfl⟩
 |f::fl,o,ys,h,hr=>by
  unfold Bj at h
  cases h1:Nat.beq f.offset o with
  |false=>simp[h1]at h
  |true=>
   simp only[h1,cond_true,cG]at h
   obtain⟨a,ha,h⟩:=h
   cases h2:Nat.beq (P.cellsOf f.type) a.length with
   |false=>simp[h2]at h
   |true=>
    simp only[h2,cond_true,cG,br]at h
    obtain⟨b,hb,rfl⟩:=h
    have e1:=dN h1
    have e2:=dN h2
    obtain⟨t1,g1,g2⟩:=hr f (.head _) a ha
    obtain⟨t2,g3,g4⟩:=TK hb λf hf=>hr f (.tail _ hf)
    refine⟨t1++t2,?_,g2.append g4⟩
    rw[e1,e2]at g1
    rw[List.length_append,List.take_add,List.drop_drop]
    exact g1.append g3
theorem ahk:∀(n m:Nat) {t:TypeId} {cs:List Value} {x:DataW H×List MemPlace} {fs:List Ty},DataW.trod enc P w 0 spare held n t cs=some x->yC P m t=some fs->
  (∀b,ω b=none)->∃ts,ew ω w ts cs∧cV fs ts:=by
 intro n
 induction n with
 |zero=>intro m t cs x fs h;simp[DataW.trod]at h
 |succ n ih=>
  intro m t cs x fs h ht gV
  cases m with
  |zero=>cases ht
  |succ m=>
   unfold yC at ht
   cases hu:P.underlying t with
   |none=>rw[hu]at ht;cases ht
   |some u=>
    rw[hu]at ht
    cases u with
    |int k=>
     simp only[br]at ht
     subst ht
     obtain⟨a,e0,e1,wa⟩:=DataW.trod_int hu h
     subst e0 e1
     exact⟨[.c (.int k a)],⟨.c rfl,trivial⟩,_,_,rfl,⟨_,rfl,wa⟩,rfl⟩
    |bool=>
     simp only[br]at ht
     subst ht
     obtain⟨b,rfl,_⟩:=DataW.trod_bool hu h
     exact⟨[.c (.bool b)],⟨.c rfl,trivial⟩,_,_,rfl,⟨_,rfl⟩,rfl⟩
    |string=>
     simp only[br]at ht
     subst ht
     obtain⟨s,rfl,_,hs⟩:=DataW.trod_string hu h
     exact⟨[.c (.string s)],⟨.c rfl,trivial⟩,_,_,rfl,⟨_,rfl,hs⟩,rfl⟩
    |slice e=>
     simp only[cG]at ht
     obtain⟨gs,hg,ht⟩:=ht
     cases hz:gs.isEmpty with
     |true=>simp[hz]at ht
     |false=>
      simp only[hz,cond_false,br]at ht
      subst ht
      rcases DataW.trod_slice hu h with⟨rfl,_⟩|⟨a,len,cap,elems,rest,n',e1,rfl,_,_,hlc,hcm,wL,bE,_⟩
      ·exact⟨[.l []],⟨.nil,trivial⟩,_,_,rfl,⟨[],rfl,Nat.zero_le _,by simp⟩,rfl⟩
      ·cases e1
       have each:∀i,i<len->∃vs ts,w.cells? 0 (a.add (i*P.cellsOf e)) (P.cellsOf e)=some vs∧ew ω w ts vs∧cV gs ts:=by
        intro i hi
        have h1:=bE i hi
        rw[<-wL]at hi
        rw[List.getElem?_eq_getElem hi,cG]at h1
        obtain⟨vs,g1,g2⟩:=h1
        obtain⟨ts,g3,g4⟩:=ih m g2 hg gV
        exact⟨vs,ts,g1,g3,g4⟩
       by_cases h0:len=0
       ·subst h0
        exact⟨[.l []],⟨.nil,trivial⟩,_,_,rfl,⟨[],rfl,Nat.zero_le _,by simp⟩,rfl⟩
       ·have hc:=λi=>λhi:i<len=>Classical.choose_spec (each i hi)
        let vf:Nat->List Value:=λi=>if hi:i<len then Classical.choose (each i hi)else []
        have hv:∀i,i<len->∃ts,w.cells? 0 (a.add (i*P.cellsOf e)) (P.cellsOf e)=some (vf i)∧ew ω w ts (vf i)∧cV gs ts:=by
         intro i hi
         have:vf i=Classical.choose (each i hi):=by simp[vf,hi]
         rw[this]
         exact hc i hi
        have ht:∃tf:Nat->List T,∀i,i<len->w.cells? 0 (a.add (i*P.cellsOf e)) (P.cellsOf e)=some (vf i)∧ew ω w (tf i) (vf i)∧cV gs (tf i):=by
         refine⟨λi=>if hi:i<len then Classical.choose (hv i hi)else [],λi hi=>?_⟩
         have:=Classical.choose_spec (hv i hi)
         simpa[hi]using this
        obtain⟨tf,C2⟩:=ht
        have qp:∀i,i<len->(vf i).length=P.cellsOf e:=λi hi=>(World.cells?_some (C2 i hi).1).2.1
        have hgl:∀i,i<len->(tf i).length=gs.length:=λi hi=>(C2 i hi).2.2.length
        have hwp:0<P.cellsOf e:=by
         have h1:=qp 0 (by omega)
         have h2:=hgl 0 (by omega)
         have h3:=(C2 0 (by omega)).2.1.length
         cases gs with
         |nil=>simp at hz
         |cons _ _=>simp at h2;omega
        obtain⟨b,off,spot⟩:=a
        have pL:∀i j,i<len->j<P.cellsOf e->w.cell? ((⟨b,off,spot⟩:Addr).add (i*P.cellsOf e) |>.add j)=(vf i)[j]?:=λi j hi hj=>(World.cells?_some (C2 i hi).1).2.2 j hj
        have TL:spot=none:=by
         have:=pL 0 0 (by omega) hwp
         simp only[Nat.zero_mul,Addr.add,if_true]at this
         have hl:0<(vf 0).length:=by rw[qp 0 (by omega)];exact hwp
         rw[List.getElem?_eq_getElem hl]at this
         unfold World.cell? at this
         split at this
         ·split at this
          ·cases this
          ·rename_i h;simpa using h
         ·cases this
        subst TL
        have nT:∀i j,((⟨b,off,none⟩:Addr).add (i*P.cellsOf e) |>.add j)=⟨b,off+(i*P.cellsOf e+j),none⟩:=by
         intro i j
         have e1:∀k,(⟨b,off,none⟩:Addr).add k=⟨b,off+k,none⟩:=by
          intro k
          unfold Addr.add
          split
          ·rename_i h;subst h;rfl
          ·rfl
         have e2:∀o k,(⟨b,o,none⟩:Addr).add k=⟨b,o+k,none⟩:=by
          intro o k
          unfold Addr.add
          split
          ·rename_i h;subst h;rfl
          ·rfl
         rw[e1,e2,Nat.add_assoc]
        have be:b<w.heap.size:=by
         have:=World.cells?_block (C2 0 (by omega)).1 hwp
         rw[Nat.zero_mul]at this
         exact this
        have lh:∀i j t,dK ((List.range len).map tf) i j=some t->i<len∧(tf i)[j]?=some t:=by
         intro i j t h
         unfold dK at h
         rw[cG]at h
         obtain⟨r,h1,h2⟩:=h
         rw[List.getElem?_map,Option.map_eq_some_iff]at h1
         obtain⟨i',h3,rfl⟩:=h1
         have hi:i<len:=by
          rcases Nat.lt_or_ge i len with h|h
          ·exact h
          ·rw[List.getElem?_eq_none (by simpa using h)]at h3;cases h3
         rw[List.getElem?_range hi]at h3
         cases h3
         exact⟨hi,h2⟩
        refine⟨[.l ((List.range len).map tf)],⟨?_,trivial⟩,_,_,rfl,⟨_,rfl,by simp;omega,?_⟩,rfl⟩
        ·have:=eM.l (ω:=ω) (w:=w) (xs:=(List.range len).map tf) (b:=b) (off:=off) (wd:=P.cellsOf e) (cap:=cap) (cv:=λi j=>((vf i)[j]?).getD default)
          (by
           intro r hr
           rw[List.mem_map]at hr
           obtain⟨i,hi,rfl⟩:=hr
           have hi:=List.mem_range.1 hi
           rw[(C2 i hi).2.1.length,qp i hi])
          (by simpa using hlc) (gV b) be
          (by
           intro i j t h
           obtain⟨hi,hj⟩:=lh i j t h
           have uN:j<(vf i).length:=by rw[<-(C2 i hi).2.1.length];exact(List.getElem?_eq_some_iff.1 hj).1
           have:=pL i j hi (by rw[<-qp i hi];exact uN)
           rw[nT]at this
           rw[this,List.getElem?_eq_getElem uN]
           rfl)
          (by
           intro i j t h
           obtain⟨hi,hj⟩:=lh i j t h
           have uN:j<(vf i).length:=by rw[<-(C2 i hi).2.1.length];exact(List.getElem?_eq_some_iff.1 hj).1
           refine(C2 i hi).2.1.get j t _ hj ?_
           rw[List.getElem?_eq_getElem uN]
           rfl)
         simpa using this
        ·intro r hr
         rw[List.mem_map]at hr
         obtain⟨i,hi,rfl⟩:=hr
         exact(C2 i (List.mem_range.1 hi)).2.2
    |struct fl=>
     simp only[cG]at ht
     obtain⟨ys,hy,ht⟩:=ht
     cases hz:Nat.beq ys.length (P.cellsOf t)with
     |false=>simp[hz]at ht
     |true=>
      simp only[hz,cond_true,br]at ht
      subst ht
      obtain⟨xs,n',e1,_,hl,AL,bE⟩:=DataW.trod_struct hu h
      cases e1
      obtain⟨ts,h1,h2⟩:=TK (ω:=ω) (w:=w) (cs:=cs) hy λf hf a ha=>by
       obtain⟨i,hi,hfi⟩:=List.getElem_of_mem hf
       have h1:=bE i f (by rw[<-hfi,<-Array.getElem?_toList];exact List.getElem?_eq_getElem hi)
       have dl:i<xs.length:=by rw[AL];simpa using hi
       rw[List.getElem?_eq_getElem dl]at h1
       exact ih m h1 ha gV
      refine⟨ts,?_,h2⟩
      rw[List.drop_zero,dN hz,<-hl,List.take_length]at h1
      exact h1
    |_=>cases ht
def KA(P:Program)(t:TypeId):Bool:=
 match P.underlying t with
 |some (.struct _)=>true
 |_=>false
def E1(P:Program):List TypeId->List PS->Option (List Ty)
 | [],[]=>some []
 |t::ts,.v ag n::ps=>(yC P 16 t).bind λfs=>bif Nat.beq fs.length n&&(KA P t==ag)then(E1 P ts ps).bind λgs=>some (fs++gs)else none
 |_,_=>none
theorem TM{bl:Nat->Option Nat}(gV:∀b,ω b=none){r:Reach}{b0:Nat}:∀{ts:List TypeId} {vs:List Value} {ds:List (DataW H)} {pl:List MemPlace} {ps:List PS} {ys:List Ty} {i:Nat},DataW.TrodAll enc P w 0 spare held ts vs ds pl->
  (∀(j:Nat) t v,ts[j]?=some t->vs[j]?=some v->Value.okWide P w r b0 t v)->E1 P ts ps=some ys->∃us,ye ω w bl i ps vs us∧cV ys us
 | [],[],[],pl,ps,ys,i,h,hv,hp=>by
  cases ps with
  |nil=>simp only[E1,br]at hp;subst hp;exact⟨[],⟨rfl,rfl⟩,rfl⟩
  |cons _ _=>simp[E1]at hp
 |t::ts,v::vs,d::ds,pl,ps,ys,i,⟨p,q,h1,h2,e⟩,hv,hp=>by
  cases ps with
  |nil=>simp[E1]at hp
  |cons p0 ps=>
   cases p0 with
   |x n=>simp[E1]at hp
   |v ag n=>
    simp only[E1,cG]at hp
    obtain⟨fs,uI,hp⟩:=hp
    cases hc:(Nat.beq fs.length n&&(KA P t==ag))with
    |false=>simp[hc]at hp
    |true=>
     simp only[hc,cond_true,cG,br]at hp
     obtain⟨gs,hgs,rfl⟩:=hp
     simp only[bk,beq_iff_eq]at hc
     obtain⟨us,g1,g2⟩:=TM (bl:=bl) (i:=i+1) gV h2 (λj t v hj uN=>hv (j+1) t v hj uN) hgs
     obtain⟨f,h1⟩:=h1
     obtain⟨t1,g3,g4⟩:=ahk f 16 h1 uI gV
     have dQ:=hv 0 t v rfl rfl
     refine⟨t1++us,⟨v,vs,v.cells.toList,t1,us,rfl,rfl,by rw[g4.length];exact dN hc.1,?_,g3,g1⟩,g4.append g2⟩
     have hs:=hc.2
     unfold KA at hs
     unfold yC at uI
     cases hu:P.underlying t with
     |none=>rw[hu]at uI;cases uI
     |some u=>
      rw[hu]at uI hs
      cases u with
      |int k=>obtain⟨a,rfl⟩:=okWide_int hu dQ;subst hs;exact⟨rfl,λx h=>by cases h⟩
      |bool=>obtain⟨a,rfl⟩:=okWide_bool hu dQ;subst hs;exact⟨rfl,λx h=>by cases h⟩
      |string=>obtain⟨a,rfl⟩:=okWide_string hu dQ;subst hs;exact⟨rfl,λx h=>by cases h⟩
      |slice e=>obtain⟨a,l,c,rfl⟩:=okWide_slice hu dQ;subst hs;exact⟨rfl,λx h=>by cases h⟩
      |struct fl=>
       obtain⟨cs,rfl,_⟩:=okWide_struct hu dQ
       subst hs
       simp[Value.cells]
      |_=>cases uI
 | [],_::_,_,_,_,_,_,h,_,_=>by simp[DataW.TrodAll]at h
 | [],[],_::_,_,_,_,_,h,_,_=>by simp[DataW.TrodAll]at h
 |_::_,[],_,_,_,_,_,h,_,_=>by simp[DataW.TrodAll]at h
 |_::_,_::_,[],_,_,_,_,h,_,_=>by simp[DataW.TrodAll]at h
theorem TN(hl:laidOutB P=true){W W':World}{sp':Nat->Bool}:∀{ts:List TypeId} {vs:List Value} {ds:List (DataW H)} {ps:List MemPlace},(∀t∈ts,P.readableRec t=true∧t<P.types.size)->
  DataW.TrodAll enc P W base (λ_=>true) true ts vs ds ps->(∀p∈ps,W.sameAt W' p)->(∀p∈ps,sp' p.block=true)->DataW.TrodAll enc P W' base sp' true ts vs ds ps
 | [],[],[],_,_,h,_,_=>h
 |t::ts,_::_,_::_,_,hT,⟨p,q,h1,h2,e⟩,hs,hb=>⟨p,q,WideElems.Trod_stays hl (hT t (.head _)).1 (hT t (.head _)).2 h1 (λx hx=>hs x (by rw[e];exact List.mem_append_left _ hx)) (λx hx=>hb x (by rw[e];exact List.mem_append_left _ hx)),
   TN hl (λt ht=>hT t (.tail _ ht)) h2 (λx hx=>hs x (by rw[e];exact List.mem_append_right _ hx)) (λx hx=>hb x (by rw[e];exact List.mem_append_right _ hx)),e⟩
 | [],_::_,_,_,_,h,_,_=>by simp[DataW.TrodAll]at h
 | [],[],_::_,_,_,h,_,_=>by simp[DataW.TrodAll]at h
 |_::_,[],_,_,_,h,_,_=>by simp[DataW.TrodAll]at h
 |_::_,_::_,[],_,_,h,_,_=>by simp[DataW.TrodAll]at h
end
theorem aho{H:Type}{enc:TypeId×Value->H}{C:Checked}{f:FuncId}{fn:Func}{s:ChangeSpec}{apart fresh handsOn again:Bool}{sg:nw}{F:af}{ys:List Ty}{rt:TypeId}
  (tW:s.vars=[])(oM:∀ds:List (DataW H),ds.length=fn.params.size->s.fn H ds={results:=[.lit (.bool true)],args:=ds})
  (hl:laidOutB C.prog=true)(pT:(fn.params.toList.all λt=>C.prog.readableRec t&&Nat.blt t C.prog.types.size)=true)
  (hrt:fn.resultTypes=#[rt])(wV:C.prog.underlying rt=some .bool)(JK:sg.rs=[(false,[.s])])
  (dQ:Ky C.prog sg f F)(zo:E1 C.prog fn.params.toList sg.ps=some ys)(hF:∀ts,cV ys ts->F ts=some [.c (.bool true)])
  (W:World)(b0:Nat)(args:Array Value)(ds gs:List (DataW H))(before:List MemPlace)
  (gX:∀(j:Nat) t v,fn.params[j]?=some t->args[j]?=some v->Value.okWide C.prog W .any b0 t v)
  (hW:DataW.Whole enc C.prog fn.params.toList s.vars apart W args.toList ds gs before)(TO:DR (λ_=>none) W):
  Calls C.prog f args W λe W'=>∃v,e=.returned v∧s.post enc C.prog fn apart fresh handsOn again W args v W':=by
 have sL:=hW
 obtain⟨p,q,hA,hV,rfl,_,_⟩:=hW
 rw[tW]at hV
 obtain⟨rfl,rfl⟩:gs=[]∧q=[]:=by
  cases gs with
  |nil=>exact⟨rfl,hV⟩
  |cons _ _=>exact hV.elim
 have hlen:ds.length=fn.params.size:=by
  have:∀{ts:List TypeId} {vs:List Value} {ds:List (DataW H)} {ps:List MemPlace},DataW.TrodAll enc C.prog W 0 (λ_=>true) true ts vs ds ps->ds.length=ts.length:=by
   intro ts
   induction ts with
   |nil=>intro vs ds ps h;cases vs<;>cases ds<;>simp_all[DataW.TrodAll]
   |cons t ts ih=>
    intro vs ds ps h
    cases vs with
    |nil=>simp[DataW.TrodAll]at h
    |cons v vs=>
     cases ds with
     |nil=>simp[DataW.TrodAll]at h
     |cons d ds=>obtain⟨_,_,_,h2,_⟩:=h;simp[ih h2]
  rw[this hA];simp
 have hT:∀t∈fn.params.toList,C.prog.readableRec t=true∧t<C.prog.types.size:=by
  intro t ht
  have:=List.all_eq_true.1 pT t ht
  simp only[bk]at this
  exact⟨this.1,Nat.blt_eq▸this.2⟩
 obtain⟨us,jl,KB⟩:=TM (ω:=λ_=>none) (bl:=λ_=>none) (i:=0) (λ_=>rfl) hA (λj t v h1 h2=>gX j t v (by simpa using h1) (by simpa using h2)) zo
 have hc:=dQ.2 W (λ_=>none) (λ_=>none) args.toList us _ (hF us KB) ⟨λb l h=>by(cases h),λi b h=>by(cases h),TO⟩ jl
 rw[Array.toArray_toList]at hc
 refine hc.mono λe W' h=>?_
 obtain⟨v,G,is,o1,o2,rfl,hp⟩:=h
 refine⟨v,rfl,?_⟩
 have hold:∀x∈p++[],MemPlace.block x<W.heap.size:=sL.lt
 have tq:∀b,b<W.heap.size->W'.heap[b]?=W.heap[b]?:=λb hb=>(hp.free b hb rfl).2
 have tv:∀x∈p,W.sameAt W' x:=by
  intro x hx
  have hb:=hold x (by simpa using hx)
  cases x with
  |cell b o=>show W'.cell? _=W.cell? _;unfold World.cell?;rw[tq b hb]
  |map b=>exact tq b hb
 have hv:v=.bool true:=by
  have h1:=hp.ret
  rw[JK]at h1
  obtain⟨t1,t2,i1,i2,e1,e2,h1,h2⟩:=h1
  obtain⟨h1,_⟩:=h1
  have h3:=hp.outs
  rw[e1]at h3
  cases t1 with
  |nil=>simp[bU]at h1
  |cons t t1=>
   cases i1 with
   |nil=>simp[bU]at h1
   |cons i i1=>
    simp only[List.cons_append,List.cons.injEq]at h3
    rw[<-h3.1]at h1
    obtain⟨_,hd,_⟩:=h1
    cases hd
    rfl
 subst hv
 have eZ:=λsp lc=>TN (enc:=enc) (base:=0) (sp':=sp) hl hT hA tv lc
 have lc:=oM ds hlen
 have Ju:∀(j:Nat) (t:TypeId) (r:Value),fn.resultTypes[j]?=some t->((Value.bool true).resultList fn.resultTypes.size)[j]?=some r->Value.okWide C.prog W' .any 0 t r:=by
  intro j t r hj hr
  rw[hrt]at hj hr
  have hj0:j=0:=by
   rcases Nat.eq_zero_or_pos j with h|h
   ·exact h
   ·have:(#[rt]:Array TypeId)[j]?=none:=by simp;omega
    rw[this]at hj;cases hj
  subst hj0
  cases hj;cases hr
  simp[Value.okWide,wV,Cell.okWide,Cell.ok]
 have TP:∀(b:Nat) (sp:Nat->Bool) (hd:Bool),DataW.TrodAll enc C.prog W' b sp hd fn.resultTypes.toList ((Value.bool true).resultList fn.resultTypes.size) (s.fn H (ds++[])).results []:=by
  intro b sp hd
  rw[List.append_nil,lc,hrt]
  exact⟨[],[],⟨1,by simp[DataW.trod,wV,Value.cells]⟩,rfl,rfl⟩
 have TQ:∀sp:Nat->Bool,(∀x∈p,sp x.block=true)->DataW.TrodAll enc C.prog W' 0 sp true fn.params.toList args.toList (s.fn H (ds++[])).args p:=by
  intro sp hs
  rw[List.append_nil,lc]
  exact eZ sp hs
 have ahp:∀sp:Nat->Bool,DataW.TrodVars enc C.prog W' sp s.vars (s.fn H (ds++[])).vars []:=by
  intro sp
  rw[List.append_nil,lc,tW]
  rfl
 have hW2:=sL
 obtain⟨_,_,_,_,_,hz,hn⟩:=hW2
 refine⟨ds,[],p++[],[],p,[],sL,TP _ _ _,TQ _ (λx hx=>decide_eq_true (hold x (by simpa using hx))),ahp _,⟨hp.so.os,hp.so.output,λi hi=>?_⟩,λ_=>⟨Ju,_,[],p++[],⟨[]++p,[],trodAll_append (TQ _ λ_ _=>rfl) (TP _ _ _),by rw[tW];rfl,rfl,?_,hn⟩,?_⟩⟩
 ·rw[tq i hi]
  cases W.heap[i]? with
  |none=>trivial
  |some o=>cases o<;>simp
 ·intro b off hm
  have h1:=hz b off hm
  have hb:=hold _ hm
  unfold World.frozen? at h1⊢
  rw[show W'.heap[(⟨b,off,none⟩:Addr).block]?=W.heap[(⟨b,off,none⟩:Addr).block]? from tq b hb]
  exact h1
 ·intro x hx _
  exact hx
theorem ahq{H:Type}{enc:TypeId×Value->H}{C:Checked}{os:Os}{f:FuncId}{fn:Func}{s:ChangeSpec}{conds:List PathCond}{apart fresh handsOn again:Bool}{sg:nw}{F:af}{ys:List Ty}{rt:TypeId}
  (own:ownKnob C.prog.godebug=none)(started:os.Started)(KC:C.prog.inits.idxOf? f=none)(RX:C.prog.funcs[f]?=some fn)
  (witness:∃(w:World) (tape:Tape) (i:Input),w.os=os∧(w.forCall tape i).Shaped C.prog∧i.vars=[]∧Input.okWide C.prog (w.forCall tape i) .any w.heap.size f i∧
   s.pre6 enc C.prog fn conds apart (w.forCall tape i).memory i.args∧({}:Assume).holds C.prog (lone (Frame.enter C.prog f i.args .normal) [] (w.forCall tape i)))
  (tW:s.vars=[])(oM:∀ds:List (DataW H),ds.length=fn.params.size->s.fn H ds={results:=[.lit (.bool true)],args:=ds})
  (hl:laidOutB C.prog=true)(pT:(fn.params.toList.all λt=>C.prog.readableRec t&&Nat.blt t C.prog.types.size)=true)
  (hrt:fn.resultTypes=#[rt])(wV:C.prog.underlying rt=some .bool)(JK:sg.rs=[(false,[.s])])
  (dQ:Ky C.prog sg f F)(zo:E1 C.prog fn.params.toList sg.ps=some ys)(hF:∀ts,cV ys ts->F ts=some [.c (.bool true)])(hgl:Qm=[]:=by rfl):
  ReturnsInHanded {} C os f .any (s.pre6 enc C.prog fn conds apart) (s.post enc C.prog fn apart fresh handsOn again):=by
 refine returnsInHanded_of_change own started KC RX witness ?_
 intro W b0 args ds gs before gX hW _ _
 exact aho tW oM hl pT hrt wV JK dQ zo hF W b0 args ds gs before gX hW (λx hx=>by rw[hgl]at hx;cases hx)
end Go.Proofs.YtjimmglpkndemaaGreatC

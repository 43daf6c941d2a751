/- The walk by reflection: a part of its laws, for any function. Conditions: none. -/
import Derived.Test.YtjimmglpkndemaaGreatKb
namespace Go.Proofs.YtjimmglpkndemaaGreatC
set_option linter.unusedVariables false
section
variable {M:Nat->Prop} {B:e_} {d:Nat} {up:Nat->Nat->Value} {ρ:List T} {G:Gh} {a:Act} {w:World} {S:Nat->af} {P:Program}
variable {cx:Cx} {cJ fA oi:Nat} {s:St} {R:List bE} {ct:Ct} {k':Wk} {o:Oper} {Q:Exit->Act->World->Prop}
theorem T5{k kw:Wk}{G1 G2:Gh}{j:Nat}{W1:St}{V:SV}{val:Value}(h:Rel M B d up s ρ G a w)(hk:dD M B d up ρ G a w k G1)(hn:∀n,o.dst=some n->n<a.tmps.size)(hM:¬M j)
  (K:dF (pk W1) (λi=>i=j) G1 w G2 w)(Tv:∀r,kw.w.look r=(W1.look r).or (k.w.look r))
  (xV:∀r u,W1.look r=some u->∃i,r=.o i∧cL G2 w ρ i u∧(M i∨i=j)∧∀x∈dA u,M x∨x=j)
  (hV:cK G2 w ρ V val)(gG:∀i∈dA V,M i∨i=j)(mP:∀b l,G2.ω b=some l->(M l.id∨l.id=j)∧b<w.heap.size)
  (hx:(execOp a.eval o).run P w=.ok (.value val) w):bV P (Mn M j (j+1)) B d up ρ a w s o (ca d o kw V).w Q:=by
 have mn:∀{i:Nat},(M i∨i=j)->Mn M j (j+1) i:=λh=>h.imp_right λe=>by subst e;exact⟨Nat.le_refl _,Nat.lt_succ_self _⟩
 have K2:dF (pk (fN d o V++W1)) (λi=>i=j) G1 w G2 w:=K.mono (λl hl=>by
  cases l with
  |f=>exact hl
  |x b=>
   exfalso
   obtain⟨u,hu⟩:=Option.ne_none_iff_exists'.1 hl
   obtain⟨i,e1,_⟩:=xV _ _ hu
   cases e1
  |o i p=>
   show St.look _ (bE.o i)≠none
   rw[mG]
   exactλe=>hl (Option.or_eq_none_iff.1 e).2) λ_ hi=>hi
 simp only[bV,Oper.wp,hx,Oper.upon]
 refine⟨G2,K_ h hk (W2:=fN d o V++W1) (zh (W2:=W1) Tv) K2 (λi hi=>by subst hi;exact hM) (λi hi=>.inl hi) (λn pA=>Lc pA) ⟨rfl,rfl,rfl⟩ ?_,Bj _ _ _⟩
 refine⟨λe n u he hl=>?_,λb u hl=>?_,λi u hl=>?_,λr u hl i hi=>?_,λi hi=>?_,λb l hb=>⟨mn (mP b l hb).1,(mP b l hb).2⟩⟩
 ·rcases lK hl with⟨n',iW,e1,rfl⟩|hl
  ·cases e1
   rw[iW,SR (hn _ iW)]
   exact hV
  ·obtain⟨i,e1,_⟩:=xV _ _ hl;cases e1
 ·rcases lK hl with⟨n',iW,e1,rfl⟩|hl
  ·cases e1
  ·obtain⟨i,e1,_⟩:=xV _ _ hl;cases e1
 ·rcases lK hl with⟨n',iW,e1,rfl⟩|hl
  ·cases e1
  ·obtain⟨i',e1,e2,_⟩:=xV _ _ hl;cases e1;exact e2
 ·rcases lK hl with⟨n',iW,e1,rfl⟩|hl
  ·exact mn (gG i hi)
  ·obtain⟨i',e1,_,_,e4⟩:=xV _ _ hl;exact mn (e4 i hi)
 ·have:∀r:bE,(r=.x i∨r=.o i)->St.look (fN d o V++W1) r≠none->Mn M j (j+1) i:=by
   intro r hr hl
   obtain⟨u,hu⟩:=Option.ne_none_iff_exists'.1 hl
   rcases lK hu with⟨n',iW,e1,rfl⟩|hl
   ·rcases hr with rfl|rfl<;>cases e1
   ·obtain⟨i',e1,_,e3,_⟩:=xV _ _ hl
    rcases hr with rfl|rfl
    ·cases e1
    ·cases e1;exact mn e3
  rcases hi with hi|hi
  ·exact this _ (.inl rfl) hi
  ·exact this _ (.inr rfl) hi
def Gh.al(G:Gh)(j:Nat)(v:Value)(hv:∃a n c,v=.slice a n c):Gh where
 ω:=G.ω
 β:=G.β
 H:=λi=>if i=j thenλ_=>v else G.H i
 hs:=λi p=>by
  by_cases h:i=j
  ·simp only[h,if_true];exact hv
  ·simp only[h,if_false];exact G.hs i p
theorem aiH{j:Nat}{v:Value}{hv:∃a n c,v=.slice a n c}{I:Lb->Prop}:dF I (λi=>i=j) G w (G.al j v hv) w:=
 ⟨Nat.le_refl _,λb _ hb=>⟨hb,rfl⟩,λb _ hb=>hb,λb l hl _=>⟨hl,rfl⟩,λi hi=>⟨rfl,λp _=>by simp[Gh.al,hi]⟩⟩
theorem aiI{ω:Nat->Option Lb}{H:List (Nat×Nat)->Value}{n l h sz:Nat}{ao:Option Addr}{len cap:Nat}{xs:List (List T)}(hd:fm ω w (.l xs) (.slice ao len cap))(hh:ph w H n (.slice ao len cap) xs)(wR:l<=h)(hx:h<=xs.length)(pX:xs.length<=cap)(cV:okW sz xs=true):
  ph w H (n+l) (sliced ao l h cap sz) ((xs.take h).drop l):=by
 intro b off k c hv
 unfold sliced at hv
 by_cases he:l=h
 ·refine⟨0,λr hr=>?_,λi j ys bI=>?_⟩
  ·subst he;simp at hr
  ·subst he;simp[d_]at bI
 ·have dH:¬(cap=l):=by omega
  rw[if_neg dH]at hv
  cases hd with
  |nil=>simp at hx;omega
  | @l _ b0 BU wd0 _ cv0 g1 g2 g3 g4 g5 g6=>
   simp only[Option.map_some,Addr.add_lit]at hv
   cases hv
   obtain⟨wd,h1,h2⟩:=hh b BU _ _ rfl
   have rq:wd=sz:=by
    cases xs with
    |nil=>simp at hx;omega
    |cons r xs=>rw[<-h1 r (by simp)];exact ef cV
   subst rq
   refine⟨wd,λr hr=>h1 r (List.mem_of_mem_take (List.mem_of_mem_drop hr)),λi j ys bI=>?_⟩
   have:=h2 _ _ _ (Ll bI)
   rw[Nat.add_mul]at this
   rw[show BU+l*wd+(i*wd+j)=BU+(l*wd+i*wd+j) by omega,this,Nat.add_assoc]
theorem aiJ{k k1:Wk}{G1:Gh}(hk:dD M B d up ρ G a w k G1){x:Operand}{ls:List Lf}{f:Operand->SV}(hf:cK G1 w ρ (f x) (a.eval x))
  (h:pW k f (some x)=some (k1,ls))(hd:k1.bJ S ρ):∃y t,ls=[y]∧y.fW ρ=some t∧fm (er G1.ω) w t (a.eval x):=by
 simp only[pW,cN,bG,Prod.mk.injEq]at h
 obtain⟨⟨k2,y⟩,h1,rfl,rfl⟩:=h
 obtain⟨_,_,t,e3,e4⟩:=Wk.iu hk h1 hd hf
 exact⟨y,t,rfl,e3,e4⟩
theorem aiK(ek:eL P cx)(h:Rel M B d up s ρ G a w)(hn:∀n,o.dst=some n->n<a.tmps.size){t:Nat}{x:Operand}{lo hi mx:Option Operand}(ho:o.op=.slice t x lo hi mx)
  {kv:Wk×SV}(ia:(bif mx.isSome then none else A7 cx ⟨s.only R,[],ct,[]⟩ t (cn d (Wk.get ⟨s.only R,[],ct,[]⟩) x) (lo.map (cn d (Wk.get ⟨s.only R,[],ct,[]⟩))) (hi.map (cn d (Wk.get ⟨s.only R,[],ct,[]⟩))))=some kv)
  (hk:ca d o kv.1 kv.2=k')(hd:k'.bJ S ρ)(hM:∀i,ct.i<=i->i<k'.ct.i->¬M i):bV P (Mn M ct.i k'.ct.i) B d up ρ a w s o k'.w Q:=by
 have hw:=dD.start h R ct
 cases mx with
 |some m=>simp at ia
 |none=>
  simp only[Option.isSome_none,cond_false]at ia
  have Tq:=(hw.iV x).1
  have uS:=(hw.iV x).2
  unfold A7 at ia
  split at ia
  ·rename_i id eo
   rw[eo]at Tq uS
   split at ia
   ·rename_i tk x0 l0 y gG
    simp only[cN]at ia
    obtain⟨ti,f_,te,qs,ia⟩:=ia
    cases hc:(Nat.beq ti.kd 3&&JA l0)with
    |false=>simp[hc]at ia
    |true=>
     simp only[hc,cond_true,cN,bG]at ia
     simp only[bD]at hc
     obtain⟨⟨k3,ls⟩,h1,⟨k4,hs⟩,h2,zn⟩:=ia
     have nF:pW ⟨s.only R,[],ct,[]⟩ (cn d (Wk.get ⟨s.only R,[],ct,[]⟩)) lo=some (k3,ls):=by
      cases lo with
      |none=>exact h1
      |some l=>exact h1
     have wS:pW k3 (cn d (Wk.get ⟨s.only R,[],ct,[]⟩)) hi=some (k4,hs):=by
      cases hi with
      |none=>exact h2
      |some l=>exact h2
     subst zn
     have c_:ca d o {((k4.em (.sub te.sz lo.isSome hi.isSome) (y::(ls++hs))).1.set (.o (fw k4.ct.i)) (.fz (.w tk x0 (ls.headD (.k (.int .i64 0)))) (k4.em (.sub te.sz lo.isSome hi.isSome) (y::(ls++hs))).2))with
       ct:=⟨(k4.em (.sub te.sz lo.isSome hi.isSome) (y::(ls++hs))).1.ct.a,fw k4.ct.i+1⟩} (.v false [.o (fw k4.ct.i) []])=k':=by
      rw[<-hk]
      cases lo<;>cases hi<;>rfl
     have fR:(k4.em (.sub te.sz lo.isSome hi.isSome) (y::(ls++hs))).1.bJ S ρ:=by
      rw[<-c_]at hd
      have h2:=cX.1 hd
      exact h2
     obtain⟨JE,r,hr,pn⟩:=Wk.bX fR
     have iV:∀z,cK G w ρ (cn d (Wk.get ⟨s.only R,[],ct,[]⟩) z) (a.eval z):=λz=>(hw.iV z).1
     have JP:∀{ka kb:Wk} {b:Option Operand} {zs:List Lf},pW ka (cn d (Wk.get ⟨s.only R,[],ct,[]⟩)) b=some (kb,zs)->ka.fq kb:=by
      intro ka kb b zs hb
      unfold pW at hb
      split at hb
      ·simp only[bG,Prod.mk.injEq]at hb;obtain⟨rfl,_⟩:=hb;exact .refl _
      ·simp only[cN,bG,Prod.mk.injEq]at hb
       obtain⟨⟨k5,y5⟩,h5,rfl,_⟩:=hb
       unfold Wk.one at h5
       split at h5
       ·exact Wk.eh h5
       ·cases h5
     have s3:=JP nF
     have s4:=JP wS
     obtain⟨Aw,_,pw⟩:=FX (hw.same s3) (f:=cn d (Wk.get ⟨s.only R,[],ct,[]⟩)) (λz _=>iV z) wS JE
     obtain⟨_,_,mH⟩:=FX hw (f:=cn d (Wk.get ⟨s.only R,[],ct,[]⟩)) (λz _=>iV z) nF Aw
     have eH:=hw.obj id
     rw[gG]at eH
     obtain⟨tz,hy,ez,BI,F,n0,zs,hF,uP,rfl,BB,uG,Bs⟩:=eH
     have Br:n0=0:=K4 hc.2 uP
     subst Br
     simp only[List.map_cons,Lf.bW hy]at hr
     obtain⟨xs,hxs,cV,hr⟩:=Tp hr
     cases hxs
     obtain⟨l,hh,JQ,p_,uH⟩:=Lm (F:=λl h=>if 0<=l then(if l<=h then(if h<=zs.length then some (T.l ((zs.take h.toNat).drop l.toNat))else none)else none)else none) mH pw hr
     split at JQ
     ·rename_i h0
      split at JQ
      ·rename_i wR
       split at JQ
       ·rename_i Tt
        simp only[bG]at JQ
        subst JQ
        obtain⟨e,he,ru,_⟩:=Tq
        cases he
        obtain⟨p,hp,iv⟩:=ru
        simp only[mD,bG]at hp
        subst hp
        have BA:=ez
        rw[<-iv]at BA
        obtain⟨ao,cap,tV,pX⟩:=BA.rows
        have hT:=ek.ty _ _ f_
        have hE:=ek.ty _ _ qs
        obtain⟨i,zz,vV,nw,_⟩:=hE.info
        have sW:zs.length<=cap:=by
         by_cases hz:zs=[]
         ·subst hz;simp
         ·exact pX hz
        have pB:=To (P:=P) (w:=w) (hT.sl (ef hc.1)) ⟨i,vV,nw⟩ (ao:=ao) sW p_ uH h0 wR Tt
        rw[<-tV]at pB
        have iN:(execOp a.eval o).run P w=.ok (.value (sliced ao l.toNat hh.toNat cap te.sz)) w:=
         Ey (x:=Instr.sliceAt t (a.eval x) (lo.map a.eval) (hi.map a.eval) none) (by unfold execOp;rw[ho];rfl) pB
        have hsv:∃a n c,sliced ao l.toNat hh.toNat cap te.sz=.slice a n c:=by unfold sliced;exact⟨_,_,_,rfl⟩
        rw[tV]at BA
        have lI:=BA.sub (l:=l.toNat) (h:=hh.toNat) (sz:=te.sz) (by omega) (by omega) cV
        have kY:k4.ct.i=ct.i:=by rw[s4.i,s3.i]
        have pV:k'.ct.i=fw ct.i+1:=by rw[<-c_,nu,<-kY]
        have jy:=A5 ct.i
        rw[pV,<-c_,<-kY]
        refine bV.mono (M:=Mn M (fw k4.ct.i) (fw k4.ct.i+1)) ?_ (λi hi=>hi.imp_right λhi=>by rw[kY]at hi⊢;exact⟨by omega,hi.2⟩)
        have uT:M id:=uS id (by simp[dA,dV])
        have BV:M tk:=hw.rel.gm (.o id) tk (by rw[<-Wk.a_,gG];simp[dA])
        have LC:¬M (fw k4.ct.i):=hM _ (by rw[kY];exact jy) (by rw[pV,kY];omega)
        have dH:tk≠fw k4.ct.i:=λe=>LC (e▸BV)
        refine T5 (j:=fw k4.ct.i) (G2:=G.al (fw k4.ct.i) (sliced ao l.toNat hh.toNat cap te.sz) hsv) (W1:=[(.o (fw k4.ct.i),.fz (.w tk x0 (ls.headD (.k (.int .i64 0)))) (k4.em (.sub te.sz lo.isSome hi.isSome) (y::(ls++hs))).2)])
         h (hw.same (s3.trans (s4.trans (Wk.bR k4 (.sub te.sz lo.isSome hi.isSome) (y::(ls++hs)))))) hn LC aiH (λr=>by rw[vS];exact vT (k:=(k4.em (.sub te.sz lo.isSome hi.isSome) (y::(ls++hs))).1) r▸(by rw[vS])) (λr u hl=>?_) ?_ (λi hi=>by simp[dA,dV]at hi;exact .inr hi) (λb l hb=>⟨.inl (hw.rel.iG b l hb).1,(hw.rel.iG b l hb).2⟩) iN
        ·rcases j8 hl with⟨e1,e2⟩|hl
         ·subst e1 e2
          refine⟨_,rfl,⟨_,pn,?_,BI,F,l.toNat,_,hF,?_,rfl,λi r hg=>?_,?_,λuP b off k c hv=>?_⟩,.inr rfl,λi hi=>by simp[dA]at hi;subst hi;exact .inl BV⟩
          ·simpa[Gh.al,Gh.q]using lI
          ·rcases p_ with⟨e1,rfl⟩|⟨kk,e1⟩
           ·rcases mH with⟨rfl,rfl⟩|⟨z,yy,tt,rfl,_⟩
            ·simp[mf,Lf.fW,kW]
            ·simp at e1
           ·cases lo with
            |none=>simp at e1
            |some z=>
             obtain⟨yy,tt,e5,ht,mE⟩:=aiJ hw (iV z) nF Aw
             subst e5
             simp only[Option.map_some,bG]at e1
             rw[e1]at mE
             have htt:tt=.c (.int kk l):=by
              generalize hq:Value.int kk l=q at mE
              cases mE with
              |c _=>rfl
              |nil=>cases hq
              |l=>cases hq
             rw[htt]at ht
             simp only[List.headD_cons]
             exact S_ ht h0
          ·rw[List.getElem?_drop,List.getElem?_take]at hg
           split at hg
           ·have:=BB _ _ hg
            rw[Nat.zero_add]at this
            exact this
           ·cases hg
          ·have h3:ph w (G.H tk) 0 (.slice ao zs.length cap) zs:=by rw[<-tV,iv];exact uG
           have h4:=aiI BA h3 (l:=l.toNat) (h:=hh.toNat) (sz:=te.sz) (by omega) (by omega) sW cV
           rw[Nat.zero_add]at h4
           simpa[Gh.al,dH]using h4
          ·simp only[Gh.al,if_true]at hv
           have hl:l.toNat=0:=uP
           unfold sliced at hv
           rw[hl]at hv
           split at hv
           ·cases hv
            exact Bs rfl b off _ _ (by rw[<-iv];exact tV)
           ·generalize tT:Value.slice ao zs.length cap=vv at BA
            cases BA with
            |nil=>
             cases tT
             rename_i aa _
             cases ao with
             |none=>simp at hv
             |some ad=>
              obtain⟨b0,BU,r0⟩:=ad
              cases r0 with
              |none=>
               simp only[Option.map_some,Addr.add_lit,Nat.zero_mul,Nat.add_zero]at hv
               cases hv
               exact Bs rfl b off _ _ (by rw[<-iv];exact tV)
              |some sp=>simp[Addr.add]at hv
            | @l _ b0 BU wd0 _ cv0 g1 g2 g3 g4 g5 g6=>
             cases tT
             simp only[Option.map_some,Addr.add_lit,Nat.zero_mul,Nat.add_zero]at hv
             cases hv
             exact Bs rfl b off _ _ (by rw[<-iv];exact tV)
         ·cases hl
        ·exact⟨_,rfl,⟨[],rfl,by simp[Gh.al]⟩,λz hz=>by unfold sliced at hz;cases hz⟩
       ·cases JQ
      ·cases JQ
     ·cases JQ
   ·cases ia
  ·cases ia
theorem Wk.oD:∀(zs:List Ce) (k:Wk) (y ix:Lf) (j wd off:Nat),k.fq (k.mN y ix j wd off zs).1
 | [],k,_,_,_,_,_=>.refl k
 |z::zs,k,y,ix,j,wd,off=>by
  unfold Wk.mN
  cases fT z with
  |true=>exact(Wk.bR k _ _).trans (Wk.oD zs _ y ix j wd (off+1))
  |false=>exact(Wk.bR k _ _).trans (Wk.oD zs _ y ix j wd (off+1))
theorem Wk.nM:∀(zs:List Ce) (k:Wk) (y ix:Lf) (j wd off:Nat),(k.mN y ix j wd off zs).1.bJ S ρ->k.bJ S ρ
 | [],_,_,_,_,_,_,h=>h
 |z::zs,k,y,ix,j,wd,off,h=>by
  unfold Wk.mN at h
  cases hz:fT z with
  |true=>rw[hz]at h;exact(Wk.bX (Wk.nM zs _ y ix j wd (off+1) h)).1
  |false=>rw[hz]at h;exact(Wk.bX (Wk.nM zs _ y ix j wd (off+1) h)).1
theorem Wk.qG{y ix:Lf}{xs:List (List T)}{i wd j b base:Nat}{Hd:Nat->Value}(hx:y.fW ρ=some (.l xs))(hi:mf ρ ix=some i)
  (gE:∀r,xs[i]?=some r->r.length=wd->∀c t,r[c]?=some t->∃u,w.cell? ⟨b,base+c,none⟩=some u∧(∀v,t=.c v->u=v∧kW v=true)∧∀ys,t=.l ys->u=Hd c):
  ∀(zs:List Ce) (k:Wk) (off:Nat),(k.mN y ix j wd off zs).1.bJ S ρ->
   ∃vs:List Value,vs.length=zs.length∧(∀c v,vs[c]?=some v->w.cell? ⟨b,base+off+c,none⟩=some v)∧(∀i∈dV (k.mN y ix j wd off zs).2.1,i=j)∧
    ((zs.filter fT).length=0->∀G1:Gh,bk G1 w ρ (k.mN y ix j wd off zs).2.1 vs)∧
    ((zs.filter fT).length=1->∃r c0 ys,xs[i]?=some r∧r.length=wd∧r[c0]?=some (.l ys)∧(k.mN y ix j wd off zs).2.2.fW ρ=some (.l ys)∧∀G1:Gh,G1.H j []=Hd c0->bk G1 w ρ (k.mN y ix j wd off zs).2.1 vs)
 | [],k,off,_=>⟨[],rfl,λc v hc=>by simp at hc,λi hi=>by simp[Wk.mN,dV]at hi,λ_ _=>trivial,λh=>by simp at h⟩
 |z::zs,k,off,hd=>by
  unfold Wk.mN at hd⊢
  cases hz:fT z with
  |true=>
   rw[hz]at hd
   simp only[cond_true]at hd⊢
   obtain⟨_,t,ht,EA⟩:=Wk.bX (Wk.nM zs _ _ _ _ _ (off+1) hd)
   obtain⟨ys,rfl,bI,r,h1,h2⟩:=FH hx hi ht
   have h3:r[off]?=some (.l ys):=by simpa[d_,h1]using bI
   obtain⟨u,h5,_,h6⟩:=gE r h1 h2 off _ h3
   obtain⟨vs,g1,g2,g3,g4,g5⟩:=Wk.qG hx hi gE zs _ (off+1) hd
   refine⟨u::vs,by simp[g1],λc v hc=>?_,λi hi=>?_,λh0=>by simp[hz]at h0,λh1'=>⟨r,off,ys,h1,h2,h3,EA,λG1 hG=>⟨⟨[],rfl,by rw[h6 ys rfl,hG]⟩,g4 (by simpa[hz]using h1') G1⟩⟩⟩
   ·cases c with
    |zero=>simp at hc;subst hc;simpa using h5
    |succ c=>
     have:=g2 c v (by simpa using hc)
     rwa[show base+(off+1)+c=base+off+(c+1) by omega]at this
   ·simp only[dV,List.mem_cons]at hi
    rcases hi with hi|hi
    ·exact hi
    ·exact g3 i hi
  |false=>
   rw[hz]at hd
   simp only[cond_false]at hd⊢
   obtain⟨_,t,ht,EA⟩:=Wk.bX (Wk.nM zs _ _ _ _ _ (off+1) hd)
   obtain⟨r,h1,h2,h3,h4⟩:=K3 (sc:=true) hx hi ht
   obtain⟨c,rfl⟩:=zd (h4 rfl)
   obtain⟨u,h5,h6,_⟩:=gE r h1 h2 off _ h3
   obtain⟨rfl,hs⟩:=h6 c rfl
   obtain⟨vs,g1,g2,g3,g4,g5⟩:=Wk.qG hx hi gE zs _ (off+1) hd
   refine⟨u::vs,by simp[g1],λc v hc=>?_,λi hi=>g3 i (by simpa[dV]using hi),λh0 G1=>⟨⟨.c u,EA,.c hs⟩,g4 (by simpa[hz]using h0) G1⟩,λh1'=>?_⟩
   ·cases c with
    |zero=>simp at hc;subst hc;simpa using h5
    |succ c=>
     have:=g2 c v (by simpa using hc)
     rwa[show base+(off+1)+c=base+off+(c+1) by omega]at this
   ·obtain⟨r',c0,ys,e1,e2,e3,e4,e5⟩:=g5 (by simpa[hz]using h1')
    exact⟨r',c0,ys,e1,e2,e3,e4,λG1 hG=>⟨⟨.c u,EA,.c hs⟩,e5 G1 hG⟩⟩
theorem aiM{m i r:T}(h:Prim.ev .yJ [m,i]=some r):∃us kk n,m=.l us∧i=.c (.int kk n)∧0<=n∧n.toNat+1<=us.length∧sD us n.toNat 1=true∧r=.l (Ar us n.toNat 1):=by
 cases m with
 |c v=>simp[Prim.ev]at h
 |l us=>
  cases i with
  |l _=>simp[Prim.ev]at h
  |c v=>
   cases v with
   |int kk n=>
    simp only[Prim.ev]at h
    split at h
    ·split at h
     ·split at h
      ·cases h
       exact⟨us,kk,n,rfl,rfl,by assumption,by assumption,by assumption,rfl⟩
      ·cases h
     ·cases h
    ·cases h
   |_=>simp[Prim.ev]at h
def Gh.ko(G:Gh)(tk j i c0:Nat):Gh where
 ω:=λb=>match G.ω b with
  |some (.o n ((r,c)::p))=>if n=tk∧r=i∧c=c0 then some (.o j p)else some (.o n ((r,c)::p))
  |l=>l
 β:=G.β
 H:=λn=>if n=j thenλp=>G.H tk ((i,c0)::p)else G.H n
 hs:=λn p=>by
  by_cases h:n=j
  ·simp only[h,if_true];exact G.hs tk _
  ·simp only[h,if_false];exact G.hs n p
theorem aiN{tk j i c0:Nat}(h4:j%4=2){I:Lb->Prop}(hI:∀p,I (.o tk p)):dF I (λn=>n=j) G w (G.ko tk j i c0) w:=by
 refine⟨Nat.le_refl _,λb _ hb=>⟨uB hb (λh0=>by simp[Gh.ko,h0]) λl hl hq=>?_,rfl⟩,λb _ hb=>by simp[Gh.ko,hb],λb l hl hn=>⟨?_,rfl⟩,λn hn=>⟨rfl,λp _=>by simp[Gh.ko,hn]⟩⟩
 ·cases l with
  |o n p=>
   cases p with
   |nil=>exact .inr ⟨_,by simp[Gh.ko,hl],hq⟩
   |cons x p=>
    obtain⟨r,c⟩:=x
    simp only[Gh.ko,hl]
    split
    ·exact .inr ⟨_,rfl,KS h4⟩
    ·exact .inr ⟨_,rfl,hq⟩
  |_=>simp[qt]at hq
 ·cases l with
  |o n p=>
   cases p with
   |nil=>simp[Gh.ko,hl]
   |cons x p=>
    obtain⟨r,c⟩:=x
    have:n≠tk:=λe=>hn (e▸hI _)
    simp[Gh.ko,hl,this]
  |_=>simp[Gh.ko,hl]
theorem aiO(ek:eL P cx)(h:Rel M B d up s ρ G a w)(hn:∀n,o.dst=some n->n<a.tmps.size){x:Operand}{t:Nat}(ho:o.op=.load t x){kv:Wk×SV}
  (ia:KC cx ⟨s.only R,[],ct,[]⟩ t (cn d (Wk.get ⟨s.only R,[],ct,[]⟩) x)=some kv)(hk:ca d o kv.1 kv.2=k')(hd:k'.bJ S ρ)(hM:∀i,ct.i<=i->i<k'.ct.i->¬M i):
  bV P (Mn M ct.i k'.ct.i) B d up ρ a w s o k'.w Q:=by
 have hw:=dD.start h R ct
 obtain⟨hr,hm⟩:=hw.iV x
 unfold KC at ia
 split at ia
 ·rename_i id ix wd off eo
  rw[eo]at hr hm
  simp only[cN]at ia
  obtain⟨ti,f_,ia⟩:=ia
  split at ia
  ·rename_i tk x0 lo y gG
   split at ia
   ·rename_i y0 m BI
    cases hc:(JA lo&&x0.beq y0&&Nat.beq (ti.zero.filter fT).length 1&&Nat.beq ti.zero.length ti.sz)with
    |false=>simp[hc]at ia
    |true=>
     simp only[hc,cond_true,bG]at ia
     simp only[bD]at hc
     obtain⟨⟨⟨c1,c2⟩,c3⟩,c4⟩:=hc
     have Lw:=Lf.beq_eq c2
     subst Lw
     have qC:=ef c3
     have rJ:=ef c4
     subst ia
     obtain⟨kr,hkr⟩:∃kr,(Wk.mN ⟨s.only R,[],ct,[]⟩ y ix (nq ct.i) wd off ti.zero)=kr:=⟨_,rfl⟩
     have c_:ca d o {(((kr.1.em .yJ [m,ix]).1.set (.o tk) (.tk x0 (kr.1.em .yJ [m,ix]).2)).set (.o (nq ct.i)) (.fl kr.2.2))with ct:=⟨(kr.1.em .yJ [m,ix]).1.ct.a,nq ct.i+1⟩} (.v ti.ag kr.2.1)=k':=by
      rw[<-hk,<-hkr]
     have fR:(kr.1.em .yJ [m,ix]).1.bJ S ρ:=by
      rw[<-c_]at hd
      have h2:=cX.1 hd
      exact h2
     obtain⟨F2,r1,pu,pn⟩:=Wk.bX fR
     rw[<-hkr]at F2
     obtain⟨p,b,n,cap,i,e1,e2,e3,e4,e5⟩:=hr
     simp only[mD,bG]at e1
     subst e1
     have obj:=hw.obj id
     have TM:=hw.obj tk
     rw[gG]at obj
     rw[BI]at TM
     obtain⟨tt,ht,ez,aiP,F,n0,zs,hF,nF,rfl,BB,uG,_⟩:=obj
     have Br:n0=0:=K4 c1 nF
     subst Br
     obtain⟨_,F',u,TN,hu,hlen,mI⟩:=TM
     rw[hF]at TN
     cases TN
     rw[e2]at ez
     obtain⟨EC,w1,w2⟩:=uG b 0 n cap e2
     obtain⟨vs,g1,g2,g3,_,g5⟩:=Wk.qG (S:=S) (w:=w) (b:=b) (base:=i*wd) (j:=nq ct.i) (Hd:=λc=>G.H tk [(i,c)]) (wd:=wd) ht e3 (λr iM hl c t' jV=>by
      obtain⟨v',hc,pA⟩:=(ez.row iM hl).2.2 c t' jV
      rw[Nat.zero_add]at hc
      refine⟨v',hc,λv he=>by subst he;exact pA.scalar,λys he=>?_⟩
      subst he
      have rq:EC=wd:=by rw[<-w1 r (List.mem_of_getElem? iM),hl]
      have bI:d_ zs i c=some (.l ys):=by simp[d_,iM,jV]
      have:=w2 i c ys bI
      rw[Nat.zero_add,Nat.zero_add,rq,hc]at this
      exact Option.some.inj this) ti.zero _ off F2
     rw[hkr]at g3 g5
     obtain⟨row,c0,ys,q1,q2,q3,q4,q5⟩:=g5 qC
     have hT:=ek.ty _ _ f_
     have eR:=Bl (P:=P) (w:=w) hT (b:=b) (off:=i*wd+off) (vs:=vs) (by rw[g1,rJ]) g2
     have iN:(execOp a.eval o).run P w=.ok (.value (if ti.ag then .agg vs.toArray else vs.getD 0 undef)) w:=by
      refine Ey (x:=Instr.loadAt t (a.eval x)) (by unfold execOp;rw[ho]) ?_
      rw[e5];exact eR
     obtain⟨kk,hix⟩:=yX e3
     simp only[List.map_cons,List.map_nil,Lf.bW hu,hix]at pu
     obtain⟨us,kk2,n2,f1,f2,f3,f4,f5,rfl⟩:=aiM pu
     cases f1
     cases f2
     have nw:((i:Int)).toNat=i:=Int.toNat_natCast i
     rw[nw]at f4 f5 pn
     have s1:Wk.fq ⟨s.only R,[],ct,[]⟩ kr.1:=by rw[<-hkr];exact Wk.oD _ _ _ _ _ _ _
     have pV:k'.ct.i=nq ct.i+1:=by rw[<-c_,nu]
     have hle:=SG ct.i
     rw[pV,<-c_]
     refine bV.mono (M:=Mn M (nq ct.i) (nq ct.i+1)) ?_ (λi hi=>hi.imp_right λhi=>⟨by omega,hi.2⟩)
     have BV:M tk:=hw.rel.gm (.o id) tk (by rw[<-Wk.a_,gG];simp[dA])
     have LC:¬M (nq ct.i):=hM _ hle (by rw[pV];omega)
     have dH:tk≠nq ct.i:=λe=>LC (e▸BV)
     have ze:=SH ct.i
     have free:=TK f4 f5 (i:=0) (by omega)
     obtain⟨r',aiQ,aiR⟩:=free
     obtain⟨o1,o2⟩:=mI _ _ aiQ aiR
     have JR:=BB _ _ q1
     rw[Nat.zero_add]at JR
     rw[Nat.add_zero,JR]at o1
     cases o1
     have bU:=o2 c0 ys q3
     rw[Nat.add_zero]at bU
     have jQ:∀q,pk [(bE.o (nq ct.i),SV.fl kr.2.2),(bE.o tk,SV.tk x0 (kr.1.em .yJ [m,ix]).2)] (.o tk q):=by
      intro q
      show St.look _ (bE.o tk)≠none
      simp only[St.look]
      cases(bE.o (nq ct.i)).beq (.o tk)<;>simp[(bE.beq_iff (r:=bE.o tk)).2 rfl]
     refine T5 (j:=nq ct.i) (G2:=G.ko tk (nq ct.i) i c0) (W1:=[(.o (nq ct.i),.fl kr.2.2),(.o tk,.tk x0 (kr.1.em .yJ [m,ix]).2)])
      h (hw.same (s1.trans (Wk.bR kr.1 .yJ [m,ix]))) hn LC (aiN ze jQ) (λr=>?_) (λr u' hl=>?_) ?_ (λi hi=>.inr (g3 i hi)) (λb l hb=>?_) iN
     ·show(((kr.1.em .yJ [m,ix]).1.w.set (.o tk) _).set (.o (nq ct.i)) _).look r=_
      simp only[St.look]
      by_cases h1:bE.o (nq ct.i)=r
      ·subst h1;rw[St.bz];simp[(bE.beq_iff (r:=bE.o (nq ct.i))).2 rfl]
      ·have b1:(bE.o (nq ct.i)).beq r=false:=by
        cases hb:(bE.o (nq ct.i)).beq r with
        |false=>rfl
        |true=>exact absurd (bE.beq_iff.1 hb) h1
       rw[St.cF _ _ h1,b1]
       by_cases h2:bE.o tk=r
       ·subst h2;rw[St.bz];simp[(bE.beq_iff (r:=bE.o tk)).2 rfl]
       ·have b2:(bE.o tk).beq r=false:=by
         cases hb:(bE.o tk).beq r with
         |false=>rfl
         |true=>exact absurd (bE.beq_iff.1 hb) h2
        rw[St.cF _ _ h2,b2];simp
     ·rcases j8 hl with⟨e1,e2⟩|hl
      ·subst e1 e2
       refine⟨_,rfl,⟨ze,_,q4,?_⟩,.inr rfl,λi hi=>by simp[dA]at hi⟩
       refine bU.move rfl (λb q hb=>⟨?_,rfl⟩) λq=>?_
       ·simp only[List.cons_append,List.nil_append]at hb⊢
        simp only[Gh.ko,hb]
        rw[if_pos (by refine⟨?_,?_,?_⟩<;>trivial)]
       ·simp[Gh.ko]
      ·rcases j8 hl with⟨e1,e2⟩|hl
       ·subst e1 e2
        refine⟨tk,rfl,⟨aiP,F,_,hF,pn,by rw[TH f4];exact hlen,λi' r hg T6=>?_⟩,.inl BV,λi hi=>by simp[dA]at hi⟩
        obtain⟨g1,g2⟩:=TJ f4 hg T6
        obtain⟨g3,g4⟩:=mI i' r g1 T6
        refine⟨g3,λc l' sf=>(g4 c l' sf).move rfl (λb q hb=>⟨?_,rfl⟩) λq=>?_⟩
        ·simp only[List.cons_append,List.nil_append]at hb⊢
         simp only[Gh.ko,hb]
         rw[if_neg (by omega)]
        ·simp[Gh.ko,dH]
       ·cases hl
     ·exact Bm hT (q5 _ (by simp[Gh.ko])) (by rw[g1,rJ])
     ·cases hg:G.ω b with
      |none=>simp[Gh.ko,hg]at hb
      |some l0=>
       have uP:=hw.rel.iG b l0 hg
       refine⟨?_,uP.2⟩
       cases l0 with
       |o n' p=>
        cases p with
        |nil=>simp[Gh.ko,hg]at hb;subst hb;exact .inl uP.1
        |cons x p=>
         obtain⟨r,c⟩:=x
         simp only[Gh.ko,hg]at hb
         split at hb
         ·cases hb;exact .inr rfl
         ·cases hb;exact .inl uP.1
       |_=>simp[Gh.ko,hg]at hb;subst hb;exact .inl uP.1
   ·cases ia
  ·cases ia
 ·cases ia
end
def b_(G:Gh)(w:World):List Ck->List Value->List T->List (Option Nat)->Prop
 | [],[],[],[]=>True
 | .s::ks,v::vs,t::ts,x::is=>x=none∧fm G.q w t v∧eQ t=true∧b_ G w ks vs ts is
 | .p::ks,v::vs,t::ts,x::is=>x=none∧fm G.q w t v∧b_ G w ks vs ts is
 | .o dp::ks,v::vs,t::ts,none::is=>v=.slice none 0 0∧t=.l []∧b_ G w ks vs ts is
 | .o dp::ks,v::vs,t::ts,some id::is=>v=G.H id []∧fB G w id dp [] t∧b_ G w ks vs ts is
 |_,_,_,_=>False
def T7(G:Gh)(w:World)(r:Bool×List Ck)(c:Value)(ts:List T)(is:List (Option Nat)):Prop:=
 match r.1 with
 |true=>∃vs:List Value,c=.agg vs.toArray∧b_ G w r.2 vs ts is
 |false=>b_ G w r.2 [c] ts is∧∀x,c≠.agg x
def jj(G:Gh)(w:World):List (Bool×List Ck)->List Value->List T->List (Option Nat)->Prop
 | [],[],[],[]=>True
 |r::rs,v::vs,ts,is=>∃t1 t2 i1 i2,ts=t1++t2∧is=i1++i2∧T7 G w r v t1 i1∧jj G w rs vs t2 i2
 |_,_,_,_=>False
def LH(G:Gh)(w:World)(rs:List (Bool×List Ck))(v:Value)(ts:List T)(is:List (Option Nat)):Prop:=
 match rs with
 | []=>ts=[]∧is=[]
 | [r]=>jj G w [r] [v] ts is
 |rs=>∃vs:List Value,v=.tuple vs.toArray∧jj G w rs vs ts is
section
variable {w:World}
def iH(G:Gh)(w:World)(bl:Nat->Option Nat):Nat->List PS->List T->Prop
 |_,[],ts=>ts=[]
 |i,.v _ _::ps,ts=>iH G w bl (i+1) ps ts
 |i,.x n::ps,ts=>∃b b9 elem t1 t2,bl i=some b∧G.ω b=some (.x i)∧w.heap[b]?=some (.cells b9 elem (0,0))∧ts=t1++t2∧t1.length=n∧eO G.q w t1 b9.toList∧
   iH G w bl (i+1) ps t2
def zo(ω:Nat->Option Lb)(w:World)(bl:Nat->Option Nat):Nat->List PS->List Value->List T->Prop
 |_,[],args,ts=>args=[]∧ts=[]
 |i,.v ag n::ps,args,ts=>∃c fu vs t1 t2,args=c::fu∧ts=t1++t2∧t1.length=n∧(match ag with|true=>c=.agg vs.toArray|false=>vs=[c]∧∀x,c≠.agg x)∧eO ω w t1 vs∧
   zo ω w bl (i+1) ps fu t2
 |i,.x n::ps,args,ts=>∃c fu b b9 elem t1 t2,args=c::fu∧c=.pointer (some ⟨b,0,none⟩)∧bl i=some b∧ω b=some (.x i)∧w.heap[b]?=some (.cells b9 elem (0,0))∧ts=t1++t2∧t1.length=n∧eO ω w t1 b9.toList∧
   zo ω w bl (i+1) ps fu t2
structure xX (sg:nZ) (oa:Nat->Option Lb) (bl:Nat->Option Nat) (w:World):Prop where
 iG:∀b l,oa b=some l->b<w.heap.size∧(l=.f∨∃i,l=.x i∧bl i=some b)
 bl:∀i b,bl i=some b->i<sg.ps.length∧oa b=some (.x i)
 gl:FF oa w
structure T8 (sg:nZ) (w:World) (oa:Nat->Option Lb) (bl:Nat->Option Nat) (outs:List T) (v:Value) (w':World) (G:Gh) (is:List (Option Nat)) (o1 o2:List T):Prop where
 so:jE w w'
 size:w.heap.size<=w'.heap.size
 free:∀b,b<w.heap.size->oa b=none->G.ω b=none∧w'.heap[b]?=w.heap[b]?
 Ev:∀b,oa b=some .f->G.ω b=some .f∧w'.heap[b]?=w.heap[b]?
 iG:∀b l,G.ω b=some l->b<w'.heap.size
 qq:qj sg=true->∀b,G.q b=none->G.ω b=none
 outs:outs=o1++o2
 nodup:(is.filterMap id).Nodup
 ret:LH G w' sg.rs v o1 is
 box:iH G w' bl 0 sg.ps o2
def F6(P:Program)(sg:nZ)(f:FuncId)(F:af):Prop:=
 ∀(w:World) (oa:Nat->Option Lb) (bl:Nat->Option Nat) (args:List Value) (ts outs:List T),F ts=some outs->xX sg oa bl w->zo oa w bl 0 sg.ps args ts->
  Calls P f args.toArray w λe w'=>∃v G is o1 o2,e=.returned v∧T8 sg w oa bl outs v w' G is o1 o2
structure iI (G G':Gh):Prop where
 o:∀b,G'.ω b=G.ω b∨(G'.ω b=none∧∃i p,G.ω b=some (.o i p))
 β:G'.β=G.β
 H:G'.H=G.H
theorem iI.refl(G:Gh):iI G G:=⟨λ_=>.inl rfl,rfl,rfl⟩
theorem iI.trans{G1 G2 G3:Gh}(h:iI G1 G2)(h':iI G2 G3):iI G1 G3:=by
 refine⟨λb=>?_,h'.β.trans h.β,h'.H.trans h.H⟩
 rcases h'.o b with h1|⟨h1,i,p,h2⟩
 ·rcases h.o b with h3|⟨h3,h4⟩
  ·exact .inl (h1.trans h3)
  ·exact .inr ⟨h1.trans h3,h4⟩
 ·rcases h.o b with h3|⟨h3,h4⟩
  ·exact .inr ⟨h1,i,p,by rw[<-h3];exact h2⟩
  ·rw[h3]at h2;cases h2
theorem iI.non{G G':Gh}(h:iI G G'){b:Nat}(hb:G.ω b=none):G'.ω b=none:=by
 rcases h.o b with h1|⟨h1,_⟩
 ·rw[h1,hb]
 ·exact h1
theorem iI.q{G G':Gh}(h:iI G G'){b:Nat}(hb:G.q b=none):G'.q b=none:=by
 refine uB hb h.non λl hl hq=>?_
 rcases h.o b with h1|⟨h1,_⟩
 ·exact .inr ⟨l,by rw[h1,hl],hq⟩
 ·exact .inl h1
theorem iI.x{G G':Gh}(h:iI G G'){b:Nat}{l:Lb}(hb:G.ω b=some l)(hl:∀i p,l≠.o i p):G'.ω b=some l:=by
 rcases h.o b with h1|⟨_,i,p,h1⟩
 ·rw[h1,hb]
 ·rw[hb]at h1;cases h1;exact absurd rfl (hl i p)
theorem iI.er{G G':Gh}(h:iI G G'){b:Nat}(hb:er G.ω b=none):er G'.ω b=none:=by
 unfold Go.Proofs.YtjimmglpkndemaaGreatC.er at hb⊢
 cases hg:G.ω b with
 |none=>rw[h.non hg]
 |some l=>
  rw[hg]at hb
  cases l with
  |f=>cases hb
  |x i=>cases hb
  |o i p=>
   rcases h.o b with h1|⟨h1,_⟩
   ·rw[h1,hg]
   ·rw[h1]
theorem iI.bm{G G':Gh}(h:iI G G')(w:World):dF (λl=>∃i p,l=.o i p) (λ_=>False) G w G' w:=
 ⟨Nat.le_refl _,λb _ hb=>⟨h.q hb,rfl⟩,λb _ hb=>h.non hb,λb l hb hl=>⟨h.x hb λi p e=>hl ⟨i,p,e⟩,rfl⟩,λ_ _=>⟨by rw[h.β],λ_ _=>by rw[h.H]⟩⟩
theorem Gh.oE(G:Gh)(id:Nat)(all:Bool):iI G (G.free id all):=by
 refine⟨λb=>?_,rfl,rfl⟩
 cases hg:G.ω b with
 |none=>exact .inl (Gh.j7 hg)
 |some l=>
  cases l with
  |f=>exact .inl (by simp[Gh.free,hg])
  |x i=>exact .inl (by simp[Gh.free,hg])
  |o i p=>
   simp only[Gh.free,hg]
   split
   ·exact .inr ⟨rfl,i,p,rfl⟩
   ·exact .inl rfl
variable {M:Nat->Prop} {B:e_} {d:Nat} {up:Nat->Nat->Value} {ρ:List T} {G:Gh} {a:Act} {S:Nat->af} {P:Program}
theorem dD.T9{k k':Wk}{G1:Gh}(h:dD M B d up ρ G a w k G1){id:Nat}(hk:k.mw id=some k'):∃G2,dD M B d up ρ G a w k' G2∧iI G1 G2:=by
 unfold Wk.mw at hk
 split at hk
 ·rename_i dp x hx
  cases hk
  rw[Wk.a_]at hx
  refine⟨_,⟨(h.rel.mw hx).congr (JC _ _ _ _),(h.bm.mono (λl hl=>JB hl) λ_ hn=>hn).trans ((G1.fM id true w).mono ?_ λ_ hn=>hn)⟩,G1.oE id true⟩
  rintro l ⟨p,rfl⟩
  show(k.w.set _ _).look (.o id)≠none
  rw[St.bz];simp
 ·cases hk;exact⟨G1,h,.refl _⟩
 ·cases hk
theorem dD.oF:∀{cs:List Ce} {k k1:Wk} {G1:Gh},dD M B d up ρ G a w k G1->k.eK cs=some k1->∃G2,dD M B d up ρ G a w k1 G2∧iI G1 G2
 | [],k,k1,G1,h,hk=>by
  simp[Wk.eK]at hk
  subst hk
  exact⟨G1,h,.refl _⟩
 |c::cs,k,k1,G1,h,hk=>by
  cases c with
  |o id q=>
   simp only[Wk.eK,cN]at hk
   obtain⟨k2,h1,h2⟩:=hk
   obtain⟨G2,g1,g2⟩:=h.T9 h1
   obtain⟨G3,f1,f2⟩:=dD.oF g1 h2
   exact⟨G3,f1,g2.trans f2⟩
  |p x=>exact dD.oF h (show k.eK cs=some k1 from hk)
  |n=>exact dD.oF h (show k.eK cs=some k1 from hk)
  |d=>exact dD.oF h (show k.eK cs=some k1 from hk)
def db(G:Gh)(w:World)(ρ:List T):List SV->List Value->Prop
 | [],[]=>True
 |v::vs,c::cs=>cK G w ρ v c∧db G w ρ vs cs
 |_,_=>False
theorem db.bm{I:Lb->Prop}{G G':Gh}{w w':World}(k:dF I (λ_=>False) G w G' w'):∀{vs:List SV} {cs:List Value},db G w ρ vs cs->db G' w' ρ vs cs
 | [],[],_=>trivial
 |_::_,_::_,h=>⟨h.1.bm k λ_ _ hf=>hf,db.bm k h.2⟩
 | [],_::_,h=>h.elim
 |_::_,[],h=>h.elim
def uU(G:Gh)(w:World)(ρ:List T)(pl:Bool):List PS->List Value->List Lf->List (Nat×Bool×Nat)->Prop
 | [],args,xs,bs=>args=[]∧xs=[]∧bs=[]
 | .v ag n::ps,args,xs,bs=>∃c fu vs x1 x2,args=c::fu∧xs=x1++x2∧x1.length=n∧(match ag with|true=>c=.agg vs.toArray|false=>vs=[c]∧∀x,c≠.agg x)∧eO (er G.ω) w (x1.map (Lf.ev ρ)) vs∧
   (pl=true->eO G.q w (x1.map (Lf.ev ρ)) vs)∧uU G w ρ pl ps fu x2 bs
 | .x n::ps,args,xs,bs=>∃c fu bx ag zi b9 elem x1 x2,args=c::fu∧bs=(bx,ag,n)::zi∧c=.pointer (some ⟨G.β bx,0,none⟩)∧G.ω (G.β bx)=some (.x bx)∧w.heap[G.β bx]?=some (.cells b9 elem (0,0))∧
   xs=x1++x2∧x1.length=n∧eO G.q w (x1.map (Lf.ev ρ)) b9.toList∧uU G w ρ pl ps fu x2 zi
theorem LI{pl:Bool}:∀{ps:List PS} {vs:List SV} {cs:List Value} {k k1:Wk} {xs:List Lf} {bs:List (Nat×Bool×Nat)} {G1:Gh},dD M B d up ρ G a w k G1->db G1 w ρ vs cs->(pl=true->Bv k (wu vs))->
  k.args vs ps=some (k1,xs,bs)->k1.bJ S ρ->k.bJ S ρ∧k1.ct.i=k.ct.i∧∃G2,dD M B d up ρ G a w k1 G2∧iI G1 G2∧
   ∀G3,iI G2 G3->uU G3 w ρ pl ps cs xs bs
 | [],[],cs,k,k1,xs,bs,G1,hk,hr,hf,h,hd=>by
  simp only[Wk.args,bG,Prod.mk.injEq]at h
  obtain⟨rfl,rfl,rfl⟩:=h
  cases cs with
  |nil=>exact⟨hd,rfl,G1,hk,.refl _,λ_ _=>⟨rfl,rfl,rfl⟩⟩
  |cons _ _=>exact hr.elim
 | .v xI n::ps,.v ag es::vs,cs,k,k1,xs,bs,G1,hk,hr,hf,h,hd=>by
  cases cs with
  |nil=>exact hr.elim
  |cons c cs=>
   simp only[Wk.args]at h
   cases hc:((ag==xI)&&Nat.beq es.length n)with
   |false=>simp[hc]at h
   |true=>
    simp only[hc,cond_true,cN,bG,Prod.mk.injEq]at h
    simp only[bD,beq_iff_eq]at hc
    obtain⟨rfl,hn⟩:=hc
    obtain⟨⟨k2,x1⟩,h1,⟨k3,x2,bs2⟩,h2,rfl,rfl,rfl⟩:=h
    have hs:=Wk.hY h1
    obtain⟨d2,i2,G2,w2,l2,f2⟩:=LI (hk.same hs) hr.2 (λhp id gG=>by
     obtain⟨pv,x,hx⟩:=hf hp id (by simp only[wu];rw[K6];exact List.mem_append_right _ gG)
     exact⟨pv,x,by rw[hs.get];exact hx⟩) h2 hd
    have fR:=Wk.lL h1 d2
    refine⟨fR,i2.trans hs.i,G2,w2,l2,λG3 l3=>?_⟩
    have bf:=l2.trans l3
    have hlen:x1.length=n:=by
     have:=ef hn
     obtain⟨uV,pU⟩:∃uV:List Value,bk G1 w ρ es uV:=by
      have h0:=hr.1
      cases ag with
      |true=>obtain⟨uV,_,h0⟩:=h0;exact⟨uV,h0⟩
      |false=>obtain⟨e,rfl,h0,_⟩:=h0;exact⟨[c],h0,trivial⟩
     obtain⟨_,_,_,_,e4⟩:=Wk.hZ h1 d2 pU hk
     rw[e4,<-pU.length,this]
    have key:∀uV:List Value,bk G1 w ρ es uV->eO (er G3.ω) w (x1.map (Lf.ev ρ)) uV∧(pl=true->eO G3.q w (x1.map (Lf.ev ρ)) uV):=by
     intro uV pU
     obtain⟨ts,e1,e2,e3,e4⟩:=Wk.hZ h1 d2 pU hk
     rw[e1]
     refine⟨e2.bm (Nat.le_refl _) λb _ hb=>⟨bf.er hb,rfl⟩,λhp=>(e3 λid gG=>hf hp id ?_).bm (Nat.le_refl _) λb _ hb=>⟨bf.q hb,rfl⟩⟩
     simp only[wu,Fb]
     rw[K6]
     exact List.mem_append_left _ gG
    have h0:=hr.1
    cases ag with
    |true=>
     obtain⟨uV,rfl,h0⟩:=h0
     obtain⟨q1,q2⟩:=key uV h0
     exact⟨_,cs,uV,x1,x2,rfl,rfl,hlen,rfl,q1,q2,f2 G3 l3⟩
    |false=>
     obtain⟨e,rfl,h0,h0'⟩:=h0
     obtain⟨q1,q2⟩:=key [c] ⟨h0,trivial⟩
     exact⟨c,cs,[c],x1,x2,rfl,rfl,hlen,⟨rfl,h0'⟩,q1,q2,f2 G3 l3⟩
 | .x n::ps,.pt bx 0::vs,cs,k,k1,xs,bs,G1,hk,hr,hf,h,hd=>by
  cases cs with
  |nil=>exact hr.elim
  |cons c cs=>
   simp only[Wk.args]at h
   split at h
   ·rename_i ag es vR
    cases hc:Nat.beq es.length n with
    |false=>simp[hc]at h
    |true=>
     simp only[hc,cond_true,cN,bG,Prod.mk.injEq]at h
     obtain⟨k2,h0,⟨k3,x1⟩,h1,⟨k4,x2,bs2⟩,h2,rfl,rfl,rfl⟩:=h
     obtain⟨Gt,wt,lt⟩:=hk.oF h0
     obtain⟨_,_,_,_,t4,t5,tf,t7,_⟩:=hk.eK h0
     have hs:=Wk.hY h1
     obtain⟨d2,i2,G2,w2,l2,f2⟩:=LI (wt.same hs) (hr.2.bm (lt.bm w)) (λhp id gG=>by
      obtain⟨pv,x,hx⟩:=hf hp id (by simp only[wu];rw[K6];exact List.mem_append_right _ gG)
      exact⟨pv,x,by rw[hs.get];exact t7 _ _ _ hx⟩) h2 hd
     have fR:=Wk.lL h1 d2
     have T_:k.bJ S ρ:=by unfold Wk.bJ at fR⊢;rw[<-t4,<-t5];exact fR
     have qH:=hk.rel.bx bx
     rw[<-Wk.a_,vR]at qH
     obtain⟨b1,b9,elem,b2,b3⟩:=qH
     obtain⟨ts,e1,e2,e3,e4⟩:=Wk.hZ h1 d2 (b3.bm (lt.bm w) λ_ _ hf=>hf) wt
     have hp:c=.pointer (some ⟨G1.β bx,0,none⟩):=hr.1
     refine⟨T_,by rw[i2,hs.i,t4],G2,w2,lt.trans l2,λG3 l3=>?_⟩
     have s7:=(lt.trans l2).trans l3
     refine⟨c,cs,bx,ag,bs2,b9,elem,x1,x2,rfl,rfl,by rw[s7.β];exact hp,by rw[s7.β];exact s7.x b1 (λ_ _ e=>by cases e),by rw[s7.β];exact b2,rfl,?_,?_,f2 G3 l3⟩
     ·rw[e4,<-b3.length];exact ef hc
     ·rw[e1];exact(e3 tf).bm (Nat.le_refl _) λb _ hb=>⟨(l2.trans l3).q hb,rfl⟩
   ·cases h
 | [],_::_,cs,k,k1,xs,bs,G1,hk,hr,hf,h,hd=>by simp[Wk.args]at h
 |_::_,[],cs,k,k1,xs,bs,G1,hk,hr,hf,h,hd=>by simp[Wk.args]at h
 | .x _::_,.pt _ (_+1)::_,cs,k,k1,xs,bs,G1,hk,hr,hf,h,hd=>by simp[Wk.args]at h
 | .v _ _::_,.un::_,cs,k,k1,xs,bs,G1,hk,hr,hf,h,hd=>by simp[Wk.args]at h
 | .v _ _::_,.pt _ _::_,cs,k,k1,xs,bs,G1,hk,hr,hf,h,hd=>by simp[Wk.args]at h
 | .v _ _::_,.ep _ _ _ _ _::_,cs,k,k1,xs,bs,G1,hk,hr,hf,h,hd=>by simp[Wk.args]at h
 | .v _ _::_,.fp _ _ _ _::_,cs,k,k1,xs,bs,G1,hk,hr,hf,h,hd=>by simp[Wk.args]at h
 | .v _ _::_,.tp _::_,cs,k,k1,xs,bs,G1,hk,hr,hf,h,hd=>by simp[Wk.args]at h
 | .v _ _::_,.cl _ _::_,cs,k,k1,xs,bs,G1,hk,hr,hf,h,hd=>by simp[Wk.args]at h
 | .v _ _::_,.ob _ _::_,cs,k,k1,xs,bs,G1,hk,hr,hf,h,hd=>by simp[Wk.args]at h
 | .v _ _::_,.fz _ _::_,cs,k,k1,xs,bs,G1,hk,hr,hf,h,hd=>by simp[Wk.args]at h
 | .v _ _::_,.tk _ _::_,cs,k,k1,xs,bs,G1,hk,hr,hf,h,hd=>by simp[Wk.args]at h
 | .v _ _::_,.fl _::_,cs,k,k1,xs,bs,G1,hk,hr,hf,h,hd=>by simp[Wk.args]at h
 | .v _ _::_,.fr _::_,cs,k,k1,xs,bs,G1,hk,hr,hf,h,hd=>by simp[Wk.args]at h
 | .x _::_,.un::_,cs,k,k1,xs,bs,G1,hk,hr,hf,h,hd=>by simp[Wk.args]at h
 | .x _::_,.v _ _::_,cs,k,k1,xs,bs,G1,hk,hr,hf,h,hd=>by simp[Wk.args]at h
 | .x _::_,.ep _ _ _ _ _::_,cs,k,k1,xs,bs,G1,hk,hr,hf,h,hd=>by simp[Wk.args]at h
 | .x _::_,.fp _ _ _ _::_,cs,k,k1,xs,bs,G1,hk,hr,hf,h,hd=>by simp[Wk.args]at h
 | .x _::_,.tp _::_,cs,k,k1,xs,bs,G1,hk,hr,hf,h,hd=>by simp[Wk.args]at h
 | .x _::_,.cl _ _::_,cs,k,k1,xs,bs,G1,hk,hr,hf,h,hd=>by simp[Wk.args]at h
 | .x _::_,.ob _ _::_,cs,k,k1,xs,bs,G1,hk,hr,hf,h,hd=>by simp[Wk.args]at h
 | .x _::_,.fz _ _::_,cs,k,k1,xs,bs,G1,hk,hr,hf,h,hd=>by simp[Wk.args]at h
 | .x _::_,.tk _ _::_,cs,k,k1,xs,bs,G1,hk,hr,hf,h,hd=>by simp[Wk.args]at h
 | .x _::_,.fl _::_,cs,k,k1,xs,bs,G1,hk,hr,hf,h,hd=>by simp[Wk.args]at h
 | .x _::_,.fr _::_,cs,k,k1,xs,bs,G1,hk,hr,hf,h,hd=>by simp[Wk.args]at h
end
theorem F7{W:St}{r:bE}{u:SV}(h:W.look r=some u):(r,u)∈W:=by
 induction W with
 |nil=>cases h
 |cons x W ih=>
  obtain⟨r',v⟩:=x
  rcases j8 h with⟨rfl,rfl⟩|h
  ·exact List.mem_cons_self
  ·exact List.mem_cons_of_mem _ (ih h)
def lc:Nat->List Ck->List (Option Nat)->nr
 |i,.o _::ks,x::is=>(n8 i,x)::lc (n8 i+1) ks is
 |i,_::ks,_::is=>lc i ks is
 |_,_,_=>[]
theorem LJ:∀{ks:List Ck} {is:List (Option Nat)} {i j:Nat} {x:Option Nat},(j,x)∈lc i ks is->i<=j∧x∈is
 | [],is,i,j,x,h=>by simp[lc]at h
 |_::_,[],i,j,x,h=>by simp[lc]at h
 | .o _::ks,y::is,i,j,x,h=>by
  simp only[lc,List.mem_cons,Prod.mk.injEq]at h
  have T':=KB i
  rcases h with⟨rfl,rfl⟩|h
  ·exact⟨T',by simp⟩
  ·have:=LJ h;exact⟨by omega,by simp[this.2]⟩
 | .s::ks,y::is,i,j,x,h=>by have:=LJ (show(j,x)∈lc i ks is from h);exact⟨this.1,by simp[this.2]⟩
 | .p::ks,y::is,i,j,x,h=>by have:=LJ (show(j,x)∈lc i ks is from h);exact⟨this.1,by simp[this.2]⟩
theorem F8:∀{ks:List Ck} {is:List (Option Nat)} {i j:Nat} {x:Option Nat},(j,x)∈lc i ks is->n9 (lc i ks is) j=some x
 | [],is,i,j,x,h=>by simp[lc]at h
 |_::_,[],i,j,x,h=>by simp[lc]at h
 | .o _::ks,y::is,i,j,x,h=>by
  simp only[lc,List.mem_cons,Prod.mk.injEq]at h
  rcases h with⟨rfl,rfl⟩|h
  ·simp[lc,n9]
  ·have h1:=(LJ h).1
   have:Nat.beq (n8 i) j=false:=by
    cases hb:Nat.beq (n8 i) j with
    |false=>rfl
    |true=>have:=ef hb;omega
   simp only[lc,n9,this,cond_false]
   exact F8 h
 | .s::ks,y::is,i,j,x,h=>F8 (ks:=ks) (is:=is) h
 | .p::ks,y::is,i,j,x,h=>F8 (ks:=ks) (is:=is) h
theorem BW:∀{ks:List Ck} {is:List (Option Nat)} {i j k:Nat},(is.filterMap id).Nodup->(j,some k)∈lc i ks is->nE (lc i ks is) k=some j
 | [],is,i,j,k,_,h=>by simp[lc]at h
 |_::_,[],i,j,k,_,h=>by simp[lc]at h
 | .o _::ks,none::is,i,j,k,hn,h=>by
  simp only[lc,List.mem_cons,Prod.mk.injEq]at h
  rcases h with⟨_,h⟩|h
  ·cases h
  ·simp only[lc,nE];exact BW (by simpa using hn) h
 | .o _::ks,some y::is,i,j,k,hn,h=>by
  simp only[List.filterMap_cons_some (f:=id) (a:=some y) rfl,List.nodup_cons]at hn
  simp only[lc,List.mem_cons,Prod.mk.injEq]at h
  rcases h with⟨rfl,h⟩|h
  ·cases h;simp[lc,nE]
  ·have dH:Nat.beq y k=false:=by
    cases hb:Nat.beq y k with
    |false=>rfl
    |true=>
     have:=ef hb
     subst this
     exact absurd (show y∈is.filterMap id from List.mem_filterMap.2 ⟨some y,(LJ h).2,rfl⟩) hn.1
   simp only[lc,nE,dH,cond_false]
   exact BW hn.2 h
 | .s::ks,y::is,i,j,k,hn,h=>by
  refine BW (ks:=ks) (is:=is) ?_ h
  cases y with
  |none=>simpa using hn
  |some y=>simp only[List.filterMap_cons_some (f:=id) (a:=some y) rfl,List.nodup_cons]at hn;exact hn.2
 | .p::ks,y::is,i,j,k,hn,h=>by
  refine BW (ks:=ks) (is:=is) ?_ h
  cases y with
  |none=>simpa using hn
  |some y=>simp only[List.filterMap_cons_some (f:=id) (a:=some y) rfl,List.nodup_cons]at hn;exact hn.2
theorem RE:∀{rn:nr} {k j:Nat},nE rn k=some j->(j,some k)∈rn
 | [],k,j,h=>by simp[nE]at h
 |(i,none)::rn,k,j,h=>List.mem_cons_of_mem _ (RE (show nE rn k=some j from h))
 |(i,some y)::rn,k,j,h=>by
  simp only[nE]at h
  cases hb:Nat.beq y k with
  |true=>simp[hb]at h;subst h;rw[ef hb];exact List.mem_cons_self
  |false=>simp[hb]at h;exact List.mem_cons_of_mem _ (RE h)
theorem RF:∀{rn:nr} {j:Nat} {x:Option Nat},n9 rn j=some x->(j,x)∈rn
 | [],k,j,h=>by simp[n9]at h
 |(i,y)::rn,j,x,h=>by
  simp only[n9]at h
  cases hb:Nat.beq i j with
  |true=>simp[hb]at h;subst h;rw[ef hb];exact List.mem_cons_self
  |false=>simp[hb]at h;exact List.mem_cons_of_mem _ (RF h)
def kP:Ck->Bool
 | .p| .o false=>true
 |_=>false
theorem fB.qI{G G':Gh}{w:World}{id j:Nat}{t:T}(h:fB G w id false [] t)(iq:∀c,G.ω c=some (.o id [])->G'.ω c=some (.o j []))(hH:G'.H j []=G.H id [])
  (hn:∀b,G.q b=none->G'.q b=none):fB G' w j false [] t:=by
 cases h with
 |nil h=>exact .nil (by rw[hH];exact h)
 | @l _ _ xs b wd cap b9 elem cv h1 h2 h3 h4 h5 h6 h7 h8 h9 n_ xM=>
  exact .l (by rw[hH];exact h1) h2 (iq _ h3) h4 h5 h6 h7 h8 (λi j ys hy hd=>(h9 i j ys hy hd).bm (Nat.le_refl _) λb _ hb=>⟨hn b hb,rfl⟩) (λ_ _ _ _ hd=>by cases hd) λ_ _ _ _ hd=>by cases hd
section
variable {w':World} {ρ:List T} {G' G2:Gh}
theorem BX{rn:nr}(hH:∀j x,n9 rn j=some x->G2.H j=match x with|some id=>G'.H id|none=>λ_=>.slice none 0 0)
  (iq:∀j id,nE rn id=some j->∀c r,G'.ω c=some (.o id r)->G2.ω c=some (.o j r)):
  ∀{ks:List Ck} {us:List Value} {ts:List T} {is:List (Option Nat)} {ct:Ct},b_ G' w' ks us ts is->(∀j t,ts[j]?=some t->ρ[ct.a+j]?=some t)->
   (∀k∈ks,kP k=true->∀b,G'.q b=none->G2.q b=none)->(∀j x,(j,x)∈lc ct.i ks is->n9 rn j=some x)->(∀j id,(j,some id)∈lc ct.i ks is->nE rn id=some j)->
   bk G2 w' ρ (fV ct ks).2.1 us∧(fV ct ks).1.a=ct.a+ts.length∧ct.i<=(fV ct ks).1.i∧(∀i∈dV (fV ct ks).2.1,ct.i<=i∧i<(fV ct ks).1.i)∧
   (∀j x,(j,x)∈lc ct.i ks is->j<(fV ct ks).1.i)∧
   ∀r u,(r,u)∈(fV ct ks).2.2->∃j,r=.o j∧ct.i<=j∧j<(fV ct ks).1.i∧cL G2 w' ρ j u∧dA u=[]
 | [],[],[],[],ct,_,_,_,_,_=>⟨trivial,rfl,Nat.le_refl _,λi hi=>by simp[fV,dV]at hi,λj x h=>by simp[lc]at h,λr u h=>by simp[fV]at h⟩
 | .s::ks,u::us,t::ts,x::is,ct,h,ny,hp,h1,h2=>by
  obtain⟨rfl,hd,hs,h⟩:=h
  obtain⟨g1,g2,g3,g4,g5,g6⟩:=BX hH iq (ct:=⟨ct.a+1,ct.i⟩) h (λj t' hj=>by have:=ny (j+1) t' (by simpa using hj);rw[<-this];congr 1;show ct.a+1+j=_;omega) (λk hk=>hp k (by simp[hk])) h1 h2
  have h0:ρ[ct.a]?=some t:=ny 0 t rfl
  obtain⟨v,rfl⟩:=zd hs
  obtain⟨rfl,hv⟩:=hd.scalar
  refine⟨⟨⟨.c u,h0,.c hv⟩,g1⟩,?_,g3,?_,g5,g6⟩
  ·simp only[fV,List.length_cons];rw[g2];show ct.a+1+_=_;omega
  ·intro i hi;simp only[fV,dV]at hi;exact g4 i hi
 | .p::ks,u::us,t::ts,x::is,ct,h,ny,hp,h1,h2=>by
  obtain⟨rfl,hd,h⟩:=h
  obtain⟨g1,g2,g3,g4,g5,g6⟩:=BX hH iq (ct:=⟨ct.a+1,ct.i⟩) h (λj t' hj=>by have:=ny (j+1) t' (by simpa using hj);rw[<-this];congr 1;show ct.a+1+j=_;omega) (λk hk=>hp k (by simp[hk])) h1 h2
  have h0:ρ[ct.a]?=some t:=ny 0 t rfl
  refine⟨⟨⟨t,h0,hd.bm (Nat.le_refl _) λb _ hb=>⟨hp .p (by simp) rfl b hb,rfl⟩⟩,g1⟩,?_,g3,?_,g5,g6⟩
  ·simp only[fV,List.length_cons];rw[g2];show ct.a+1+_=_;omega
  ·intro i hi;simp only[fV,dV]at hi;exact g4 i hi
 | .o dp::ks,u::us,t::ts,none::is,ct,h,ny,hp,h1,h2=>by
  obtain⟨rfl,rfl,h⟩:=h
  obtain⟨g1,g2,g3,g4,g5,g6⟩:=BX hH iq (ct:=⟨ct.a+1,n8 ct.i+1⟩) h (λj t' hj=>by have:=ny (j+1) t' (by simpa using hj);rw[<-this];congr 1;show ct.a+1+j=_;omega) (λk hk=>hp k (by simp[hk]))
   (λj x hj=>h1 j x (by simp[lc,hj])) (λj id hj=>h2 j id (by simp[lc,hj]))
  have h0:ρ[ct.a]?=some (.l []):=ny 0 _ rfl
  have hr:=hH (n8 ct.i) none (h1 (n8 ct.i) none (by simp[lc]))
  simp only at hr
  have g3':n8 ct.i+1<=(fV ⟨ct.a+1,n8 ct.i+1⟩ ks).1.i:=g3
  have T':=KB ct.i
  refine⟨⟨⟨[],rfl,by rw[hr]⟩,g1⟩,?_,by simp only[fV];omega,?_,?_,?_⟩
  ·simp only[fV,List.length_cons];rw[g2];show ct.a+1+_=_;omega
  ·intro i hi
   simp only[fV,dV,List.mem_cons]at hi⊢
   rcases hi with rfl|hi
   ·omega
   ·have:=g4 i hi
    have h3:n8 ct.i+1<=i:=this.1
    omega
  ·intro j x hj
   simp only[lc,List.mem_cons,Prod.mk.injEq]at hj
   simp only[fV]
   rcases hj with⟨rfl,_⟩|hj
   ·omega
   ·exact g5 j x hj
  ·intro r u' rv
   simp only[fV,List.mem_cons,Prod.mk.injEq]at rv⊢
   rcases rv with⟨rfl,rfl⟩|rv
   ·exact⟨n8 ct.i,rfl,T',by omega,⟨.l [],h0,.nil (by rw[hr])⟩,rfl⟩
   ·obtain⟨j,e1,e2,e3,e4,e5⟩:=g6 r u' rv
    have Ua:n8 ct.i+1<=j:=e2
    exact⟨j,e1,by omega,e3,e4,e5⟩
 | .o dp::ks,u::us,t::ts,some id::is,ct,h,ny,hp,h1,h2=>by
  obtain⟨rfl,bU,h⟩:=h
  obtain⟨g1,g2,g3,g4,g5,g6⟩:=BX hH iq (ct:=⟨ct.a+1,n8 ct.i+1⟩) h (λj t' hj=>by have:=ny (j+1) t' (by simpa using hj);rw[<-this];congr 1;show ct.a+1+j=_;omega) (λk hk=>hp k (by simp[hk]))
   (λj x hj=>h1 j x (by simp[lc,hj])) (λj id hj=>h2 j id (by simp[lc,hj]))
  have h0:ρ[ct.a]?=some t:=ny 0 _ rfl
  have hr:=hH (n8 ct.i) (some id) (h1 (n8 ct.i) (some id) (by simp[lc]))
  simp only at hr
  have ht:=iq (n8 ct.i) id (h2 (n8 ct.i) id (by simp[lc]))
  have g3':n8 ct.i+1<=(fV ⟨ct.a+1,n8 ct.i+1⟩ ks).1.i:=g3
  have T':=KB ct.i
  refine⟨⟨⟨[],rfl,by rw[hr]⟩,g1⟩,?_,by simp only[fV];omega,?_,?_,?_⟩
  ·simp only[fV,List.length_cons];rw[g2];show ct.a+1+_=_;omega
  ·intro i hi
   simp only[fV,dV,List.mem_cons]at hi⊢
   rcases hi with rfl|hi
   ·omega
   ·have:=g4 i hi
    have h3:n8 ct.i+1<=i:=this.1
    omega
  ·intro j x hj
   simp only[lc,List.mem_cons,Prod.mk.injEq]at hj
   simp only[fV]
   rcases hj with⟨rfl,_⟩|hj
   ·omega
   ·exact g5 j x hj
  ·intro r u' rv
   simp only[fV,List.mem_cons,Prod.mk.injEq]at rv⊢
   rcases rv with⟨rfl,rfl⟩|rv
   ·refine⟨n8 ct.i,rfl,T',by omega,⟨t,h0,?_⟩,rfl⟩
    cases dp with
    |true=>exact bU.move rfl (λc r hc=>⟨ht c r hc,rfl⟩) λr=>by rw[hr]
    |false=>exact bU.qI (λc hc=>ht c [] hc) (by rw[hr]) (hp (.o false) (by simp) rfl)
   ·obtain⟨j,e1,e2,e3,e4,e5⟩:=g6 r u' rv
    have Ua:n8 ct.i+1<=j:=e2
    exact⟨j,e1,by omega,e3,e4,e5⟩
 | [],_::_,_,_,ct,h,_,_,_,_=>by simp[b_]at h
 | [],[],_::_,_,ct,h,_,_,_,_=>by simp[b_]at h
 | [],[],[],_::_,ct,h,_,_,_,_=>by simp[b_]at h
 |k::_,[],_,_,ct,h,_,_,_,_=>by cases k<;>simp[b_]at h
 |k::_,_::_,[],_,ct,h,_,_,_,_=>by cases k<;>simp[b_]at h
 |k::_,_::_,_::_,[],ct,h,_,_,_,_=>by cases k<;>simp[b_]at h
theorem RG:∀(k1 k2:List Ck) (ct:Ct),fV ct (k1++k2)=((fV (fV ct k1).1 k2).1,(fV ct k1).2.1++(fV (fV ct k1).1 k2).2.1,(fV ct k1).2.2++(fV (fV ct k1).1 k2).2.2)
 | [],k2,ct=>by simp[fV]
 | .o dp::k1,k2,ct=>by simp[fV,RG k1 k2]
 | .s::k1,k2,ct=>by simp[fV,RG k1 k2]
 | .p::k1,k2,ct=>by simp[fV,RG k1 k2]
def mR:List (Bool×List Ck)->List Ck
 | []=>[]
 |r::rs=>r.2++mR rs
theorem Ub:∀(rs:List (Bool×List Ck)) (ct:Ct),(oz ct rs).1=(fV ct (mR rs)).1∧(oz ct rs).2.2=(fV ct (mR rs)).2.2
 | [],ct=>⟨rfl,rfl⟩
 |r::rs,ct=>by
  obtain⟨h1,h2⟩:=Ub rs (fV ct r.2).1
  simp only[oz,mR,RG]
  exact⟨h1,by rw[h2]⟩
theorem bk.split{G:Gh}{w:World}:∀{c1 c2:List Ce} {v1 v2:List Value},c1.length=v1.length->bk G w ρ (c1++c2) (v1++v2)->bk G w ρ c1 v1∧bk G w ρ c2 v2
 | [],_,[],_,_,h=>⟨trivial,h⟩
 | [],_,_::_,_,h,_=>by simp at h
 |_::_,_,[],_,h,_=>by simp at h
 |c::c1,_,v::v1,_,h,hr=>by
  obtain⟨h1,h2⟩:=bk.split (by simpa using h) hr.2
  exact⟨⟨hr.1,h1⟩,h2⟩
theorem Uc:∀(ks:List Ck) (ct:Ct),(fV ct ks).2.1.length=ks.length
 | [],ct=>rfl
 | .o dp::ks,ct=>by simp[fV,Uc ks]
 | .s::ks,ct=>by simp[fV,Uc ks]
 | .p::ks,ct=>by simp[fV,Uc ks]
theorem b_.len:∀{ks:List Ck} {us:List Value} {ts:List T} {is:List (Option Nat)},b_ G' w' ks us ts is->us.length=ks.length∧ts.length=ks.length∧is.length=ks.length
 | [],[],[],[],_=>⟨rfl,rfl,rfl⟩
 | .s::ks,_::us,_::ts,x::is,h=>by have:=b_.len h.2.2.2;simp[this]
 | .p::ks,_::us,_::ts,x::is,h=>by have:=b_.len h.2.2;simp[this]
 | .o _::ks,_::us,_::ts,none::is,h=>by have:=b_.len h.2.2;simp[this]
 | .o _::ks,_::us,_::ts,some _::is,h=>by have:=b_.len h.2.2;simp[this]
 | [],_::_,_,_,h=>by simp[b_]at h
 | [],[],_::_,_,h=>by simp[b_]at h
 | [],[],[],_::_,h=>by simp[b_]at h
 |k::_,[],_,_,h=>by cases k<;>simp[b_]at h
 |k::_,_::_,[],_,h=>by cases k<;>simp[b_]at h
 |k::_,_::_,_::_,[],h=>by cases k<;>simp[b_]at h
theorem b_.append:∀{k1:List Ck} {u1:List Value} {t1:List T} {i1:List (Option Nat)} {k2:List Ck} {u2:List Value} {t2:List T} {i2:List (Option Nat)},b_ G' w' k1 u1 t1 i1->b_ G' w' k2 u2 t2 i2->
  b_ G' w' (k1++k2) (u1++u2) (t1++t2) (i1++i2)
 | [],[],[],[],_,_,_,_,_,h=>h
 | .s::ks,_::us,_::ts,x::is,_,_,_,_,h,h'=>⟨h.1,h.2.1,h.2.2.1,b_.append h.2.2.2 h'⟩
 | .p::ks,_::us,_::ts,x::is,_,_,_,_,h,h'=>⟨h.1,h.2.1,b_.append h.2.2 h'⟩
 | .o _::ks,_::us,_::ts,none::is,_,_,_,_,h,h'=>⟨h.1,h.2.1,b_.append h.2.2 h'⟩
 | .o _::ks,_::us,_::ts,some _::is,_,_,_,_,h,h'=>⟨h.1,h.2.1,b_.append h.2.2 h'⟩
 | [],_::_,_,_,_,_,_,_,h,_=>by simp[b_]at h
 | [],[],_::_,_,_,_,_,_,h,_=>by simp[b_]at h
 | [],[],[],_::_,_,_,_,_,h,_=>by simp[b_]at h
 |k::_,[],_,_,_,_,_,_,h,_=>by cases k<;>simp[b_]at h
 |k::_,_::_,[],_,_,_,_,_,h,_=>by cases k<;>simp[b_]at h
 |k::_,_::_,_::_,[],_,_,_,_,h,_=>by cases k<;>simp[b_]at h
theorem Ud:∀{rs:List (Bool×List Ck)} {vs:List Value} {ts:List T} {is:List (Option Nat)},jj G' w' rs vs ts is->
  ∃us:List Value,b_ G' w' (mR rs) us ts is∧∀(G2:Gh) (w2:World) (ct:Ct),bk G2 w2 ρ (fV ct (mR rs)).2.1 us->gK G2 w2 ρ (oz ct rs).2.1 vs
 | [],[],[],[],_=>⟨[],trivial,λ_ _ _ _=>trivial⟩
 |r::rs,v::vs,ts,is,h=>by
  obtain⟨t1,t2,i1,i2,rfl,rfl,h1,h2⟩:=h
  obtain⟨us,g1,g2⟩:=Ud h2
  obtain⟨ag,ks⟩:=r
  have key:∀u1:List Value,b_ G' w' ks u1 t1 i1->(∀(G2:Gh) (w2:World) (cs:List Ce),bk G2 w2 ρ cs u1->cs.length=ks.length->fC G2 w2 ρ ag cs v)->
    ∃us:List Value,b_ G' w' (mR ((ag,ks)::rs)) us (t1++t2) (i1++i2)∧∀(G2:Gh) (w2:World) (ct:Ct),bk G2 w2 ρ (fV ct (mR ((ag,ks)::rs))).2.1 us->gK G2 w2 ρ (oz ct ((ag,ks)::rs)).2.1 (v::vs):=by
   intro u1 hu hv
   refine⟨u1++us,hu.append g1,λG2 w2 ct hr=>?_⟩
   simp only[mR,RG]at hr
   obtain⟨r1,r2⟩:=bk.split (by rw[Uc,(b_.len hu).1]) hr
   exact⟨hv G2 w2 _ r1 (Uc _ _),g2 G2 w2 _ r2⟩
  cases ag with
  |true=>
   obtain⟨u1,rfl,hu⟩:=h1
   exact key u1 hu λG2 w2 cs hr _=>⟨u1,rfl,hr⟩
  |false=>
   obtain⟨hu,FL⟩:=h1
   refine key [v] hu λG2 w2 cs hr hl=>?_
   have:=(b_.len hu).1
   rw[<-this]at hl
   match cs,hl with
   | [c],_=>exact⟨c,rfl,hr.1,FL⟩
 | [],[],_::_,_,h=>h.elim
 | [],[],[],_::_,h=>h.elim
 | [],_::_,_,_,h=>h.elim
 |_::_,[],_,_,h=>h.elim
def ib:Nat->List PS->List (Nat×Bool×Nat)->List (Nat×Nat)
 |i,.v _ _::ps,bs=>ib (i+1) ps bs
 |i,.x _::ps,b::bs=>(i,b.1)::ib (i+1) ps bs
 |_,_,_=>[]
def uW:List (Nat×Bool×Nat)->Nat
 | []=>0
 |b::bs=>b.2.2+uW bs
theorem Ue:∀(bs:List (Nat×Bool×Nat)) (a:Nat),(ux a bs).1=a+uW bs
 | [],a=>rfl
 |b::bs,a=>by obtain⟨bx,ag,n⟩:=b;simp only[ux,uW,Ue bs];omega
theorem F9{w:World}{G:Gh}:∀{n a:Nat} {ts:List T} {vs:List Value},ts.length=n->eO G.q w ts vs->(∀j t,ts[j]?=some t->ρ[a+j]?=some t)->bk G w ρ (Et a n) vs∧dV (Et a n)=[]
 |0,a,[],[],_,_,_=>⟨trivial,rfl⟩
 |0,a,[],_::_,_,h,_=>h.elim
 |0,a,_::_,_,h,_,_=>by simp at h
 |n+1,a,[],_,h,_,_=>by simp at h
 |n+1,a,_::_,[],_,h,_=>h.elim
 |n+1,a,t::ts,v::vs,hl,h,ny=>by
  obtain⟨g1,g2⟩:=F9 (a:=a+1) (by simpa using hl) h.2 (λj t' hj=>by have:=ny (j+1) t' (by simpa using hj);rw[<-this];congr 1;omega)
  exact⟨⟨⟨t,ny 0 t rfl,h.1⟩,g1⟩,by simp[Et,dV,g2]⟩
theorem LK{bl:Nat->Option Nat}(hn:∀b,G'.q b=none->G2.q b=none){G1:Gh}{w:World}{pl:Bool}:
  ∀{ps:List PS} {args:List Value} {xs:List Lf} {bs:List (Nat×Bool×Nat)} {i a:Nat} {ts:List T},uU G1 w ρ pl ps args xs bs->iH G' w' bl i ps ts->(∀j t,ts[j]?=some t->ρ[a+j]?=some t)->
   (∀j bx,(j,bx)∈ib i ps bs->bl j=some (G2.β bx)∧G2.ω (G2.β bx)=some (.x bx))->
   ts.length=uW bs∧∀r u,(r,u)∈(ux a bs).2->∃j bx,(j,bx)∈ib i ps bs∧r=.x bx∧gk G2 w' ρ bx u∧dA u=[]
 | [],args,xs,bs,i,a,ts,hA,hB,ny,hp=>by
  obtain⟨_,_,rfl⟩:=hA
  cases hB
  exact⟨rfl,λr u h=>by simp[ux]at h⟩
 | .v ag n::ps,args,xs,bs,i,a,ts,hA,hB,ny,hp=>by
  obtain⟨c,fu,vs,x1,x2,_,_,_,_,_,_,hA⟩:=hA
  exact LK (ps:=ps) (i:=i+1) hn hA hB ny hp
 | .x n::ps,args,xs,bs,i,a,ts,hA,hB,ny,hp=>by
  obtain⟨c,fu,bx,ag,zi,aiT,Uf,x1,x2,_,rfl,_,_,_,_,_,_,hA⟩:=hA
  obtain⟨b,b9,elem,t1,t2,hb,iq,hh,rfl,hl,hd,hB⟩:=hB
  obtain⟨q1,q2⟩:=hp i bx (by simp[ib])
  rw[hb]at q1
  cases q1
  obtain⟨g1,g2⟩:=LK hn (a:=a+n) hA hB (λj t hj=>by
   have:=ny (n+j) t (by rw[List.getElem?_append_right (by omega)];rw[hl];simpa using hj)
   rw[<-this];congr 1;omega) (λj bx hj=>hp j bx (by simp[ib,hj]))
  obtain⟨g3,g4⟩:=F9 (a:=a) (G:=G2) (w:=w') hl (hd.bm (Nat.le_refl _) λb _ hb=>⟨hn b hb,rfl⟩) (λj t hj=>ny j t (by rw[List.getElem?_append_left (List.getElem?_eq_some_iff.1 hj).1];exact hj))
  refine⟨by simp[uW,hl,g1],λr u rv=>?_⟩
  simp only[ux,List.mem_cons,Prod.mk.injEq]at rv
  rcases rv with⟨rfl,rfl⟩|rv
  ·exact⟨i,bx,by simp[ib],rfl,⟨q2,b9,elem,hh,g3⟩,g4⟩
  ·obtain⟨j,xY,e1,e2⟩:=g2 r u rv
   exact⟨j,xY,by simp[ib,e1],e2⟩
end
def fX(P:Program)(g:FuncId):Prop:=∃fn,P.funcs[g]?=some fn∧(fn.name== "runtime.NumGoroutine")=false∧fn.body.isNone=false
theorem Ug{P:Program}{w:World}{g:FuncId}(h:fX P g)(args:Array Value):(callFunc g args).run P w=.ok (.enter g args) w:=by
 obtain⟨fn,h1,h2,h3⟩:=h
 simp only[callFunc,Sem.run_bind,run_program,Result.andThen_ok,h1,h2,h3,dh,if_false,Sem.run_pure]
section
variable {M:Nat->Prop} {B:e_} {d:Nat} {up:Nat->Nat->Value} {ρ:List T} {G:Gh} {a:Act} {w:World} {S:Nat->af} {P:Program}
variable {cx:Cx} {cJ fA oi:Nat} {s:St} {R:List bE} {ct:Ct} {k':Wk} {o:Oper} {Q:Exit->Act->World->Prop}
theorem LL:∀{l:List Nat},wv l=true->l.Nodup
 | [],_=>List.nodup_nil
 |x::xs,h=>by
  simp only[wv,bD,Bool.not_eq_true']at h
  refine List.nodup_cons.2 ⟨λhm=>?_,LL h.2⟩
  have:=h.1
  rw[List.any_eq_false]at this
  exact this x hm (by simp)
theorem BZ:∀{ps:List PS} {bs:List (Nat×Bool×Nat)} {i j bx:Nat},(j,bx)∈ib i ps bs->i<=j∧j<i+ps.length
 | [],bs,i,j,bx,h=>by simp[ib]at h
 | .v _ _::ps,bs,i,j,bx,h=>by have:=BZ (show(j,bx)∈ib (i+1) ps bs from h);simp only[List.length_cons];omega
 | .x _::ps,[],i,j,bx,h=>by simp[ib]at h
 | .x _::ps,b::bs,i,j,bx,h=>by
  simp only[ib,List.mem_cons,Prod.mk.injEq]at h
  simp only[List.length_cons]
  rcases h with⟨rfl,_⟩|h
  ·omega
  ·have:=BZ h;omega
theorem B0:∀{ps:List PS} {bs:List (Nat×Bool×Nat)} {i j bx:Nat},(j,bx)∈ib i ps bs->bx∈bs.map (·.1)
 | [],bs,i,j,bx,h=>by simp[ib]at h
 | .v _ _::ps,bs,i,j,bx,h=>B0 (show(j,bx)∈ib (i+1) ps bs from h)
 | .x _::ps,[],i,j,bx,h=>by simp[ib]at h
 | .x _::ps,b::bs,i,j,bx,h=>by
  simp only[ib,List.mem_cons,Prod.mk.injEq]at h
  rcases h with⟨_,rfl⟩|h
  ·simp
  ·have:=B0 h;simp only[List.map_cons,List.mem_cons];exact .inr this
theorem LM:∀{ps:List PS} {bs:List (Nat×Bool×Nat)} {i:Nat},(bs.map (·.1)).Nodup->
  (∀j bx xY,(j,bx)∈ib i ps bs->(j,xY)∈ib i ps bs->bx=xY)∧(∀j j' bx,(j,bx)∈ib i ps bs->(j',bx)∈ib i ps bs->j=j')
 | [],bs,i,_=>⟨λ_ _ _ h=>by simp[ib]at h,λ_ _ _ h=>by simp[ib]at h⟩
 | .v _ _::ps,bs,i,hn=>LM (ps:=ps) (i:=i+1) hn
 | .x _::ps,[],i,_=>⟨λ_ _ _ h=>by simp[ib]at h,λ_ _ _ h=>by simp[ib]at h⟩
 | .x _::ps,b::bs,i,hn=>by
  simp only[List.map_cons,List.nodup_cons]at hn
  obtain⟨g1,g2⟩:=LM (ps:=ps) (i:=i+1) hn.2
  constructor
  ·intro j bx xY h h'
   simp only[ib,List.mem_cons,Prod.mk.injEq]at h h'
   rcases h with⟨rfl,rfl⟩|h<;>rcases h' with⟨h1,rfl⟩|h'
   ·rfl
   ·have:=BZ h';omega
   ·have:=BZ h;omega
   ·exact g1 j bx xY h h'
  ·intro j j' bx h h'
   simp only[ib,List.mem_cons,Prod.mk.injEq]at h h'
   rcases h with⟨rfl,rfl⟩|h<;>rcases h' with⟨h1,h2⟩|h'
   ·exact h1.symm
   ·exact absurd (B0 h') hn.1
   ·subst h2;exact absurd (B0 h) hn.1
   ·exact g2 j j' bx h h'
def uX(β:Nat->Nat)(pr:List (Nat×Nat))(j:Nat):Option Nat:=(pr.find? λp=>p.1==j).map λp=>β p.2
def zp(pr:List (Nat×Nat))(bx:Nat):Option Nat:=(pr.find? λp=>p.2==bx).map (·.1)
theorem B1{β:Nat->Nat}{pr:List (Nat×Nat)}{j b:Nat}(h:uX β pr j=some b):∃bx,(j,bx)∈pr∧b=β bx:=by
 unfold uX at h
 cases hf:pr.find? (λp=>p.1==j)with
 |none=>simp[hf]at h
 |some p=>
  simp[hf]at h
  have h1:=List.mem_of_find?_eq_some hf
  have h2:=List.find?_some hf
  simp at h2
  exact⟨p.2,by rw[<-h2];exact h1,h.symm⟩
theorem aiU{β:Nat->Nat}{pr:List (Nat×Nat)}{j bx:Nat}(hi:∀j bx xY,(j,bx)∈pr->(j,xY)∈pr->bx=xY)(h:(j,bx)∈pr):uX β pr j=some (β bx):=by
 cases hf:uX β pr j with
 |none=>
  unfold uX at hf
  simp only[Option.map_eq_none_iff,List.find?_eq_none]at hf
  exact absurd (by simp) (hf _ h)
 |some b=>
  obtain⟨xY,h1,rfl⟩:=B1 hf
  rw[hi j bx xY h h1]
theorem Uh{pr:List (Nat×Nat)}{bx j:Nat}(h:zp pr bx=some j):(j,bx)∈pr:=by
 unfold zp at h
 cases hf:pr.find? (λp=>p.2==bx)with
 |none=>simp[hf]at h
 |some p=>
  simp[hf]at h
  have h1:=List.mem_of_find?_eq_some hf
  have h2:=List.find?_some hf
  simp at h2
  rw[<-h,<-h2];exact h1
theorem aiV{pr:List (Nat×Nat)}{j bx:Nat}(hi:∀j j' bx,(j,bx)∈pr->(j',bx)∈pr->j=j')(h:(j,bx)∈pr):zp pr bx=some j:=by
 cases hf:zp pr bx with
 |none=>
  unfold zp at hf
  simp only[Option.map_eq_none_iff,List.find?_eq_none]at hf
  exact absurd (by simp) (hf _ h)
 |some j'=>rw[hi j j' bx h (Uh hf)]
theorem qx{G:Gh}{b bx:Nat}(h:G.ω b=some (.x bx)):G.q b=some (.x bx):=Be h rfl
def t_(pl:Bool)(G:Gh)(pr:List (Nat×Nat))(b:Nat):Option Lb:=
 match G.q b with
 |none=>none
 |some .f=>some .f
 |some (.o _ _)=>if pl then some .f else none
 |some (.x bx)=>if b=G.β bx then(match zp pr bx with|some j=>some (.x j)|none=>some .f)else some .f
theorem aiW{pl:Bool}{pr:List (Nat×Nat)}{b:Nat}(h:(if pl then G.q b else er G.ω b)=none):t_ pl G pr b=none:=by
 unfold t_
 cases hg:G.q b with
 |none=>rfl
 |some l=>
  cases pl with
  |true=>simp[hg]at h
  |false=>
   have S9:=KQ hg
   cases l<;>simp[er,S9]at h⊢
theorem LN{pl:Bool}{ωc:Nat->Option Lb}{bl:Nat->Option Nat}(iq:∀b,(if pl then G.q b else er G.ω b)=none->ωc b=none):
  ∀{ps:List PS} {args:List Value} {xs:List Lf} {bs:List (Nat×Bool×Nat)} {i:Nat},uU G w ρ pl ps args xs bs->(∀j bx,(j,bx)∈ib i ps bs->bl j=some (G.β bx)∧ωc (G.β bx)=some (.x j))->
   zo ωc w bl i ps args (xs.map (Lf.ev ρ))∧∀j bx,(j,bx)∈ib i ps bs->G.ω (G.β bx)=some (.x bx)
 | [],args,xs,bs,i,h,_=>by
  obtain⟨rfl,rfl,rfl⟩:=h
  exact⟨⟨rfl,rfl⟩,λj bx h=>by simp[ib]at h⟩
 | .v ag n::ps,args,xs,bs,i,h,hp=>by
  obtain⟨c,fu,vs,x1,x2,rfl,rfl,hl,od,fR,pR,h⟩:=h
  obtain⟨g1,g2⟩:=LN iq h (i:=i+1) hp
  refine⟨⟨c,fu,vs,_,_,rfl,List.map_append,by rw[List.length_map];exact hl,od,?_,g1⟩,g2⟩
  cases pl with
  |true=>exact(pR rfl).bm (Nat.le_refl _) λb _ hb=>⟨iq b (by simpa using hb),rfl⟩
  |false=>exact fR.bm (Nat.le_refl _) λb _ hb=>⟨iq b (by simpa using hb),rfl⟩
 | .x n::ps,args,xs,bs,i,h,hp=>by
  obtain⟨c,fu,bx,ag,zi,b9,elem,x1,x2,rfl,rfl,hc,hb,hh,rfl,hl,hd,h⟩:=h
  obtain⟨g1,g2⟩:=LN iq h (i:=i+1) λj bx hj=>hp j bx (by simp[ib,hj])
  obtain⟨q1,q2⟩:=hp i bx (by simp[ib])
  refine⟨⟨c,fu,G.β bx,b9,elem,_,_,rfl,hc,q1,q2,hh,List.map_append,by rw[List.length_map];exact hl,?_,g1⟩,λj xY hj=>?_⟩
  ·refine hd.bm (Nat.le_refl _) λb _ jU=>⟨iq b ?_,rfl⟩
   cases pl with
   |true=>simpa using jU
   |false=>simpa using SS jU
  ·simp only[ib,List.mem_cons,Prod.mk.injEq]at hj
   rcases hj with⟨_,rfl⟩|hj
   ·exact hb
   ·exact g2 j xY hj
theorem LO{pl:Bool}:∀{ps:List PS} {args:List Value} {xs:List Lf} {bs:List (Nat×Bool×Nat)} {i:Nat},uU G w ρ pl ps args xs bs->∀j bx,(j,bx)∈ib i ps bs->G.ω (G.β bx)=some (.x bx)
 | [],args,xs,bs,i,h,j,bx,hj=>by simp[ib]at hj
 | .v ag n::ps,args,xs,bs,i,h,j,bx,hj=>by
  obtain⟨c,fu,vs,x1,x2,rfl,rfl,hl,od,fR,pR,h⟩:=h
  exact LO (ps:=ps) (i:=i+1) h j bx hj
 | .x n::ps,args,xs,bs,i,h,j,bx,hj=>by
  obtain⟨c,fu,xY,ag,zi,b9,elem,x1,x2,rfl,rfl,hc,hb,hh,rfl,hl,hd,h⟩:=h
  simp only[ib,List.mem_cons,Prod.mk.injEq]at hj
  rcases hj with⟨_,rfl⟩|hj
  ·exact hb
  ·exact LO (ps:=ps) (i:=i+1) h j bx hj
def Gh.call(G G':Gh)(sz:Nat)(rn:nr):Gh where
 ω:=λb=>if b<sz then G.ω b else match G'.ω b with
  |some (.o id p)=>(nE rn id).map λj=>.o j p
  |_=>none
 β:=G.β
 H:=λj=>match n9 rn j with
  |some (some id)=>G'.H id
  |some none=>λ_=>.slice none 0 0
  |none=>G.H j
 hs:=λj p=>by
  rcases hr:n9 rn j with _|(_|id)
  ·exact G.hs j p
  ·exact⟨_,_,_,rfl⟩
  ·exact G'.hs _ p
theorem Ui{sg:nZ}(h:qj sg=false):(∀k∈mR sg.rs,kP k=false)∧∀p∈sg.ps,∀n,p≠.x n:=by
 simp only[qj,Bool.or_eq_false_iff]at h
 obtain⟨h1,h2⟩:=h
 constructor
 ·generalize sg.rs=rs at h1
  induction rs with
  |nil=>intro k hk;simp[mR]at hk
  |cons r rs ih=>
   simp only[List.any_cons,Bool.or_eq_false_iff]at h1
   intro k hk
   simp only[mR,List.mem_append]at hk
   rcases hk with hk|hk
   ·have:=List.any_eq_false.1 h1.1 k hk
    cases k with
    |s=>rfl
    |p=>simp at this
    |o dp=>cases dp<;>simp at this⊢;rfl
   ·exact ih h1.2 k hk
 ·intro p hp n he
  subst he
  have:=List.any_eq_false.1 h2 _ hp
  simp at this
theorem Uj{pl:Bool}:∀{ps:List PS} {args:List Value} {xs:List Lf} {bs:List (Nat×Bool×Nat)},(∀p∈ps,∀n,p≠.x n)->uU G w ρ pl ps args xs bs->bs=[]
 | [],_,_,_,_,h=>h.2.2
 | .v _ _::ps,args,xs,bs,hp,h=>by
  obtain⟨c,fu,vs,x1,x2,_,_,_,_,_,_,h⟩:=h
  exact Uj (λp s8=>hp p (by simp[s8])) h
 | .x n::ps,args,xs,bs,hp,h=>absurd rfl (hp (.x n) (by simp) n)
theorem LP{pl:Bool}{G':Gh}{w':World}{bl:Nat->Option Nat}:∀{ps:List PS} {args:List Value} {xs:List Lf} {bs:List (Nat×Bool×Nat)} {i:Nat} {ts:List T},uU G w ρ pl ps args xs bs->iH G' w' bl i ps ts->ts.length=uW bs
 | [],args,xs,bs,i,ts,hA,hB=>by
  obtain⟨_,_,rfl⟩:=hA
  cases hB
  rfl
 | .v _ _::ps,args,xs,bs,i,ts,hA,hB=>by
  obtain⟨c,fu,vs,x1,x2,_,_,_,_,_,_,hA⟩:=hA
  exact LP (ps:=ps) (i:=i+1) hA hB
 | .x n::ps,args,xs,bs,i,ts,hA,hB=>by
  obtain⟨c,fu,bx,ag,zi,aiT,Uf,x1,x2,_,rfl,_,_,_,_,_,_,hA⟩:=hA
  obtain⟨b,b9,elem,t1,t2,hb,iq,hh,rfl,hl,hd,hB⟩:=hB
  have:=LP hA hB
  simp[uW,hl,this]
theorem F_:∀(ks:List Ck) (ct:Ct),(fV ct ks).1.a=ct.a+ks.length
 | [],ct=>rfl
 | .o dp::ks,ct=>by simp only[fV,F_ ks,List.length_cons];omega
 | .s::ks,ct=>by simp only[fV,F_ ks,List.length_cons];omega
 | .p::ks,ct=>by simp only[fV,F_ ks,List.length_cons];omega
theorem Uk:∀{bs:List (Nat×Bool×Nat)} {a bx:Nat},bx∈bs.map (·.1)->(ux a bs).2.look (.x bx)≠none
 | [],a,bx,h=>by simp at h
 |b::bs,a,bx,h=>by
  obtain⟨b0,ag,n⟩:=b
  simp only[ux,St.look]
  cases hb:(bE.x b0).beq (.x bx)with
  |true=>simp
  |false=>
   simp only[List.map_cons,List.mem_cons]at h
   rcases h with rfl|h
   ·simp[bE.beq]at hb
   ·exact Uk h
theorem aiY{G':Gh}{w':World}{rs:List (Bool×List Ck)}{v:Value}{ts:List T}{is:List (Option Nat)}(h:LH G' w' rs v ts is):∃vs:List Value,jj G' w' rs vs ts is∧
  ∀(G2:Gh) (w2:World) (ct:Ct),gK G2 w2 ρ (oz ct rs).2.1 vs->cK G2 w2 ρ (uy (oz ct rs).2.1) v:=by
 match rs,h with
 | [],h=>obtain⟨rfl,rfl⟩:=h;exact⟨[],trivial,λ_ _ _ _=>trivial⟩
 | [r],h=>exact⟨[v],h,λG2 w2 ct hr=>hr.1⟩
 |r::r'::rs,h=>
  obtain⟨vs,hv,h'⟩:=h
  exact⟨vs,h',λG2 w2 ct hr=>⟨vs,hv,hr⟩⟩
theorem Ul:∀(rs:List (Bool×List Ck)) (ct:Ct),sK (oz ct rs).2.1=dV (fV ct (mR rs)).2.1
 | [],ct=>rfl
 |r::rs,ct=>by
  simp only[oz,mR,RG,sK,K6]
  rw[Ul rs]
theorem aiZ(vs:List (Bool×List Ce)):∀i∈dA (uy vs),i∈sK vs:=by
 intro i hi
 match vs,hi with
 | [],hi=>simp[uy,dA]at hi
 | [v],hi=>simpa[uy,dA,sK]using hi
 |v::v'::vs,hi=>exact hi
theorem ai0(h:Rel M B d up s ρ G a w)(hn:∀n,o.dst=some n->n<a.tmps.size){c:Call}{g:Nat}(ho:o.op=.call c)(hc:c.callee=.value (.func g))(hg:fX P g)
  {sg:nZ}(hsg:cx.sg g=some sg)(hC:F6 P sg g (S g))(hk:jf cx cJ fA d o oi ⟨s.only R,[],ct,[]⟩=some k')(hd:k'.bJ S ρ)(hM:∀i,ct.i<=i->i<k'.ct.i->¬M i):
  bV P (Mn M ct.i k'.ct.i) B d up ρ a w s o k'.w Q:=by
 have hw:=dD.start h R ct
 simp only[jf,ho,hc,hsg,Option.bind_some]at hk
 unfold SI at hk
 simp only[cN]at hk
 obtain⟨k1,zj,⟨k2,xs,bs⟩,fD,hk⟩:=hk
 cases EJ:wv (bs.map (·.1))with
 |false=>simp[EJ]at hk
 |true=>
  simp only[EJ,cond_true,bG]at hk
  have ai1:=LL EJ
  have LQ:∀G1,iI G G1->db G1 w ρ (c.args.toList.map λx=>cn d (Wk.get ⟨s.only R,[],ct,[]⟩) x) (c.args.toList.map a.eval):=by
   intro G1 hl
   generalize c.args.toList=l
   induction l with
   |nil=>trivial
   |cons x l ih=>exact⟨(hw.iV x).1.bm (hl.bm w) λ_ _ hf=>hf,ih⟩
  obtain⟨pl,FO⟩:∃pl,pl=qj sg:=⟨_,rfl⟩
  obtain⟨G1,w1,l1,i1,tX,hD1⟩:∃G1,dD M B d up ρ G a w k1 G1∧iI G G1∧k1.ct=ct∧(pl=true->Bv k1 (wu (c.args.toList.map λx=>cn d (Wk.get ⟨s.only R,[],ct,[]⟩) x)))∧k1.is=[]:=by
   cases hp:qj sg with
   |false=>
    rw[hp]at zj
    simp only[cond_false,bG]at zj
    subst zj
    exact⟨G,hw,.refl _,rfl,(λhe=>by rw[FO,hp]at he;cases he),rfl⟩
   |true=>
    rw[hp]at zj
    simp only[cond_true]at zj
    obtain⟨G1,q1,q2⟩:=hw.oF zj
    obtain⟨_,_,_,_,q3,q4,q5,_⟩:=hw.eK zj
    exact⟨G1,q1,q2,q3,λ_=>q5,q4⟩
  have T_:bJ S ρ k'.ct.a k'.is:=hd
  rw[<-hk]at T_
  simp only at T_
  obtain⟨n0,outs,e1,hS,bI,pR⟩:=T_
  obtain⟨f1,f2⟩:=Ub sg.rs k2.ct
  have hma:k2.ct.a<=(oz k2.ct sg.rs).1.a:=by
   have key:∀(ks:List Ck) (ct:Ct),ct.a<=(fV ct ks).1.a:=by
    intro ks
    induction ks with
    |nil=>intro ct;exact Nat.le_refl _
    |cons k ks ih=>
     intro ct
     cases k with
     |s=>have:=ih ⟨ct.a+1,ct.i⟩;simp only[fV]at this⊢;omega
     |p=>have:=ih ⟨ct.a+1,ct.i⟩;simp only[fV]at this⊢;omega
     |o dp=>have:=ih ⟨ct.a+1,n8 ct.i+1⟩;simp only[fV]at this⊢;omega
   rw[f1];exact key _ _
  have hba:=Ue bs (oz k2.ct sg.rs).1.a
  have Br:n0=k2.ct.a:=by omega
  subst Br
  have ai2:k2.bJ S ρ:=pR
  obtain⟨_,i2,G2,w2,l2,hA⟩:=LI (pl:=pl) w1 (LQ G1 l1) tX fD ai2
  have hA:=hA G2 (.refl _)
  have hlG:iI G G2:=l1.trans l2
  have ua:=LM (ps:=sg.ps) (i:=0) ai1
  have hx:=LO (i:=0) hA
  have vW:∀j bx,(j,bx)∈ib 0 sg.ps bs->uX G2.β (ib 0 sg.ps bs) j=some (G2.β bx)∧t_ pl G2 (ib 0 sg.ps bs) (G2.β bx)=some (.x j):=by
   intro j bx hj
   refine⟨aiU ua.1 hj,?_⟩
   simp only[t_,qx (hx j bx hj),if_true,aiV ua.2 hj]
  obtain⟨km,_⟩:=LN (w:=w) (λb hb=>aiW (pr:=ib 0 sg.ps bs) hb) hA vW
  have cf:xX sg (t_ pl G2 (ib 0 sg.ps bs)) (uX G2.β (ib 0 sg.ps bs)) w:=by
   constructor
   ·intro b l hb
    cases oG:G2.q b with
    |none=>simp[t_,oG]at hb
    |some l0=>
     refine⟨(w2.rel.iG b l0 (KQ oG)).2,?_⟩
     cases l0 with
     |f=>simp[t_,oG]at hb;exact .inl hb.symm
     |o i p=>cases pl<;>simp[t_,oG]at hb;exact .inl hb.symm
     |x bx=>
      simp only[t_,oG]at hb
      split at hb
      ·rename_i Az
       split at hb
       ·rename_i j hj
        cases hb
        exact .inr ⟨j,rfl,by rw[Az];exact(vW j bx (Uh hj)).1⟩
       ·cases hb;exact .inl rfl
      ·cases hb;exact .inl rfl
   ·intro i b hb
    obtain⟨bx,h1,rfl⟩:=B1 hb
    exact⟨by have:=BZ h1;omega,(vW i bx h1).2⟩
   ·intro x hx
    obtain⟨h1,h2,h3⟩:=w2.rel.base.agV x hx
    exact⟨h1,by simp[t_,show G2.q x.1=none from Bd h2],h3⟩
  have qJ:=hC w _ _ (c.args.toList.map a.eval) _ outs hS cf km
  have iN:(execOp a.eval o).run P w=.ok (.enter g (c.args.toList.map a.eval).toArray) w:=by
   unfold execOp
   rw[ho]
   show Sem.run P (do let d <-resolve a.eval c o.type;invoke d.target d.args) w=_
   simp only[resolve,hc,Act.eval,Deferred.ofValue,pure_bind,invoke]
   rw[Ug hg]
   congr 2
   exact Array.ext' (by simp)
  simp only[bV,Oper.wp,iN,Oper.upon]
  refine qJ.mono ?_
  rintro e w' ⟨v,G',is,o1,o2,rfl,gX⟩
  simp only
  let ks:=mR sg.rs
  obtain⟨rn,hrn⟩:∃rn,rn=lc k2.ct.i ks is:=⟨_,rfl⟩
  let GG:=G2.call G' w.heap.size rn
  have hold:∀b,b<w.heap.size->GG.ω b=G2.ω b:=λb hb=>by show(if b<w.heap.size then _ else _)=_;rw[if_pos hb]
  have B3:∀b,¬b<w.heap.size->GG.ω b=match G'.ω b with|some (.o id p)=>(nE rn id).map λj=>.o j p|_=>none:=λb hb=>by show(if b<w.heap.size then _ else _)=_;rw[if_neg hb]
  have ai3:∀b,G2.q b=none->t_ pl G2 (ib 0 sg.ps bs) b=none:=λb hb=>by simp[t_,hb]
  have qH:∀j bx,(j,bx)∈ib 0 sg.ps bs->G'.ω (G2.β bx)=some (.x j):=by
   intro j bx hj
   have key:∀{ps:List PS} {i0:Nat} {ts:List T} {zi:List (Nat×Bool×Nat)},iH G' w' (uX G2.β (ib 0 sg.ps bs)) i0 ps ts->(j,bx)∈ib i0 ps zi->G'.ω (G2.β bx)=some (.x j):=by
    intro ps
    induction ps with
    |nil=>intro i0 ts zi _ hm;simp[ib]at hm
    |cons p ps ih=>
     intro i0 ts zi hB hm
     cases p with
     |v ag n=>exact ih (i0:=i0+1) hB hm
     |x n=>
      obtain⟨b',b9,elem,t1,t2,jU,ai4,hh',_,_,_,hB⟩:=hB
      cases zi with
      |nil=>simp[ib]at hm
      |cons b0 bs0=>
       simp only[ib,List.mem_cons,Prod.mk.injEq]at hm
       rcases hm with⟨rfl,_⟩|hm
       ·rw[(vW j bx hj).1]at jU;cases jU;exact ai4
       ·exact ih hB hm
   exact key gX.box hj
  have LR:∀b,b<w.heap.size->∀i p,G'.ω b≠some (.o i p):=by
   intro b hb i p hi
   cases pC:t_ pl G2 (ib 0 sg.ps bs) b with
   |none=>have:=(gX.free b hb pC).1;rw[hi]at this;cases this
   |some l=>
    rcases(cf.iG b l pC).2 with rfl|⟨j,rfl,hj⟩
    ·have:=(gX.Ev b pC).1;rw[hi]at this;cases this
    ·obtain⟨bx,h1,rfl⟩:=B1 hj
     rw[qH j bx h1]at hi;cases hi
  have dj:pl=true->∀b,G'.q b=none->GG.q b=none:=by
   intro hp b hb
   replace hb:=gX.qq (by rw[<-FO];exact hp) b hb
   by_cases bf:b<w.heap.size
   ·rw[Gh.wM (hold b bf)]
    cases pC:t_ pl G2 (ib 0 sg.ps bs) b with
    |none=>
     cases oG:G2.q b with
     |none=>rfl
     |some l=>
      exfalso
      cases l with
      |f=>simp[t_,oG]at pC
      |o i p=>simp[t_,oG,hp]at pC
      |x bx=>
       simp only[t_,oG]at pC
       split at pC
       ·split at pC<;>cases pC
       ·cases pC
    |some l=>
     exfalso
     rcases(cf.iG b l pC).2 with rfl|⟨j,rfl,hj⟩
     ·have:=(gX.Ev b pC).1;rw[hb]at this;cases this
     ·obtain⟨bx,h1,rfl⟩:=B1 hj
      rw[qH j bx h1]at hb;cases hb
   ·exact Bd (by rw[B3 b bf,hb])
  obtain⟨vs,pU,ai5⟩:=aiY (ρ:=ρ) gX.ret
  obtain⟨us,TY,htp⟩:=Ud (ρ:=ρ) pU
  have SW:=b_.len TY
  have p_:(oz k2.ct sg.rs).1.a=k2.ct.a+o1.length:=by rw[f1,F_,SW.2.1]
  have uH:o2.length=uW bs:=LP hA gX.box
  have hm:(ux (oz k2.ct sg.rs).1.a bs).1-k2.ct.a=o1.length+o2.length:=by omega
  have ai6:∀j t,o1[j]?=some t->ρ[k2.ct.a+j]?=some t:=by
   intro j t hj
   have bf:=(List.getElem?_eq_some_iff.1 hj).1
   rw[bI j (by omega),gX.outs,List.getD_eq_getElem?_getD,List.getElem?_append_left bf,hj]
   rfl
  have ai7:∀j t,o2[j]?=some t->ρ[(oz k2.ct sg.rs).1.a+j]?=some t:=by
   intro j t hj
   have bf:=(List.getElem?_eq_some_iff.1 hj).1
   have:=bI (o1.length+j) (by omega)
   rw[p_,Nat.add_assoc,this,gX.outs,List.getD_eq_getElem?_getD,List.getElem?_append_right (by omega),show o1.length+j-o1.length=j by omega,hj]
   rfl
  obtain⟨r1,r2,r3,r4,r5,r6⟩:=BX (G2:=GG) (rn:=rn) (w':=w') (ρ:=ρ) (λj x hj=>by show(match n9 rn j with|some (some id)=>G'.H id|some none=>_|none=>G2.H j)=_;rw[hj];cases x<;>rfl)
   (λj id hj c r hcr=>by
    have bf:¬c<w.heap.size:=λbf=>LR c bf _ _ hcr
    rw[B3 c bf,hcr];simp only[hj,Option.map_some]) TY (ct:=k2.ct) ai6
   (λk hk hkp=>dj (by
    rw[FO]
    cases hh:qj sg with
    |true=>rfl
    |false=>have:=(Ui hh).1 k hk;rw[hkp]at this;cases this)) (λj x hj=>by rw[hrn];exact F8 hj) (λj id hj=>by rw[hrn];exact BW gX.nodup hj)
  have vR:∀r u,(r,u)∈(ux (oz k2.ct sg.rs).1.a bs).2->∃j bx,(j,bx)∈ib 0 sg.ps bs∧r=.x bx∧gk GG w' ρ bx u∧dA u=[]:=by
   cases hp:qj sg with
   |false=>
    have Tg:bs=[]:=Uj (Ui hp).2 hA
    subst Tg
    intro r u rv
    simp[ux]at rv
   |true=>
    refine(LK (dj (by rw[FO,hp])) hA gX.box ai7 λj bx hj=>?_).2
    have bf:=(w2.rel.iG _ _ (hx j bx hj)).2
    exact⟨(vW j bx hj).1,by show GG.ω (G2.β bx)=_;rw[hold _ bf];exact hx j bx hj⟩
  have kY:k2.ct.i=ct.i:=by rw[i2,i1]
  have hki:k'.ct.i=(fV k2.ct ks).1.i:=by rw[<-hk];show(oz k2.ct sg.rs).1.i=_;rw[f1]
  have hW:k'.w=(fN d o (uy (oz k2.ct sg.rs).2.1)++((fV k2.ct ks).2.2++(ux (oz k2.ct sg.rs).1.a bs).2))++k2.w:=by
   rw[<-hk]
   show(_++((oz k2.ct sg.rs).2.2++_))++_=_
   rw[f2];rfl
  have hN:∀i,ct.i<=i->i<k'.ct.i->¬M i:=hM
  have hK:dF (pk (fN d o (uy (oz k2.ct sg.rs).2.1)++((fV k2.ct ks).2.2++(ux (oz k2.ct sg.rs).1.a bs).2))) (λi=>ct.i<=i∧i<k'.ct.i) G2 w GG w':=by
   refine⟨gX.size,λb hb h0=>⟨by rw[Gh.wM (hold b hb)];exact h0,(gX.free b hb (ai3 b h0)).2⟩,λb hb h0=>by rw[hold b hb];exact h0,λb l hb hl=>?_,λi hi=>⟨rfl,?_⟩⟩
   ·have bf:=(w2.rel.iG b l hb).2
    refine⟨by rw[hold b bf];exact hb,?_⟩
    cases pC:t_ pl G2 (ib 0 sg.ps bs) b with
    |none=>exact(gX.free b bf pC).2
    |some l'=>
     rcases(cf.iG b l' pC).2 with rfl|⟨j,rfl,hj⟩
     ·exact(gX.Ev b pC).2
     ·exfalso
      obtain⟨bx,h1,rfl⟩:=B1 hj
      rw[hx j bx h1]at hb
      cases hb
      refine hl ?_
      show St.look _ (bE.x bx)≠none
      rw[mG,mG]
      intro e
      have e1:=(Option.or_eq_none_iff.1 (Option.or_eq_none_iff.1 e).2).2
      exact Uk (B0 h1) e1
   ·intro p _
    refine congrFun (?_:(match n9 rn i with|some (some id)=>G'.H id|some none=>λ_=>.slice none 0 0|none=>G2.H i)=G2.H i) p
    cases s9:n9 rn i with
    |none=>rfl
    |some x=>
     have iX:=RF s9
     rw[hrn]at iX
     exact absurd ⟨by rw[<-kY];exact(LJ iX).1,by rw[hki];exact r5 i x iX⟩ hi
  rw[hW]
  refine⟨GG,K_ h w2 (λr=>mG _ _ r) hK (λi hi=>hN i hi.1 hi.2) (λi hi=>.inl hi) (λn pA=>Lc pA) gX.so ?_,Bj _ _ _⟩
  have bU:∀r u,(r,u)∈(fV k2.ct ks).2.2->∃j,r=.o j∧ct.i<=j∧j<k'.ct.i∧cL GG w' ρ j u∧dA u=[]:=by
   intro r u rv
   obtain⟨j,g1,g2,g3,g4⟩:=r6 r u rv
   exact⟨j,g1,by rw[<-kY];exact g2,by rw[hki];exact g3,g4⟩
  have hmb:∀j bx,(j,bx)∈ib 0 sg.ps bs->M bx:=λj bx hj=>(w2.rel.iG _ _ (hx j bx hj)).1
  have qK:∀r u,St.look ((fV k2.ct ks).2.2++(ux (oz k2.ct sg.rs).1.a bs).2) r=some u->(r,u)∈(fV k2.ct ks).2.2∨(r,u)∈(ux (oz k2.ct sg.rs).1.a bs).2:=
   λr u hl=>List.mem_append.1 (F7 hl)
  refine⟨λe n u he hl=>?_,λb u hl=>?_,λi u hl=>?_,λr u hl i hi=>?_,λi hi=>?_,λb l hb=>?_⟩
  ·rcases lK hl with⟨n',iW,e1,rfl⟩|hl
   ·cases e1
    rw[iW,SR (hn _ iW)]
    exact ai5 GG w' k2.ct (htp GG w' k2.ct r1)
   ·rcases qK _ _ hl with hm|hm
    ·obtain⟨j,e1,_⟩:=bU _ _ hm;cases e1
    ·obtain⟨j,bx,_,e1,_⟩:=vR _ _ hm;cases e1
  ·rcases lK hl with⟨n',iW,e1,rfl⟩|hl
   ·cases e1
   ·rcases qK _ _ hl with hm|hm
    ·obtain⟨j,e1,_⟩:=bU _ _ hm;cases e1
    ·obtain⟨j,bx,_,e1,e2,_⟩:=vR _ _ hm;cases e1;exact e2
  ·rcases lK hl with⟨n',iW,e1,rfl⟩|hl
   ·cases e1
   ·rcases qK _ _ hl with hm|hm
    ·obtain⟨j,e1,_,_,e2,_⟩:=bU _ _ hm;cases e1;exact e2
    ·obtain⟨j,bx,_,e1,_⟩:=vR _ _ hm;cases e1
  ·rcases lK hl with⟨n',iW,e1,rfl⟩|hl
   ·have:=aiZ _ i hi
    rw[Ul]at this
    have:=r4 i this
    exact .inr ⟨by omega,by rw[hki];exact this.2⟩
   ·rcases qK _ _ hl with hm|hm
    ·obtain⟨j,_,_,_,_,e2⟩:=bU _ _ hm;rw[e2]at hi;cases hi
    ·obtain⟨j,bx,_,_,_,e2⟩:=vR _ _ hm;rw[e2]at hi;cases hi
  ·have:∀r:bE,(r=.x i∨r=.o i)->St.look (fN d o (uy (oz k2.ct sg.rs).2.1)++((fV k2.ct ks).2.2++(ux (oz k2.ct sg.rs).1.a bs).2)) r≠none->Mn M ct.i k'.ct.i i:=by
    intro r hr hl
    obtain⟨u,hu⟩:=Option.ne_none_iff_exists'.1 hl
    rcases lK hu with⟨n',iW,e1,rfl⟩|hl
    ·rcases hr with rfl|rfl<;>cases e1
    ·rcases qK _ _ hl with hm|hm
     ·obtain⟨j,e1,g1,g2,_⟩:=bU _ _ hm
      rcases hr with rfl|rfl
      ·cases e1
      ·cases e1;exact .inr ⟨g1,g2⟩
     ·obtain⟨j,bx,hj,e1,_⟩:=vR _ _ hm
      rcases hr with rfl|rfl
      ·cases e1;exact .inl (hmb j _ hj)
      ·cases e1
   rcases hi with hi|hi
   ·exact this _ (.inl rfl) hi
   ·exact this _ (.inr rfl) hi
  ·by_cases bf:b<w.heap.size
   ·rw[hold b bf]at hb
    have:=w2.rel.iG b l hb
    exact⟨.inl this.1,by have:=gX.size;omega⟩
   ·rw[B3 b bf]at hb
    cases oG:G'.ω b with
    |none=>rw[oG]at hb;cases hb
    |some l'=>
     rw[oG]at hb
     cases l' with
     |f=>cases hb
     |x i=>cases hb
     |o i p=>
      simp only[Option.map_eq_some_iff]at hb
      obtain⟨j,hj,rfl⟩:=hb
      have iX:=RE hj
      rw[hrn]at iX
      exact⟨.inr ⟨by rw[<-kY];exact(LJ iX).1,by rw[hki];exact r5 j _ iX⟩,gX.iG b _ oG⟩
structure Env (P:Program) (cx:Cx) (S:Nat->af):Prop where
 ek:eL P cx
 fns:∀g sg,cx.sg g=some sg->fX P g∧F6 P sg g (S g)
 di:∀g fn,cx.fn g=some fn->P.funcs[g]?=some fn∧fX P g
theorem bV.quiet{W:St}(h:bV P M B d up ρ a w s o W Q∧k'.ct.i=ct.i):bV P (Mn M ct.i k'.ct.i) B d up ρ a w s o W Q:=h.1.mono λi hi=>.inl hi
theorem ai8(E:Env P cx S)(h:Rel M B d up s ρ G a w)(hn:∀n,o.dst=some n->n<a.tmps.size)
  (hk:jf cx cJ fA d o oi ⟨s.only R,[],ct,[]⟩=some k')(hd:k'.bJ S ρ)(hM:∀i,ct.i<=i->i<k'.ct.i->¬M i):bV P (Mn M ct.i k'.ct.i) B d up ρ a w s o k'.w Q:=by
 have hw:=dD.start h R ct
 cases eo:o.op with
 |move x=>exact bV.quiet (SZ h hn (.inl eo) hk)
 |assign x=>exact bV.quiet (SZ h hn (.inr eo) hk)
 |alloc t=>exact ahD E.ek h hn eo hk hM
 |box t x=>exact ahE E.ek h hn eo hk hM
 |build t ps=>exact bV.quiet (ahy E.ek h hn eo hk)
 |buildSlice t n ps=>exact aiA E.ek h hn eo hk hd hM
 |makeSlice t x y=>exact ahZ E.ek h hn eo hk hd hM
 |load t x=>
  simp only[jf,eo,cN,bG]at hk
  obtain⟨⟨k1,v⟩,hv,hk⟩:=hk
  split at hv
  ·rename_i r hT
   cases tX:cx.fz cJ fA oi with
   |false=>rw[tX]at hT;cases hT
   |true=>rw[tX]at hT;cases hv;exact aiO E.ek h hn eo hT hk hd hM
  ·exact bV.quiet (ahp E.ek h hn eo ⟨k1,v,hv,hk⟩ hd)
 |store t x y=>
  simp only[jf,eo,cN,bG]at hk
  obtain⟨k1,cf,hk⟩:=hk
  split at cf
  ·rename_i k2 hD
   cases cf
   cases tX:cx.fz cJ fA oi with
   |true=>rw[tX]at hD;cases hD
   |false=>rw[tX]at hD;exact bV.quiet (aiF E.ek h hn eo ⟨k1,hD,hk⟩ hd)
  ·exact bV.quiet (ahP E.ek h hn eo ⟨k1,cf,hk⟩ hd)
 |nilCheck x=>exact bV.quiet (ahk h hn eo hk)
 |binOp op t x y yt=>
  have Um:=hk
  simp only[jf,eo]at hk
  split at hk
  ·rename_i c e y8 FK;exact bV.quiet (ag9 E.ek h hn eo y8 FK Um hd)
  ·rename_i es bs y8 FK;exact bV.quiet (aiD E.ek h hn eo y8 FK Um hd)
  ·cases hk
 |unOp op t x=>exact bV.quiet (ahb h hn eo hk hd)
 |slice t x lo hi mx=>
  cases hT:(bif mx.isSome then none else A7 cx ⟨s.only R,[],ct,[]⟩ t (cn d (Wk.get ⟨s.only R,[],ct,[]⟩) x) (lo.map (cn d (Wk.get ⟨s.only R,[],ct,[]⟩))) (hi.map (cn d (Wk.get ⟨s.only R,[],ct,[]⟩))))with
  |none=>exact bV.quiet (ahS E.ek h hn eo hT hk hd)
  |some kv=>
   refine aiK E.ek h hn eo hT ?_ hd hM
   simp only[jf,eo]at hk
   rw[hT]at hk
   exact Option.some.inj hk
 |fieldAddr t x f=>exact bV.quiet (ahm E.ek h hn eo hk)
 |indexAddr t x y=>exact bV.quiet (ahv E.ek h hn eo hk hd)
 |index t x y=>
  simp only[jf,eo,cN]at hk
  obtain⟨ti,f_,⟨k1,y1⟩,h1,⟨k2,y2⟩,h2,hk⟩:=hk
  cases hc:Nat.beq ti.kd 2 with
  |false=>simp[hc]at hk
  |true=>
   simp only[hc,cond_true,bG]at hk
   have c_:ca d o (k2.em .idx [y1,y2]).1 (.v false [.p (k2.em .idx [y1,y2]).2])=k':=hk
   subst c_
   exact bV.quiet (ahj h hn eo E.ek f_ (ef hc) hw h1 h2 hd)
 |extract x i=>exact bV.quiet (ahl h hn eo hk)
 |makeFunc f first yN=>exact bV.quiet (ahF h hn eo hk)
 |call c=>
  have Um:=hk
  simp only[jf,eo]at hk
  split at hk
  ·rename_i x hc fD
   simp only[cN]at hk
   obtain⟨ti,f_,⟨k1,y⟩,h1,hk⟩:=hk
   cases h3:Nat.beq ti.kd 3 with
   |true=>
    simp only[h3,cond_true,bG]at hk
    have c_:ca d o (k1.em .len [y]).1 (.v false [.p (k1.em .len [y]).2])=k':=hk
    subst c_
    exact bV.quiet (ahh h hn E.ek eo hc fD (Option.bind_eq_some_iff.2 f_) (ef h3) hw h1 hd)
   |false=>
    simp only[h3,cond_false]at hk
    cases h2:Nat.beq ti.kd 2 with
    |false=>simp[h2]at hk
    |true=>
     simp only[h2,cond_true,bG]at hk
     have c_:ca d o (k1.em .lens [y]).1 (.v false [.p (k1.em .lens [y]).2])=k':=hk
     subst c_
     exact bV.quiet (ahi h hn E.ek eo hc fD (Option.bind_eq_some_iff.2 f_) (ef h2) hw h1 hd)
  ·rename_i x y hc fD
   simp only[cN,bG]at hk
   obtain⟨⟨k1,y1⟩,h1,⟨k2,y2⟩,h2,hk⟩:=hk
   have c_:ca d o (k2.em .mx [y1,y2]).1 (.v false [.p (k2.em .mx [y1,y2]).2])=k':=hk
   subst c_
   exact bV.quiet (S4 h hn eo fD (.inl ⟨hc,rfl⟩) hw h1 h2 hd)
  ·rename_i x y hc fD
   simp only[cN,bG]at hk
   obtain⟨⟨k1,y1⟩,h1,⟨k2,y2⟩,h2,hk⟩:=hk
   have c_:ca d o (k2.em .mn [y1,y2]).1 (.v false [.p (k2.em .mn [y1,y2]).2])=k':=hk
   subst c_
   exact bV.quiet (S4 h hn eo fD (.inr ⟨hc,rfl⟩) hw h1 h2 hd)
  ·rename_i x y hc fD
   exact aip E.ek h hn eo hc fD Um hd hM
  ·rename_i x0 xs0 g hc
   simp only[cN]at hk
   obtain⟨sg,hsg,_⟩:=hk
   obtain⟨q1,q2⟩:=E.fns g sg hsg
   exact ai0 h hn eo hc q1 hsg q2 Um hd hM
  ·cases hk
 |convert t1 t2 x=>exact bV.quiet (ahf E.ek h hn eo hk hd)
 |_=>simp[jf,eo]at hk
end
theorem Lf.im{ρ e:List T}{x:Lf}{t:T}(h:x.fW ρ=some t):x.fW (ρ++e)=some t:=by
 cases x with
 |k v=>exact h
 |a n=>simp only[Lf.fW]at h⊢;rw[List.getElem?_append_left (List.getElem?_eq_some_iff.1 h).1];exact h
 |e=>exact h
theorem Ga{ρ e:List T}{x:Lf}{i:Nat}(h:mf ρ x=some i):mf (ρ++e) x=some i:=by
 unfold mf at h⊢
 cases hx:x.fW ρ with
 |none=>simp[hx]at h
 |some t=>rw[Lf.im hx];rw[hx]at h;exact h
theorem Un{ρ e:List T}:∀{q:np} {p:List (Nat×Nat)},gU ρ q=some p->gU (ρ++e) q=some p
 | [],p,h=>h
 |(x,w,j)::q,p,h=>by
  simp only[gU,cN,bG]at h⊢
  obtain⟨i,h1,p',h2,rfl⟩:=h
  exact⟨i,Ga h1,p',Un h2,rfl⟩
theorem Uo{ρ e:List T}{id:Nat}{q:np}{p:List (Nat×Nat)}(h:lE ρ id q=some p):lE (ρ++e) id q=some p:=by
 cases q with
 |nil=>exact h
 |cons x q=>
  simp only[lE]at h⊢
  split at h
  ·rename_i hi;rw[if_pos hi];exact Un h
  ·cases h
section
variable {G:Gh} {w:World} {ρ e:List T}
theorem gv.ext{c:Ce}{v:Value}(h:gv G w ρ c v):gv G w (ρ++e) c v:=by
 cases c with
 |p x=>obtain⟨t,h1,h2⟩:=h;exact⟨t,Lf.im h1,h2⟩
 |o id q=>obtain⟨p,h1,h2⟩:=h;exact⟨p,Uo h1,h2⟩
 |n=>exact h
 |d=>exact h
theorem bk.ext:∀{cs:List Ce} {vs:List Value},bk G w ρ cs vs->bk G w (ρ++e) cs vs
 | [],[],_=>trivial
 |_::_,_::_,h=>⟨h.1.ext,bk.ext h.2⟩
 | [],_::_,h=>h.elim
 |_::_,[],h=>h.elim
theorem fC.ext{ag:Bool}{cs:List Ce}{c:Value}(h:fC G w ρ ag cs c):fC G w (ρ++e) ag cs c:=by
 cases ag with
 |true=>obtain⟨vs,h1,h2⟩:=h;exact⟨vs,h1,h2.ext⟩
 |false=>obtain⟨x,rfl,h2,h3⟩:=h;exact⟨x,rfl,h2.ext,h3⟩
theorem gK.ext:∀{cs:List (Bool×List Ce)} {vs:List Value},gK G w ρ cs vs->gK G w (ρ++e) cs vs
 | [],[],_=>trivial
 |_::_,_::_,h=>⟨h.1.ext,gK.ext h.2⟩
 | [],_::_,h=>h.elim
 |_::_,[],h=>h.elim
theorem cK.ext{v:SV}{c:Value}(h:cK G w ρ v c):cK G w (ρ++e) v c:=by
 cases v with
 |un=>trivial
 |v ag cs=>exact fC.ext h
 |pt b off=>exact h
 |ep id q ix wd off=>obtain⟨p,b,n,cap,i,h1,h2,h3,h4⟩:=h;exact⟨p,b,n,cap,i,Uo h1,h2,Ga h3,h4⟩
 |fp s ix wd off=>obtain⟨xs,i,r,b,base,h1,h2,h3⟩:=h;exact⟨xs,i,r,b,base,Lf.im h1,Ga h2,h3⟩
 |tp vs=>obtain⟨us,h1,h2⟩:=h;exact⟨us,h1,h2.ext⟩
 |cl f bs=>exact h
 |ob dp x=>exact h
 |fz pv x=>exact h
 |tk x m=>exact h
 |fl x=>exact h
 |fr x=>exact h
theorem gk.ext{b:Nat}{v:SV}(h:gk G w ρ b v):gk G w (ρ++e) b v:=by
 cases v with
 |v ag cs=>obtain⟨h1,b9,elem,h2,h3⟩:=h;exact⟨h1,b9,elem,h2,h3.ext⟩
 |_=>exact h
theorem cL.ext{b:Nat}{v:SV}(h:cL G w ρ b v):cL G w (ρ++e) b v:=by
 cases v with
 |ob dp x=>obtain⟨t,h1,h2⟩:=h;exact⟨t,Lf.im h1,h2⟩
 |fz pv x=>
  obtain⟨t,h1,h2,h3⟩:=h
  refine⟨t,Lf.im h1,h2,?_⟩
  cases pv with
  |z=>trivial
  |w tk x0 lo=>obtain⟨g0,F,n,zs,g1,g2,g3⟩:=h3;exact⟨g0,F,n,zs,Lf.im g1,Ga g2,g3⟩
 |tk x m=>obtain⟨h0,F,u,h1,h2,h3⟩:=h;exact⟨h0,F,u,Lf.im h1,Lf.im h2,h3⟩
 |fl x=>obtain⟨h0,t,h1,h2⟩:=h;exact⟨h0,t,Lf.im h1,h2⟩
 |fr x=>obtain⟨h0,t,h1,h2⟩:=h;exact⟨h0,t,Lf.im h1,h2⟩
 |_=>exact h
theorem Rel.ext{M:Nat->Prop}{B:e_}{d:Nat}{up:Nat->Nat->Value}{s:St}{a:Act}(h:Rel M B d up s ρ G a w):Rel M B d up s (ρ++e) G a w:=
 ⟨λx n hx=>(h.tm x n hx).ext,λb=>(h.bx b).ext,λi=>(h.ob i).ext,h.gm,h.key,h.iG,h.dn,h.base,h.bt⟩
end
theorem Lf.s_{ρ e:List T}{x:Lf}(h:x.jx ρ.length=true):x.ev (ρ++e)=x.ev ρ:=by
 cases x with
 |k v=>rfl
 |a n=>
  have bf:n<ρ.length:=Nat.lt_of_succ_le (by simpa[Lf.jx,Nat.blt]using h)
  simp only[Lf.ev,List.getD_eq_getElem?_getD]
  rw[List.getElem?_append_left bf]
 |e=>rfl
theorem Up{ρ e:List T}{xs:List Lf}(h:xs.all (Lf.jx ρ.length)=true):xs.map (Lf.ev (ρ++e))=xs.map (Lf.ev ρ):=
 List.map_congr_left λx hx=>Lf.s_ (List.all_eq_true.1 h x hx)
theorem LS(ts:List T):∀(m i:Nat),(fS ts i m).length=m
 |0,_=>rfl
 |m+1,i=>by simp[fS,LS ts m]
theorem Uq(ts:List T):∀(m i j:Nat),j<m->(fS ts i m)[j]?=some (ts.getD (i+j) T.cE)
 |0,_,j,h=>by omega
 |m+1,i,0,_=>by simp[fS]
 |m+1,i,j+1,h=>by
  simp only[fS,List.getElem?_cons_succ]
  rw[Uq ts m (i+1) j (by omega)]
  congr 2;omega
section
variable {S:Nat->af} {R:Nat} {K:List af} {out:List T}
theorem Gb:∀{is:List Fa} {p:PL} {ρ:List T},sF (ρ.length+rp is) is=true->(wrap is p).den S R K ρ=some out->
  ∃ts,ts.length=rp is∧p.den S R K (ρ++ts)=some out∧∀e,bJ S (ρ++ts++e) (ρ.length+rp is) is
 | [],p,ρ,_,h=>⟨[],rfl,by rw[List.append_nil];exact h,λ_=>trivial⟩
 | .pr q xs::is,p,ρ,cV,h=>by
  simp only[sF,rp,bD]at cV
  have e0:ρ.length+(rp is+1)-1=ρ.length+rp is:=by omega
  rw[e0]at cV
  obtain⟨ts,h1,h2,h3⟩:=Gb (is:=is) cV.2 (show(wrap is (.ins (.pr q xs) p)).den S R K ρ=some out from h)
  simp only[PL.den,cN]at h2
  obtain⟨t,h4,h5⟩:=h2
  have hl:(ρ++ts).length=ρ.length+rp is:=by simp[h1]
  refine⟨ts++[t],by simp[rp,h1],by simpa using h5,λe=>⟨ρ.length+rp is,t,rfl,?_,?_,?_⟩⟩
  ·have:=Up (ρ:=ρ++ts) (e:=t::e) (xs:=xs) (by rw[hl];exact cV.1.2)
   simp only[List.append_assoc,List.cons_append,List.nil_append]at this⊢
   rw[this]
   simpa using h4
  ·rw[<-hl];simp
  ·have:=h3 (t::e)
   simpa using this
 | .cl g xs m::is,p,ρ,cV,h=>by
  simp only[sF,rp,bD]at cV
  have e0:ρ.length+(rp is+m)-m=ρ.length+rp is:=by omega
  rw[e0]at cV
  obtain⟨ts,h1,h2,h3⟩:=Gb (is:=is) cV.2 (show(wrap is (.ins (.cl g xs m) p)).den S R K ρ=some out from h)
  simp only[PL.den,cN]at h2
  obtain⟨us,h4,h5⟩:=h2
  have hl:(ρ++ts).length=ρ.length+rp is:=by simp[h1]
  refine⟨ts++fS us 0 m,by simp[rp,h1,LS],by simpa using h5,λe=>⟨ρ.length+rp is,us,by simp only[rp];omega,?_,λi hi=>?_,?_⟩⟩
  ·have:=Up (ρ:=ρ++ts) (e:=fS us 0 m++e) (xs:=xs) (by rw[hl];exact cV.1.2)
   simp only[List.append_assoc]at this⊢
   rw[this]
   simpa using h4
  ·rw[<-hl,List.append_assoc,List.append_assoc,<-List.append_assoc ρ ts,List.getElem?_append_right (by omega),show(ρ++ts).length+i-(ρ++ts).length=i by omega,
    List.getElem?_append_left (by rw[LS];exact hi),Uq _ _ _ _ hi]
   simp
  ·have:=h3 (fS us 0 m++e)
   simpa using this
end
def dv(fs:jZ)(ρ:List T):Prop:=∀n b,fact fs n=some b->ρ[n]?=some (.c (.bool b))
theorem dv.ext{fs:jZ}{ρ e:List T}(h:dv fs ρ):dv fs (ρ++e):=λn b hn=>by
 have:=h n b hn
 rw[List.getElem?_append_left (List.getElem?_eq_some_iff.1 this).1];exact this
theorem dv.cons{fs:jZ}{ρ:List T}{n:Nat}{b:Bool}(h:dv fs ρ)(hn:ρ[n]?=some (.c (.bool b))):dv ((n,b)::fs) ρ:=by
 intro m c hm
 simp only[fact]at hm
 cases hb:Nat.beq n m with
 |true=>simp[hb]at hm;subst hm;rw[<-ef hb];exact hn
 |false=>simp[hb]at hm;exact h m c hm
section
variable {G:Gh} {w:World} {ρ:List T} {fs:jZ}
theorem Gc{sv:SV}{c:Value}{b:Bool}(h:rI fs sv=.is b)(hr:cK G w ρ sv c)(hf:dv fs ρ):c=.bool b:=by
 unfold rI at h
 split at h
 ·cases h
 ·split at h
  ·rename_i b' hb
   cases h
   unfold KH at hb
   split at hb
   ·cases hb
    obtain⟨e,he,ru,_⟩:=hr
    cases he
    obtain⟨t,h1,h2⟩:=ru
    simp only[Lf.fW,kW,cond_true,bG]at h1
    subst h1
    exact h2.scalar.1
   ·cases hb
  ·rename_i n hb
   unfold KH at hb
   split at hb
   ·cases hb
    split at h
    ·rename_i b' Ur
     cases h
     obtain⟨e,he,ru,_⟩:=hr
     cases he
     obtain⟨t,h1,h2⟩:=ru
     have:=hf n b Ur
     simp only[Lf.fW]at h1
     rw[this]at h1
     cases h1
     exact h2.scalar.1
    ·cases h
   ·cases hb
  ·cases h
theorem ai9{sv:SV}{c:Value}(h:rI fs sv=.nil)(hr:cK G w ρ sv c):∃us,c=.tuple us:=by
 unfold rI at h
 split at h
 ·obtain⟨us,h1,_⟩:=hr;exact⟨_,h1⟩
 ·split at h
  ·cases h
  ·split at h<;>cases h
  ·cases h
end
section
variable {M:Nat->Prop} {B:e_} {d:Nat} {up:Nat->Nat->Value} {ρ:List T} {G:Gh} {a:Act} {w:World} {S:Nat->af} {P:Program}
variable {cx:Cx} {cJ fA oi:Nat} {s:St} {R:Nat} {ct:Ct} {k':Wk} {o:Oper} {Q:Exit->Act->World->Prop} {ops:Array Oper} {nt:Nat} {fs:jZ}
def gw(d:Nat)(ops:Array Oper)(o:Oper)(fs:jZ)(s:St):Option Bool:=
 match o.guard with
 |none=>some true
 |some (j,iT)=>match(ops[j]?).bind (·.dst)with
  |none=>none
  |some g=>match rI fs (s.get (.t d g))with
   | .nil=>some false
   | .is b=>some (b==iT)
   |_=>none
theorem LU{s':St}(h:∀r∈As d ops o,s'.get r=s.get r):gw d ops o fs s'=gw d ops o fs s:=by
 unfold gw As at*
 cases hg:o.guard with
 |none=>rfl
 |some jw=>
  obtain⟨j,iT⟩:=jw
  simp only[hg]at h
  cases hb:(ops[j]?).bind (·.dst)with
  |none=>simp only[hb]
  |some g=>
   simp only[hb]at h⊢
   simp only[h (.t d g) (by simp)]
theorem Gd{x:Bool}(h:gw d ops o fs s=some x)(hr:Rel M B d up s ρ G a w)(hf:dv fs ρ):Region.wanted o (yielded ops a.tmps)=x:=by
 unfold gw at h
 unfold Region.wanted
 cases hg:o.guard with
 |none=>simp[hg]at h;simp[h]
 |some jw=>
  obtain⟨j,iT⟩:=jw
  simp only[hg]at h
  cases hb:(ops[j]?).bind (·.dst)with
  |none=>simp[hb]at h
  |some g=>
   simp only[hb]at h
   have ht:=hr.tm d g (Nat.le_refl _)
   simp only[pi,if_true]at ht
   cases hd:rI fs (s.get (.t d g))with
   |nil=>
    simp only[hd,bG]at h
    subst h
    obtain⟨us,hu⟩:=ai9 hd ht
    simp only[yielded,hb,Option.bind_some]
    rw[Array.getD_eq_getD_getElem?]at hu
    cases hx:a.tmps[g]? with
    |none=>simp
    |some v=>rw[hx]at hu;simp only[Option.getD_some]at hu;subst hu;simp
   |is b=>
    simp only[hd,bG]at h
    have hu:=Gc hd ht hf
    simp only[yielded,hb,Option.bind_some]
    rw[Array.getD_eq_getD_getElem?]at hu
    cases hx:a.tmps[g]? with
    |none=>rw[hx]at hu;simp[undef]at hu
    |some v=>
     rw[hx]at hu;simp only[Option.getD_some]at hu;subst hu
     rw[<-h]
     cases b<;>cases iT<;>rfl
   |ask n=>simp[hd]at h
   |no=>simp[hd]at h
theorem Ge{sv:SV}{n:Nat}{b:Bool}(h:rI fs sv=.ask n):rI ((n,b)::fs) sv=.is b:=by
 unfold rI at h⊢
 split at h
 ·cases h
 ·split at h
  ·cases h
  ·rename_i m hm
   split at h
   ·cases h
   ·cases h
    simp only[fact]
    simp
  ·cases h
def uY(P:Program)(ops:Array Oper)(Q:Exit->Act->World->Prop)(B:e_)(d:Nat)(up:Nat->Nat->Value)(nt:Nat)(ρ:List T)(i:Nat)(rd:List bE)(wr:St)(lo hi:Nat)(sI:St):Prop:=
 ∀(M:Nat->Prop) (s:St) (G:Gh) (a:Act) (w:World) (Kn:Act->World->Prop),(∀r∈rd,s.get r=sI.get r)->Rel M B d up s ρ G a w->a.tmps.size=nt->(∀j,lo<=j->j<hi->¬M j)->
  (∀G' a' w',Rel (Mn M lo hi) B d up (s.fK wr) ρ G' a' w'->a'.tmps.size=nt->Kn a' w')->wpOp P ops Q i Kn a w
theorem Us{s':St}:∀{R:List bE},(∀r∈R,s'.get r=s.get r)->s'.only R=s.only R
 | [],_=>rfl
 |r::R,h=>by simp only[St.only];rw[h r (by simp),Us λr hr=>h r (by simp[hr])]
theorem ai_{i:Nat}{R:List bE}(E:Env P cx S)(ho:ops[i]?=some o)(hn:∀n,o.dst=some n->n<nt)(hg:gw d ops o fs s=some true)(hf:dv fs ρ)
  (hk:jf cx cJ fA d o oi ⟨s.only R,[],ct,[]⟩=some k')(hd:k'.bJ S ρ):uY P ops Q B d up nt ρ i (As d ops o++R) k'.w ct.i k'.ct.i s:=by
 intro M s' G a w Kn od hr nx hM hK
 have Ut:=LU (fs:=fs) (o:=o) (ops:=ops) (d:=d) (s:=s) (s':=s') λr hr=>od r (List.mem_append_left _ hr)
 have hw:=Gd (Ut.trans hg) hr hf
 have nI:jf cx cJ fA d o oi ⟨s'.only R,[],ct,[]⟩=some k':=by rw[Us λr hr=>od r (List.mem_append_right _ hr)];exact hk
 have:=ai8 (Q:=Q) E hr (λn h=>by rw[nx];exact hn n h) nI hd hM
 unfold wpOp
 simp only[ho,hw,if_true]
 exact .inl (Oper.wp_mono (λa' w' ⟨G',h1,h2⟩=>hK G' a' w' h1 (h2.trans nx)) this)
theorem Uu(s:St)(r:bE)(v:SV):s.fK [(r,v)]=s.set r v:=rfl
theorem ai'{i lo:Nat}(ho:ops[i]?=some o)(hn:∀n,o.dst=some n->n<nt)(hg:gw d ops o fs s=some false)(hf:dv fs ρ):
  uY P ops Q B d up nt ρ i (As d ops o) (fN d o (.tp [])) lo lo s:=by
 intro M s' G a w Kn od hr nx hM hK
 have Ut:=LU (fs:=fs) (o:=o) (ops:=ops) (d:=d) (s:=s) (s':=s') od
 have hw:=Gd (Ut.trans hg) hr hf
 unfold wpOp
 simp only[ho,hw,dh,if_false]
 have AA:∀i,M i->Mn M lo lo i:=λi h=>.inl h
 cases hd:o.dst with
 |none=>
  refine hK G _ w ?_ (by simpa[Act.put]using nx)
  simp only[fN,hd,Act.put]
  exact hr.mono AA
 |some n=>
  refine hK G _ w ?_ (by rw[Bj];exact nx)
  simp only[fN,hd,Uu]
  exact(hr.FG (x:=.tp []) (v:=undef) (by rw[nx];exact hn n hd) ⟨[],rfl,trivial⟩ (λi hi=>by simp[dA,sK]at hi)).mono AA
theorem aja{x:Operand}{t:Tmp}(h:x∈o.op.operands)(hx:x=.tmp t):t∈wx o:=by
 subst hx
 exact List.mem_filterMap.2 ⟨.tmp t,by simpa using h,rfl⟩
theorem LV{s':St}{x:Operand}(hx:x∈o.op.operands)(h:∀r∈(wx o).map (bE.t d),s'.get r=s.get r):cn d s'.get x=cn d s.get x:=by
 cases x with
 |tmp t=>exact h _ (List.mem_map.2 ⟨t,aja hx rfl,rfl⟩)
 |_=>rfl
theorem ajb{i lo n:Nat}{b:Bool}{va vb:SV}(ho:ops[i]?=some o)(ajc:o.dst=some n)(hn:n<nt)(hg:gw d ops o fs s=some true)(hf:dv fs ρ)(hp:wy d s o fs=some (.is b,va,vb)):
  uY P ops Q B d up nt ρ i (As d ops o++(wx o).map (bE.t d)) [(.t d n,bif b then va else vb)] lo lo s:=by
 intro M s' G a w Kn od hr nx hM hK
 have Ut:=LU (fs:=fs) (o:=o) (ops:=ops) (d:=d) (s:=s) (s':=s') λr hr=>od r (List.mem_append_left _ hr)
 have hw:=Gd (Ut.trans hg) hr hf
 have AA:∀i,M i->Mn M lo lo i:=λi h=>.inl h
 unfold wy at hp
 split at hp
 ·rename_i c x y eo
  simp only[bG,Prod.mk.injEq]at hp
  obtain⟨h1,rfl,rfl⟩:=hp
  have hT:∀r∈(wx o).map (bE.t d),s'.get r=s.get r:=λr hr=>od r (List.mem_append_right _ hr)
  have oc:=LV (s':=s') (s:=s) (d:=d) (o:=o) (x:=c) (by rw[eo];simp[Op.operands]) hT
  have ox:=LV (s':=s') (s:=s) (d:=d) (o:=o) (x:=x) (by rw[eo];simp[Op.operands]) hT
  have oy:=LV (s':=s') (s:=s) (d:=d) (o:=o) (x:=y) (by rw[eo];simp[Op.operands]) hT
  have hc:=Gc (by rw[oc];exact h1) (Ew hr c).1 hf
  unfold wpOp
  simp only[ho,hw,if_true]
  left
  have iN:(execOp a.eval o).run P w=.ok (.value (if b then a.eval x else a.eval y)) w:=by
   unfold execOp
   simp only[eo,hc,asBool,pure_bind]
   cases b<;>rfl
  simp only[Oper.wp,iN,Oper.upon,ajc]
  refine hK G _ w ?_ (by rw[Bj];exact nx)
  rw[Uu]
  refine(hr.FG (by rw[nx];exact hn) ?_ ?_).mono AA
  ·cases b
   ·simp only[cond_false,dh,if_false];rw[<-oy];exact(Ew hr y).1
   ·simp only[cond_true,if_true];rw[<-ox];exact(Ew hr x).1
  ·cases b
   ·simp only[cond_false];rw[<-oy];exact(Ew hr y).2
   ·simp only[cond_true];rw[<-ox];exact(Ew hr x).2
 ·cases hp
end
section
variable {B:e_} {d:Nat} {up:Nat->Nat->Value} {S:Nat->af} {P:Program} {cx:Cx} {di:nD} {cJ fA:Nat} {R:Nat} {o:Oper} {Q:Exit->Act->World->Prop} {ops:Array Oper} {nt:Nat} {draw:Bool}
variable {K:List af} {out:List T} {i:Nat} {rc:Rec}
def B4(P:Program)(S:Nat->af)(R:Nat)(K:List af)(out:List T)(ops:Array Oper)(Q:Exit->Act->World->Prop)(B:e_)(d:Nat)(up:Nat->Nat->Value)(nt:Nat)(i:Nat)(rc:Rec)
  (tr:List Tr)(lv:Nat)(s:St)(ct:Ct)(ρ:List T):Prop:=
 ∃rd wr g_ e jC p',(∀e',uY P ops Q B d up nt (ρ++e++e') i rd wr ct.i g_.i s)∧ct.i<=g_.i∧rc (tr++[⟨rd,wr.map (·.1)⟩]) lv (s.fK wr) g_ jC=some p'∧p'.den S R K (ρ++e)=some out∧
  (ρ++e).length=g_.a∧dv jC (ρ++e)
def LW(S:Nat->af)(R:Nat)(K:List af)(out:List T)(cx:Cx)(di:nD)(ops:Array Oper)(d:Nat)(o:Oper)(rc:Rec)(tr:List Tr)(lv:Nat)(s:St)(ct:Ct)(ρ:List T):Prop:=
 ∃g vs jC p',gw d ops o jC s=some true∧Fi cx d s o=some (g,vs)∧dv jC ρ∧di (d+1) g vs lv s ct jC (Fk d o rc tr)=some p'∧p'.den S R K ρ=some out
theorem LX{n:Nat}{x y:PL}{ρ:List T}(h:(PL.ite n x y).den S R K ρ=some out):∃b,ρ[n]?=some (.c (.bool b))∧(bif b then x.den S R K ρ else y.den S R K ρ)=some out:=by
 simp only[PL.den]at h
 cases hn:ρ[n]? with
 |none=>rw[List.getD_eq_getElem?_getD,hn]at h;simp[T.cE]at h
 |some t=>
  rw[List.getD_eq_getElem?_getD,hn]at h
  simp only[Option.getD_some]at h
  split at h
  ·exact⟨_,rfl,h⟩
  ·cases h
theorem Uv{tr:List Tr}{lv:Nat}{s:St}{ct:Ct}{fs:jZ}{ρ:List T}{p:PL}(ho:ops[i]?=some o)(hn:∀n,o.dst=some n->n<nt)(hg:gw d ops o fs s=some false)
  (h:Fj d ops o rc tr lv s ct fs=some p)(hp:p.den S R K ρ=some out)(hl:ρ.length=ct.a)(hf:dv fs ρ):B4 P S R K out ops Q B d up nt i rc tr lv s ct ρ:=by
 refine⟨As d ops o,fN d o (.tp []),ct,[],fs,p,λe'=>ai' ho hn hg (by rw[List.append_nil];exact hf.ext),Nat.le_refl _,?_,by rw[List.append_nil];exact hp,by rw[List.append_nil];exact hl,by rw[List.append_nil];exact hf⟩
 unfold Fj at h
 unfold fN
 cases hd:o.dst with
 |none=>rw[hd]at h;exact h
 |some n=>rw[hd]at h;exact h
theorem Gf{tr:List Tr}{lv:Nat}{s:St}{ct:Ct}{fs:jZ}{ρ:List T}{p:PL}{b:Bool}{va vb:SV}(ho:ops[i]?=some o)(hn:∀n,o.dst=some n->n<nt)(hg:gw d ops o fs s=some true)
  (jG:wy d s o fs=some (.is b,va,vb))(h:yP d ops o rc tr lv s ct fs (bif b then va else vb)=some p)(hp:p.den S R K ρ=some out)(hl:ρ.length=ct.a)(hf:dv fs ρ):B4 P S R K out ops Q B d up nt i rc tr lv s ct ρ:=by
 unfold yP at h
 cases hd:o.dst with
 |none=>rw[hd]at h;cases h
 |some n=>
  rw[hd]at h
  exact⟨As d ops o++(wx o).map (bE.t d),[(.t d n,bif b then va else vb)],ct,[],fs,p,λe'=>ajb ho hd (hn n hd) hg (by rw[List.append_nil];exact hf.ext) jG,Nat.le_refl _,h,
   by rw[List.append_nil];exact hp,by rw[List.append_nil];exact hl,by rw[List.append_nil];exact hf⟩
theorem Uw{fs:jZ}{s:St}{x:Bool}{m:Nat}{b:Bool}(h:gw d ops o fs s=some x)(hm:fact fs m=none):gw d ops o ((m,b)::fs) s=some x:=by
 unfold gw at h⊢
 cases hg:o.guard with
 |none=>rw[hg]at h;exact h
 |some jw=>
  obtain⟨j,iT⟩:=jw
  simp only[hg]at h⊢
  cases hb:(ops[j]?).bind (·.dst)with
  |none=>simp only[hb]at h;cases h
  |some g=>
   simp only[hb]at h⊢
   have key:∀dc,rI fs (s.get (.t d g))=dc->(∀n,dc≠.ask n)->dc≠.no->rI ((m,b)::fs) (s.get (.t d g))=dc:=by
    intro dc vX h1 h2
    unfold rI at vX⊢
    split at vX
    ·exact vX
    ·split at vX
     ·exact vX
     ·rename_i n hn
      split at vX
      ·rename_i b' jU
       have dH:Nat.beq m n=false:=by
        cases hbq:Nat.beq m n with
        |false=>rfl
        |true=>rw[ef hbq,jU]at hm;cases hm
       simp only[fact,dH,cond_false,jU]
       exact vX
      ·exact absurd vX.symm (h1 _)
     ·exact absurd vX.symm h2
   cases vX:rI fs (s.get (.t d g))with
   |nil=>rw[key _ vX (by simp) (by simp)];rw[vX]at h;exact h
   |is b'=>rw[key _ vX (by simp) (by simp)];rw[vX]at h;exact h
   |ask n=>rw[vX]at h;cases h
   |no=>rw[vX]at h;cases h
theorem ajd{sv:SV}{fs:jZ}{n:Nat}(h:rI fs sv=.ask n):fact fs n=none:=by
 unfold rI at h
 split at h
 ·cases h
 ·split at h
  ·cases h
  ·split at h
   ·cases h
   ·rename_i hn;cases h;exact hn
  ·cases h
theorem Ux{tr:List Tr}{lv:Nat}{s:St}{ct:Ct}{fs:jZ}{ρ:List T}{p:PL}(E:Env P cx S)(ho:ops[i]?=some o)(hn:∀n,o.dst=some n->n<nt)(hg:gw d ops o fs s=some true)
  (h:doO cx di cJ fA d ops draw o i rc tr lv s ct fs=some p)(hp:p.den S R K ρ=some out)(hl:ρ.length=ct.a)(hf:dv fs ρ):
  B4 P S R K out ops Q B d up nt i rc tr lv s ct ρ∨(draw=false∧LW S R K out cx di ops d o rc tr lv s ct ρ):=by
 unfold doO at h
 split at h
 ·rename_i dc va vb jG
  left
  split at h
  ·exact Gf (b:=true) ho hn hg jG h hp hl hf
  ·exact Gf (b:=false) ho hn hg jG h hp hl hf
  ·rename_i n
   simp only[cN,bG]at h
   obtain⟨x,hx,y,hy,rfl⟩:=h
   obtain⟨b,hb,hp⟩:=LX hp
   have Uy:∀b,wy d s o ((n,b)::fs)=some (.is b,va,vb):=by
    intro b
    unfold wy at jG⊢
    split at jG
    ·simp only[bG,Prod.mk.injEq]at jG⊢
     exact⟨Ge jG.1,jG.2⟩
    ·cases jG
   have dj:fact fs n=none:=by
    unfold wy at jG
    split at jG
    ·simp only[bG,Prod.mk.injEq]at jG;exact ajd jG.1
    ·cases jG
   cases b with
   |true=>exact Gf (b:=true) ho hn (Uw hg dj) (Uy true) hx hp hl (hf.cons hb)
   |false=>exact Gf (b:=false) ho hn (Uw hg dj) (Uy false) hy hp hl (hf.cons hb)
  ·cases h;cases hp
  ·cases h;cases hp
 ·split at h
  ·rename_i g vs hi
   cases hd:draw with
   |true=>rw[hd]at h;simp only[cond_true,bG]at h;subst h;cases hp
   |false=>
    rw[hd]at h
    simp only[cond_false]at h
    exact .inr ⟨rfl,g,vs,fs,p,hg,hi,hf,h,hp⟩
  ·left
   split at h
   ·cases h;cases hp
   ·rename_i k hk
    cases hc:(Nat.beq k.ct.a (ct.a+rp k.is)&&Nat.ble ct.i k.ct.i&&sF k.ct.a k.is)with
    |false=>rw[hc]at h;cases h
    |true=>
     rw[hc]at h
     simp only[cond_true,cN,bG]at h
     obtain⟨p',s8,rfl⟩:=h
     simp only[bD]at hc
     obtain⟨⟨c1,c2⟩,c3⟩:=hc
     have c1:=ef c1
     obtain⟨ts,w1,w2,w3⟩:=Gb (S:=S) (R:=R) (K:=K) (out:=out) (ρ:=ρ) (by rw[hl,<-c1];exact c3) hp
     refine⟨As d ops o++Fe d s o,k.w,k.ct,ts,fs,p',λe'=>ai_ E ho hn hg (by rw[List.append_assoc];exact hf.ext) hk ?_,Nat.le_of_ble_eq_true c2,s8,w2,by rw[List.length_append,w1,hl,c1],hf.ext⟩
     show bJ S (ρ++ts++e') k.ct.a k.is
     rw[c1,<-hl]
     exact w3 e'
theorem Uz{tr:List Tr}{lv:Nat}{s:St}{ct:Ct}{fs:jZ}{ρ:List T}{p:PL}(E:Env P cx S)(ho:ops[i]?=some o)(hn:∀n,o.dst=some n->n<nt)
  (h:A8 cx di cJ fA d ops draw o i rc tr lv s ct fs=some p)(hp:p.den S R K ρ=some out)(hl:ρ.length=ct.a)(hf:dv fs ρ):
  B4 P S R K out ops Q B d up nt i rc tr lv s ct ρ∨(draw=false∧LW S R K out cx di ops d o rc tr lv s ct ρ):=by
 unfold A8 at h
 simp only at h
 cases LD:o.guard with
 |none=>
  rw[LD]at h
  exact Ux E ho hn (by unfold gw;rw[LD]) h hp hl hf
 |some jw=>
  obtain⟨j,iT⟩:=jw
  rw[LD]at h
  simp only at h
  cases hb:(ops[j]?).bind (·.dst)with
  |none=>rw[hb]at h;cases h
  |some g=>
   rw[hb]at h
   simp only at h
   have hgw:∀fs x,(match rI fs (s.get (.t d g))with| .nil=>some false| .is b=>some (b==iT)|_=>none)=some x->gw d ops o fs s=some x:=by
    intro fs x hx
    unfold gw
    simp only[LD,hb]
    exact hx
   have both:∀(fs:jZ) (b:Bool) (p:PL),rI fs (s.get (.t d g))=.is b->(bif b==iT then doO cx di cJ fA d ops draw o i rc tr lv s ct fs else Fj d ops o rc tr lv s ct fs)=some p->p.den S R K ρ=some out->dv fs ρ->
     B4 P S R K out ops Q B d up nt i rc tr lv s ct ρ∨(draw=false∧LW S R K out cx di ops d o rc tr lv s ct ρ):=by
    intro fs b p hd h hp hf
    have hg:=hgw fs (b==iT) (by rw[hd])
    cases hbw:(b==iT)with
    |true=>rw[hbw]at h hg;exact Ux E ho hn hg h hp hl hf
    |false=>rw[hbw]at h hg;exact .inl (Uv ho hn hg h hp hl hf)
   cases hd:rI fs (s.get (.t d g))with
   |nil=>
    rw[hd]at h
    exact .inl (Uv ho hn (hgw fs false (by rw[hd])) h hp hl hf)
   |is b=>rw[hd]at h;exact both fs b p hd h hp hf
   |ask n=>
    rw[hd]at h
    simp only[cN,bG]at h
    obtain⟨x,hx,y,hy,rfl⟩:=h
    obtain⟨b,jU,hp⟩:=LX hp
    cases b with
    |true=>exact both _ true x (Ge hd) hx hp (hf.cons jU)
    |false=>exact both _ false y (Ge hd) hy hp (hf.cons jU)
   |no=>rw[hd]at h;cases h;cases hp
end
structure Fr where
 d:Nat
 up:Nat->Nat->Value
 nt:Nat
structure Zb where
 K:List af
 ρ:List T
def At(S:Nat->af)(R:Nat)(out:List T)(B:e_)(f:Fr)(K0:Zb)(X:Gh->World->List T->Prop)(p:PL)(lv:Nat)(s:St)(ct:Ct)(fs:jZ)(a:Act)(w:World):Prop:=
 ∃K ρ G,p.den S R K ρ=some out∧K.length=lv∧(∃pre,K=pre++K0.K)∧(∃e,ρ=K0.ρ++e)∧ρ.length=ct.a∧dv fs ρ∧Rel (λi=>i<ct.i) B f.d f.up s ρ G a w∧a.tmps.size=f.nt∧X G w ρ
def XT:Gh->World->List T->Prop:=λ_ _ _=>True
def zq(S:Nat->af)(R:Nat)(out:List T)(B:e_)(f:Fr)(K0:Zb)(k:KP)(Ψ:Act->World->Prop):Prop:=
 ∀lv s ct fs p a w,k lv s ct fs=some p->At S R out B f K0 XT p lv s ct fs a w->Ψ a w
def nN(us:List Value):Value:=if h:us.length=1 then us[0]else .tuple us.toArray
def B5(P:Program)(S:Nat->af)(R:Nat)(out:List T)(B:e_)(di:nD):Prop:=
 ∀(f:Fr) (g:Nat) (vs:List SV) (lv:Nat) (s:St) (ct:Ct) (fs:jZ) (kk:List SV->KP) (p:PL) (K0:Zb) (a:Act) (w:World) (args:List Value) (Ψ:Value->World->Prop),
  di (f.d+1) g vs lv s ct fs kk=some p->At S R out B f K0 (λG w ρ=>db G w ρ vs args∧∀v∈vs,∀i∈dA v,i<ct.i) p lv s ct fs a w->
   (∀rs ry s' g_ jC p' w' us,kk rs ry s' g_ jC=some p'->At S R out B f K0 (λG w ρ=>db G w ρ rs us∧∀v∈rs,∀i∈dA v,i<g_.i) p' ry s' g_ jC a w'->Ψ (nN us) w')->
   fX P g∧Calls P g args.toArray w λe w'=>∃v,e=.returned v∧Ψ v w'
section
variable {B:e_} {f:Fr} {S:Nat->af} {P:Program} {cx:Cx} {di:nD} {cJ fA:Nat} {R:Nat} {Q:Exit->Act->World->Prop} {ops:Array Oper} {out:List T} {K0:Zb}
theorem aje{lo hi:Nat}(h:lo<=hi)(i:Nat)(hm:Mn (λi=>i<lo) lo hi i):i<hi:=by
 rcases hm with h1|h1
 ·omega
 ·exact h1.2
theorem db.length{G:Gh}{w:World}{ρ:List T}:∀{vs:List SV} {us:List Value},db G w ρ vs us->vs.length=us.length
 | [],[],_=>rfl
 |_::_,_::_,h=>by simp[db.length h.2]
 | [],_::_,h=>h.elim
 |_::_,[],h=>h.elim
theorem UA{G:Gh}{w:World}{ρ:List T}:∀{rs:List SV} {vs:List (Bool×List Ce)} {us:List Value},vM rs=some vs->db G w ρ rs us->gK G w ρ vs us∧sK vs=rs.flatMap dA
 | [],vs,us,h,hr=>by
  simp[vM]at h
  subst h
  cases us with
  |nil=>exact⟨trivial,rfl⟩
  |cons _ _=>exact hr.elim
 | .v ag cs::rs,vs,us,h,hr=>by
  simp only[vM,cN,bG]at h
  obtain⟨l,hl,rfl⟩:=h
  cases us with
  |nil=>exact hr.elim
  |cons u us=>
   obtain⟨g1,g2⟩:=UA hl hr.2
   exact⟨⟨hr.1,g1⟩,by simp[sK,dA,g2]⟩
 | .un::rs,vs,us,h,hr=>by simp[vM]at h
 | .pt _ _::rs,vs,us,h,hr=>by simp[vM]at h
 | .ep _ _ _ _ _::rs,vs,us,h,hr=>by simp[vM]at h
 | .fp _ _ _ _::rs,vs,us,h,hr=>by simp[vM]at h
 | .tp _::rs,vs,us,h,hr=>by simp[vM]at h
 | .cl _ _::rs,vs,us,h,hr=>by simp[vM]at h
 | .ob _ _::rs,vs,us,h,hr=>by simp[vM]at h
 | .fz _ _::rs,vs,us,h,hr=>by simp[vM]at h
 | .tk _ _::rs,vs,us,h,hr=>by simp[vM]at h
 | .fl _::rs,vs,us,h,hr=>by simp[vM]at h
 | .fr _::rs,vs,us,h,hr=>by simp[vM]at h
theorem ajf{o:Oper}{rc:Rec}{tr:List Tr}{rs:List SV}{lv:Nat}{s:St}{ct:Ct}{fs:jZ}{p:PL}{a:Act}{w:World}{us:List Value}{Ψ:Act->World->Prop}(hn:∀n,o.dst=some n->n<f.nt)
  (h:Fk f.d o rc tr rs lv s ct fs=some p)(bI:At S R out B f K0 (λG w ρ=>db G w ρ rs us∧∀v∈rs,∀i∈dA v,i<ct.i) p lv s ct fs a w)
  (sf:∀tr lv s ct fs p a w,rc tr lv s ct fs=some p->At S R out B f K0 XT p lv s ct fs a w->Ψ a w):Ψ (a.put o.dst (nN us)) w:=by
 obtain⟨K,ρ,G,h1,h2,h3,h0,h4,h5,h6,h7,h8,h9⟩:=bI
 unfold Fk at h
 have key:∀(n:Nat) (v:SV),o.dst=some n->rc tr lv (s.set (.t f.d n) v) ct fs=some p->cK G w ρ v (nN us)->(∀i∈dA v,i<ct.i)->Ψ (a.put o.dst (nN us)) w:=by
  intro n v hd hk hr hm
  rw[hd]
  exact sf tr lv _ ct fs p _ w hk ⟨K,ρ,G,h1,h2,h3,h0,h4,h5,h6.FG (by rw[h7];exact hn n hd) hr hm,by rw[Bj];exact h7,trivial⟩
 have hlen:=h8.length
 split at h
 ·rename_i hd
  rw[hd]
  exact sf tr lv s ct fs p _ w h ⟨K,ρ,G,h1,h2,h3,h0,h4,h5,by simpa[Act.put]using h6,by simpa[Act.put]using h7,trivial⟩
 ·rename_i n v hd
  match us,h8 with
  | [u],h8=>exact key n v hd h h8.1 (h9 v (by simp))
 ·rename_i n hd
  exact key n .un hd h trivial (λi hi=>by simp[dA]at hi)
 ·rename_i rs' _ _ n hd LY aA7
  simp only[cN]at h
  obtain⟨vs,pU,h⟩:=h
  obtain⟨g1,g2⟩:=UA pU h8
  refine key n (.tp vs) hd h ⟨us,?_,g1⟩ λi hi=>?_
  ·unfold nN
   rw[dif_neg]
   intro he
   rw[<-hlen]at he
   match rs',LY,he with
   | [v],LY,_=>exact LY v rfl
  ·rw[show dA (.tp vs)=sK vs from rfl,g2]at hi
   obtain⟨v,hv,hi⟩:=List.mem_flatMap.1 hi
   exact h9 v hv i hi
theorem ajg{d:Nat}{up:Nat->Nat->Value}{M:Nat->Prop}{s:St}{ρ:List T}{G:Gh}{a:Act}{w:World}{o:Oper}{g:Nat}{vs:List SV}(hr:Rel M B d up s ρ G a w)(hi:Fi cx d s o=some (g,vs)):
  ∃args:List Value,(fX P g->(execOp a.eval o).run P w=.ok (.enter g args.toArray) w)∧db G w ρ vs args∧∀v∈vs,∀i∈dA v,M i:=by
 unfold Fi at hi
 split at hi
 ·rename_i c eo
  split at hi
  ·rename_i x ajh
   split at hi
   ·rename_i g' bs hx
    split at hi
    ·cases hi
    ·simp only[bG,Prod.mk.injEq]at hi
     obtain⟨rfl,rfl⟩:=hi
     obtain⟨h1,h2⟩:=Ew hr x
     rw[hx]at h1 h2
     have hv:a.eval x=.func (.func g') #[] (bs.map λb=>Value.pointer (some ⟨G.β b,0,none⟩)).toArray:=h1
     refine⟨c.args.toList.map a.eval++bs.map λb=>Value.pointer (some ⟨G.β b,0,none⟩),?_,?_,?_⟩
     ·intro hg
      unfold execOp
      rw[eo]
      show Sem.run P (do let d <-resolve a.eval c o.type;invoke d.target d.args) w=_
      simp only[resolve,ajh,hv,Deferred.ofValue,pure_bind,invoke]
      rw[Ug hg]
      congr 2
      exact Array.ext' (by simp)
     ·have k1:∀l:List Operand,db G w ρ (l.map (cn d s.get)++bs.map λb=>SV.pt b 0) (l.map a.eval++bs.map λb=>Value.pointer (some ⟨G.β b,0,none⟩)):=by
       intro l
       induction l with
       |nil=>
        clear hx h1 h2 hv
        induction bs with
        |nil=>trivial
        |cons b bs ih=>exact⟨rfl,ih⟩
       |cons y l ih=>exact⟨(Ew hr y).1,ih⟩
      exact k1 _
     ·intro v hv i hi
      rcases List.mem_append.1 hv with hv|hv
      ·obtain⟨y,_,rfl⟩:=List.mem_map.1 hv
       exact(Ew hr y).2 i hi
      ·obtain⟨b,hb,rfl⟩:=List.mem_map.1 hv
       simp[dA]at hi
       subst hi
       exact h2 _ (by simpa[dA]using hb)
   ·cases hi
  ·cases hi
 ·cases hi
theorem LZ(E:Env P cx S)(hI:B5 P S R out B di)(hn:∀o∈ops.toList,∀n,o.dst=some n->n<f.nt){fin:List Tr->KP}(qD:∀tr,zq S R out B f K0 (fin tr) (Q .normal)):
  ∀(os:List Oper) (i:Nat) (tr:List Tr) (lv:Nat) (s:St) (ct:Ct) (fs:jZ) (p:PL) (a:Act) (w:World),ops.toList.drop i=os->sG cx di cJ fA f.d ops false fin os i tr lv s ct fs=some p->
   At S R out B f K0 XT p lv s ct fs a w->wpOps P ops Q (List.range' i os.length) a w
 | [],i,tr,lv,s,ct,fs,p,a,w,_,h,bI=>qD tr lv s ct fs p a w h bI
 |o::os,i,tr,lv,s,ct,fs,p,a,w,Gg,h,bI=>by
  have ho:ops[i]?=some o:=by
   rw[<-Array.getElem?_toList]
   have:=congrArg (·[0]?) Gg
   simpa using this
  have iW:=hn o (List.mem_of_mem_drop (i:=i) (by rw[Gg];simp))
  have Gi:ops.toList.drop (i+1)=os:=by
   rw[<-List.drop_drop,Gg];rfl
  have ih:=LZ E hI hn qD os (i+1)
  obtain⟨K,ρ,G,h1,h2,h3,⟨e0,h0⟩,h4,h5,h6,h7,_⟩:=bI
  rw[List.length_cons,List.range'_succ,wpOps_cons]
  rcases Uz (P:=P) (Q:=Q) (B:=B) (up:=f.up) (nt:=f.nt) (R:=R) (K:=K) (out:=out) E ho iW (show A8 cx di cJ fA f.d ops false o i (sG cx di cJ fA f.d ops false fin os (i+1)) tr lv s ct fs=some p from h) h1 h4 h5 with
   ⟨rd,wr,g_,e,jC,p',uZ,hle,sf,s8,kX,RH⟩|⟨_,g,vs,jC,p',hg,hi,RH,km,s8⟩
  ·have UB:=uZ []
   rw[List.append_nil]at UB
   refine UB (λi=>i<ct.i) s G a w _ (λr hr=>rfl) h6.ext h7 (λj h1 h2=>by omega) λG' a' w' iM FT=>?_
   exact ih _ lv _ g_ jC p' a' w' Gi sf ⟨K,ρ++e,G',s8,h2,h3,⟨e0++e,by rw[h0,List.append_assoc]⟩,kX,RH,iM.mono (aje hle),FT,trivial⟩
  ·have hQ:=λ(args:List Value) hr=>hI f g vs lv s ct jC _ p' K0 a w args (λv w'=>wpOps P ops Q (List.range' (i+1) os.length) (a.put o.dst v) w') km ⟨K,ρ,G,s8,h2,h3,⟨e0,h0⟩,h4,RH,h6,h7,hr⟩ λrs ry s' g_ fs2 p2 w' us hk lM=>
    ajf (Ψ:=λa w'=>wpOps P ops Q (List.range' (i+1) os.length) a w') iW hk lM λtr lv s ct fs p a w hk wX=>ih tr lv s ct fs p a w Gi hk wX
   obtain⟨args,hx,hr,hm⟩:=ajg (P:=P) h6 hi
   have hw:=Gd hg h6 RH
   unfold wpOp
   simp only[ho,hw,if_true]
   left
   simp only[Oper.wp]
   obtain⟨hg0,qJ⟩:=hQ args ⟨hr,hm⟩
   rw[hx hg0]
   refine qJ.mono ?_
   rintro e w' ⟨v,rfl,hv⟩
   exact hv
end
structure Item where
 rd:List bE
 wr:St
 lo:Nat
 hi:Nat
def Item.tr(it:Item):Tr:=⟨it.rd,it.wr.map (·.1)⟩
inductive gY (Ok:Nat->Item->St->Prop):Nat->St->Nat->List Item->St->Nat->Prop
 |nil {i:Nat} {s:St} {c:Nat}:gY Ok i s c [] s c
 |cons {i:Nat} {s s':St} {c c':Nat} {it:Item} {its:List Item} (h:Ok i it s) (hl:it.lo=c) (hh:c<=it.hi) (ht:gY Ok (i+1) (s.fK it.wr) it.hi its s' c'):gY Ok i s c (it::its) s' c'
def lq(D:Nat->Bool):Nat->St->List Item->St
 |_,s,[]=>s
 |i,s,it::its=>lq D (i+1) (bif D i then s.fK it.wr else s) its
theorem gY.mono{Ok Ok':Nat->Item->St->Prop}(h:∀i it s,Ok i it s->Ok' i it s){i:Nat}{s s':St}{c c':Nat}{its:List Item}(hc:gY Ok i s c its s' c'):gY Ok' i s c its s' c':=by
 induction hc with
 |nil=>exact .nil
 |cons h1 h2 h3 _ ih=>exact .cons (h _ _ _ h1) h2 h3 ih
theorem gY.le{Ok:Nat->Item->St->Prop}{i:Nat}{s s':St}{c c':Nat}{its:List Item}(hc:gY Ok i s c its s' c'):c<=c':=by
 induction hc with
 |nil=>exact Nat.le_refl _
 |cons _ _ h3 _ ih=>exact Nat.le_trans h3 ih
theorem gY.get{Ok:Nat->Item->St->Prop}{i:Nat}{s s':St}{c c':Nat}{its:List Item}(hc:gY Ok i s c its s' c'):∀(m:Nat) (it:Item),its[m]?=some it->
  Ok (i+m) it (lq (λ_=>true) i s (its.take m))∧c<=it.lo∧it.lo<=it.hi∧it.hi<=c':=by
 induction hc with
 |nil=>intro m it h;simp at h
 | @cons i s s' c c' RI its h1 h2 h3 h4 ih=>
  intro m it hm
  cases m with
  |zero=>
   simp at hm
   subst hm
   exact⟨h1,by omega,by omega,h4.le⟩
  |succ m=>
   obtain⟨g1,g2,g3,g4⟩:=ih m it (by simpa using hm)
   refine⟨?_,by omega,g3,g4⟩
   rw[show i+(m+1)=i+1+m by omega]
   simpa[lq]using g1
theorem gY.apart{Ok:Nat->Item->St->Prop}{i:Nat}{s s':St}{c c':Nat}{its:List Item}(hc:gY Ok i s c its s' c'):∀(m m':Nat) (it fO:Item),its[m]?=some it->its[m']?=some fO->m<m'->it.hi<=fO.lo:=by
 induction hc with
 |nil=>intro m m' it fO h;simp at h
 | @cons i s s' c c' RI its h1 h2 h3 h4 ih=>
  intro m m' it fO hm qp bf
  cases m' with
  |zero=>omega
  |succ m'=>
   cases m with
   |zero=>
    simp at hm
    subst hm
    exact(h4.get m' fO (by simpa using qp)).2.1
   |succ m=>exact ih m m' it fO (by simpa using hm) (by simpa using qp) (by omega)
theorem gY.last{Ok:Nat->Item->St->Prop}{i:Nat}{s s':St}{c c':Nat}{its:List Item}(hc:gY Ok i s c its s' c'){D:Nat->Bool}:(∀m,m<its.length->D (i+m)=true)->lq D i s its=s':=by
 induction hc with
 |nil=>intro _;rfl
 | @cons i s s' c c' RI its h1 h2 h3 h4 ih=>
  intro h
  simp only[lq]
  rw[show D i=true from h 0 (by simp)]
  exact ih λm hm=>by rw[show i+1+m=i+(m+1) by omega];exact h (m+1) (by simpa using hm)
theorem L0{D:Nat->Bool}:∀{its:List Item} {i:Nat} {s:St},(∀m,m<its.length->D (i+m)=false)->lq D i s its=s
 | [],i,s,_=>rfl
 |it::its,i,s,h=>by
  simp only[lq]
  rw[show D i=false from h 0 (by simp)]
  exact L0 λm hm=>by rw[show i+1+m=i+(m+1) by omega];exact h (m+1) (by simpa using hm)
theorem UC{D:Nat->Bool}:∀{its:List Item} {i:Nat} {s s2:St},(∀r,s.get r=s2.get r)->∀r,(lq D i s its).get r=(lq D i s2 its).get r
 | [],i,s,s2,h,r=>h r
 |it::its,i,s,s2,h,r=>by
  simp only[lq]
  refine UC (λr=>?_) r
  cases D i with
  |true=>simp only[cond_true];rw[St.a_,St.a_,h]
  |false=>exact h r
theorem UD{D D':Nat->Bool}:∀{its:List Item} {i:Nat} {s:St},(∀m,m<its.length->D (i+m)=D' (i+m))->lq D i s its=lq D' i s its
 | [],i,s,_=>rfl
 |it::its,i,s,h=>by
  simp only[lq]
  rw[show D i=D' i from h 0 (by simp)]
  exact UD λm hm=>by rw[show i+1+m=i+(m+1) by omega];exact h (m+1) (by simpa using hm)
theorem UE{D:Nat->Bool}{r:bE}:∀{its:List Item} {i:Nat} {s:St},(∀m it,its[m]?=some it->D (i+m)=true->it.wr.look r=none)->(lq D i s its).get r=s.get r
 | [],i,s,_=>rfl
 |it::its,i,s,h=>by
  simp only[lq]
  rw[UE λm fO hm hd=>h (m+1) fO (by simpa using hm) (by rw[show i+(m+1)=i+1+m by omega];exact hd)]
  cases hD:D i with
  |false=>rfl
  |true=>
   simp only[cond_true]
   rw[St.a_,h 0 it rfl (by simpa using hD)]
   rfl
theorem UF{D:Nat->Bool}{W:St}:∀{its:List Item} {i:Nat} {s:St},(∀m it,its[m]?=some it->D (i+m)=true->∀r,it.wr.look r=none∨W.look r=none)->
  ∀r,((lq D i s its).fK W).get r=(lq D i (s.fK W) its).get r
 | [],i,s,_,r=>rfl
 |it::its,i,s,h,r=>by
  simp only[lq]
  rw[UF λm fO hm hd=>h (m+1) fO (by simpa using hm) (by rw[show i+(m+1)=i+1+m by omega];exact hd)]
  refine UC (λr=>?_) r
  cases hD:D i with
  |false=>rfl
  |true=>
   simp only[cond_true]
   rw[St.a_,St.a_,St.a_,St.a_]
   rcases h 0 it rfl (by simpa using hD) r with h1|h1
   ·rw[h1];rfl
   ·rw[h1];rfl
def lr(D:Nat->Bool)(k:Nat):Nat->Bool:=λj=>if j=k then true else D j
theorem L1{D:Nat->Bool}:∀{its:List Item} {i m:Nat} {s:St} {it:Item},its[m]?=some it->D (i+m)=false->
  (∀m' fO,its[m']?=some fO->m<m'->D (i+m')=true->∀r,fO.wr.look r=none∨it.wr.look r=none)->∀r,((lq D i s its).fK it.wr).get r=(lq (lr D (i+m)) i s its).get r
 | [],i,m,s,it,h,_,_,r=>by simp at h
 |RI::its,i,0,s,it,h,hd,hc,r=>by
  simp at h
  subst h
  simp only[lq,Nat.add_zero]at hd⊢
  rw[hd,show lr D i i=true by simp[lr]]
  simp only[cond_false,cond_true]
  rw[UF λm fO hm jW=>hc (m+1) fO (by simpa using hm) (by omega) (by rw[show i+(m+1)=i+1+m by omega];exact jW)]
  exact congrArg (λx=>St.get x r) (UD λm hm=>by
   have:¬(i+1+m=i):=by omega
   simp[lr,this])
 |RI::its,i,m+1,s,it,h,hd,hc,r=>by
  simp only[lq]
  have e:lr D (i+(m+1)) i=D i:=by
   have:¬(i=i+(m+1)):=by omega
   simp[lr]
  rw[e,show i+(m+1)=i+1+m by omega]
  exact L1 (by simpa using h) (by rw[show i+1+m=i+(m+1) by omega];exact hd) (λm' fO hm bf jW=>hc (m'+1) fO (by simpa using hm) (by omega) (by rw[show i+(m'+1)=i+1+m' by omega];exact jW)) r
theorem L3{D:Nat->Bool}{r:bE}:∀{its:List Item} {i m:Nat} {s s2:St},s.get r=s2.get r->m<=its.length->(∀m' fO,its[m']?=some fO->m'<m->D (i+m')=false->fO.wr.look r=none)->
  (∀m' fO,its[m']?=some fO->m<=m'->D (i+m')=true->fO.wr.look r=none)->(lq D i s its).get r=(lq (λ_=>true) i s2 (its.take m)).get r
 |its,i,0,s,s2,h,_,h1,h2=>by
  rw[List.take_zero]
  show _=s2.get r
  rw[UE λm it hm hd=>h2 m it hm (by omega) hd,h]
 | [],i,m+1,s,s2,h,hl,_,_=>by simp at hl
 |RI::its,i,m+1,s,s2,h,hl,h1,h2=>by
  simp only[lq,List.take_succ_cons,cond_true]
  refine L3 ?_ (by simpa using hl) (λm' fO hm bf hd=>h1 (m'+1) fO (by simpa using hm) (by omega) (by rw[show i+(m'+1)=i+1+m' by omega];exact hd))
   (λm' fO hm bf hd=>h2 (m'+1) fO (by simpa using hm) (by omega) (by rw[show i+(m'+1)=i+1+m' by omega];exact hd))
  cases hD:D i with
  |true=>simp only[cond_true];rw[St.a_,St.a_,h]
  |false=>
   simp only[cond_false]
   rw[St.a_,h1 0 RI rfl (by omega) (by simpa using hD)]
   exact h
theorem L4{xs ys:List bE}(h:Ff xs ys=false):∀r,r∈xs->r∈ys->False:=by
 intro r h1 h2
 have h3:ys.any r.beq=false:=by have:=List.any_eq_false.1 h r h1;rw[Bool.not_eq_true]at this;exact this
 have:=List.any_eq_false.1 h3 r h2
 exact this (bE.beq_iff.2 rfl)
theorem Gj{W:St}{r:bE}(h:r∉W.map (·.1)):W.look r=none:=by
 cases hl:W.look r with
 |none=>rfl
 |some u=>exact absurd (List.mem_map.2 ⟨(r,u),F7 hl,rfl⟩) h
theorem RJ{a b:Item}(h:Fg a.tr b.tr=true):(∀r∈b.rd,a.wr.look r=none)∧(∀r,a.wr.look r=none∨b.wr.look r=none)∧(∀r∈a.rd,b.wr.look r=none):=by
 simp only[Fg,bD,Bool.not_eq_true']at h
 obtain⟨⟨h1,h2⟩,h3⟩:=h
 refine⟨λr hr=>Gj λhm=>L4 h1 r hm hr,λr=>?_,λr hr=>Gj λhm=>L4 h3 r hr hm⟩
 by_cases hm:r∈a.wr.map (·.1)
 ·exact .inr (Gj λqp=>L4 h2 r hm qp)
 ·exact .inl (Gj hm)
theorem UG{bj:Nat}{t:Tr}:∀{us:List Tr} {i:Nat},Fh bj t i us=true->∀j u,us[j]?=some u->Nat.testBit bj (i+j)=true∨Fg u t=true
 | [],i,_,j,u,h=>by simp at h
 |v::us,i,h,j,u,hj=>by
  simp only[Fh,bD,Bool.or_eq_true]at h
  cases j with
  |zero=>simp at hj;subst hj;exact h.1
  |succ j=>
   have:=UG h.2 j u (by simpa using hj)
   rw[show i+1+j=i+(j+1) by omega]at this
   exact this
theorem B6:∀{ts:List Tr} {bs:List Nat} {done:List Tr},qk done ts bs=true->∀(m u:Nat) (t tu:Tr) (b:Nat),ts[m]?=some t->bs[m]?=some b->u<done.length+m->(done++ts)[u]?=some tu->
  Nat.testBit b u=true∨Fg tu t=true
 | [],bs,done,_,m,u,t,tu,b,h,_,_,_=>by simp at h
 |_::_,[],done,_,m,u,t,tu,b,_,h,_,_=>by simp at h
 |t0::ts,b0::bs,done,h,m,u,t,tu,b,hm,hb,hu,hg=>by
  simp only[qk,bD]at h
  cases m with
  |zero=>
   simp at hm hb
   subst hm hb
   have:=UG h.1 u tu (by rw[List.getElem?_append_left (by omega)]at hg;exact hg)
   simpa using this
  |succ m=>
   exact B6 h.2 m u t tu b (by simpa using hm) (by simpa using hb) (by simp;omega) (by simpa using hg)
def wY(n:Nat)(e:Edge):Bool:=Region.binds .any e&&Nat.blt e.on n
theorem UH(acc:List Nat)(n:Nat):∀(es:List Edge) (s u:Nat),Nat.testBit (es.foldl (λs e=>bif wY n e then s|||(2^e.on)|||(acc.getD e.on 0)else s) s) u=true->
  Nat.testBit s u=true∨∃e∈es,wY n e=true∧(u=e.on∨Nat.testBit (acc.getD e.on 0) u=true)
 | [],s,u,h=>.inl h
 |e::es,s,u,h=>by
  rw[List.foldl_cons]at h
  rcases UH acc n es _ u h with h1|⟨e',he',h1⟩
  ·cases hc:wY n e with
   |false=>rw[hc]at h1;exact .inl h1
   |true=>
    rw[hc]at h1
    simp only[cond_true,Nat.testBit_or,Bool.or_eq_true]at h1
    rcases h1 with(h1|h1)|h1
    ·exact .inl h1
    ·rw[Nat.testBit_two_pow]at h1
     simp at h1
     exact .inr ⟨e,by simp,hc,.inl h1.symm⟩
    ·exact .inr ⟨e,by simp,hc,.inr h1⟩
  ·exact .inr ⟨e',by simp[he'],h1⟩
theorem L5:∀(os:List Oper) (acc:List Nat) (j:Nat),j<acc.length->(mC acc os)[j]?=acc[j]?
 | [],acc,j,_=>rfl
 |o::os,acc,j,h=>by
  simp only[mC]
  rw[L5 os _ j (by simp;omega),List.getElem?_append_left h]
theorem Gk:∀(os:List Oper) (acc:List Nat),(mC acc os).length=acc.length+os.length
 | [],acc=>rfl
 |o::os,acc=>by simp only[mC];rw[Gk];simp;omega
theorem L6:∀(os:List Oper) (acc:List Nat) (k b:Nat),acc.length<=k->(mC acc os)[k]?=some b->∃o,os[k-acc.length]?=some o∧
  ∀u,Nat.testBit b u=true->∃e∈o.after.toList,wY k e=true∧(u=e.on∨Nat.testBit ((mC acc os).getD e.on 0) u=true)
 | [],acc,k,b,hk,h=>by
  simp only[mC]at h
  have:=(List.getElem?_eq_some_iff.1 h).1
  omega
 |o::os,acc,k,b,hk,h=>by
  simp only[mC]at h⊢
  by_cases he:k=acc.length
  ·subst he
   rw[L5 os _ _ (by simp),List.getElem?_append_right (Nat.le_refl _)]at h
   simp only[Nat.sub_self,List.getElem?_cons_zero,bG]at h
   refine⟨o,by simp,λu hu=>?_⟩
   rw[<-h]at hu
   rcases UH acc acc.length o.after.toList 0 u hu with h1|⟨e,he,h1,h2⟩
   ·simp at h1
   ·refine⟨e,he,h1,h2.imp_right λh2=>?_⟩
    have bf:e.on<acc.length:=by
     simp only[wY,bD]at h1
     exact Nat.lt_of_succ_le (by simpa[Nat.blt]using h1.2)
    rw[List.getD_eq_getElem?_getD,L5 os _ _ (by simp;omega),List.getElem?_append_left bf,<-List.getD_eq_getElem?_getD]
    exact h2
  ·obtain⟨o',h1,h2⟩:=L6 os _ k b (by simp;omega) h
   refine⟨o',?_,h2⟩
   rw[<-h1,show k-acc.length=(k-(acc.length+1))+1 by omega]
   simp
theorem B7:∀{os:List Oper} {i:Nat},yO i os=true->∀m o,os[m]?=some o->∀e∈o.after.toList,Region.binds .any e=true->e.on<i+m
 | [],i,_,m,o,h,_,_,_=>by simp at h
 |o0::os,i,h,m,o,hm,e,he,hb=>by
  simp only[yO,bD]at h
  cases m with
  |zero=>
   simp at hm
   subst hm
   have:=List.all_eq_true.1 h.1 e he
   simp only[hb,Bool.not_true,Bool.false_or]at this
   exact Nat.lt_of_succ_le (by simpa[Nat.blt]using this)
  |succ m=>
   have:=B7 h.2 m o (by simpa using hm) e he hb
   omega
def u9(ops:Array Oper)(D:Nat->Bool):Prop:=∀(j:Nat) (o:Oper),D j=true->ops[j]?=some o->∀e∈o.after.toList,Region.binds .any e=true->D e.on=true
theorem L7{ops:Array Oper}{D:Nat->Bool}(hc:u9 ops D):∀(j b u:Nat),D j=true->(mC [] ops.toList)[j]?=some b->Nat.testBit b u=true->D u=true:=by
 intro j
 induction j using Nat.strongRecOn with
 |_ j ih=>
  intro b u hj hb hu
  obtain⟨o,ho,h⟩:=L6 ops.toList [] j b (by simp) hb
  obtain⟨e,he,h1,h2⟩:=h u hu
  simp only[wY,bD]at h1
  have bf:e.on<j:=Nat.lt_of_succ_le (by simpa[Nat.blt]using h1.2)
  have hd:=hc j o hj (by simpa using ho) e he h1.1
  rcases h2 with rfl|h2
  ·exact hd
  ·have hlen:e.on<(mC [] ops.toList).length:=by
    have:=(List.getElem?_eq_some_iff.1 hb).1
    omega
   rw[List.getD_eq_getElem?_getD,List.getElem?_eq_getElem hlen]at h2
   exact ih e.on bf _ u hd (List.getElem?_eq_getElem hlen) h2
theorem Gl{ops:Array Oper}{D:Nat->Bool}(hc:u9 ops D){k b u:Nat}{o:Oper}(ho:ops[k]?=some o)(hr:∀e∈o.after.toList,Region.binds .any e=true->D e.on=true)
  (hb:(mC [] ops.toList)[k]?=some b)(hu:Nat.testBit b u=true):D u=true:=by
 obtain⟨o',JN,h⟩:=L6 ops.toList [] k b (by simp) hb
 simp only[List.length_nil,Nat.sub_zero,Array.getElem?_toList,ho,bG]at JN
 subst JN
 obtain⟨e,he,h1,h2⟩:=h u hu
 simp only[wY,bD]at h1
 have hd:=hr e he h1.1
 have bf:e.on<k:=Nat.lt_of_succ_le (by simpa[Nat.blt]using h1.2)
 rcases h2 with rfl|h2
 ·exact hd
 ·have hlen:e.on<(mC [] ops.toList).length:=by
   have:=(List.getElem?_eq_some_iff.1 hb).1
   omega
  rw[List.getD_eq_getElem?_getD,List.getElem?_eq_getElem hlen]at h2
  exact L7 hc e.on _ u hd (List.getElem?_eq_getElem hlen) h2
def vY:List Bool->Nat
 | []=>0
 |true::l=>vY l
 |false::l=>vY l+1
theorem B8:∀(l:List Bool) (i:Nat),l[i]?=some false->vY (l.set i true)+1=vY l
 | [],i,h=>by simp at h
 |b::l,0,h=>by simp at h;subst h;simp[vY]
 |true::l,i+1,h=>by simp only[List.set_cons_succ,vY];exact B8 l i (by simpa using h)
 |false::l,i+1,h=>by simp only[List.set_cons_succ,vY];rw[<-B8 l i (by simpa using h)]
theorem L8:∀(l:List Bool),vY l=0->∀i,i<l.length->l[i]?=some true
 | [],_,i,h=>by simp at h
 |true::l,h,0,_=>rfl
 |true::l,h,i+1,hi=>by simpa using L8 l h i (by simpa using hi)
 |false::l,h,_,_=>by simp[vY]at h
theorem Gm:∀n,vY (List.replicate n false)=n
 |0=>rfl
 |n+1=>by simp[List.replicate_succ,vY,Gm n]
section
variable {B:e_} {d:Nat} {up:Nat->Nat->Value} {S:Nat->af} {P:Program} {cx:Cx} {di:nD} {cJ fA:Nat} {R:Nat} {Q:Exit->Act->World->Prop} {ops:Array Oper} {nt:Nat} {ρ:List T}
variable {its:List Item} {s0 s1:St} {c0 c1:Nat}
def MD(c0:Nat)(its:List Item)(D:Nat->Bool)(j:Nat):Prop:=j<c0∨∃m it,its[m]?=some it∧D m=true∧it.lo<=j∧j<it.hi
def gb(aK:Array Bool)(j:Nat):Bool:=aK.getD j false
theorem Gn{aK:Array Bool}{i:Nat}(h:i<aK.size):gb (aK.setIfInBounds i true)=lr (gb aK) i:=by
 funext j
 unfold gb lr
 by_cases hj:j=i
 ·subst hj
  simp[Array.getD_eq_getD_getElem?,h]
 ·rw[if_neg hj,getD_set_ne _ (Ne.symm hj)]
theorem ajj(hc:gY (λi it s=>uY P ops Q B d up nt ρ i it.rd it.wr it.lo it.hi s) 0 s0 c0 its s1 c1)(hlen:its.length=ops.size)(cV:qk [] (its.map Item.tr) (mC [] ops.toList)=true)(xZ:yO 0 ops.toList=true)
  (hQ:∀G a w,Rel (λi=>i<c1) B d up s1 ρ G a w->a.tmps.size=nt->Q .normal a w):
  ∀(B9:Nat) (aK:Array Bool) (a:Act) (w:World),aK.size=ops.size->vY aK.toList<=B9->u9 ops (gb aK)->
   (∃G,Rel (MD c0 its (gb aK)) B d up (lq (gb aK) 0 s0 its) ρ G a w)->a.tmps.size=nt->wpAny P .any ops Q B9 aK a w:=by
 have UI:(mC [] ops.toList).length=ops.size:=by rw[Gk];simp
 have gone:∀(aK:Array Bool),aK.size=ops.size->Region.ready .any ops aK=[]->∀j,j<ops.size->gb aK j=true:=by
  intro aK hs hr j
  induction j using Nat.strongRecOn with
  |_ j ih=>
   intro hj
   cases hd:gb aK j with
   |true=>rfl
   |false=>
    exfalso
    have ho:ops[j]?=some ops[j]:=Array.getElem?_eq_getElem hj
    have:j∈Region.ready .any ops aK:=by
     rw[mem_ready]
     refine⟨?_,ops[j],ho,λe he hb=>?_⟩
     ·unfold gb at hd
      rw[Array.getD_eq_getD_getElem?]at hd⊢
      rw[Array.getElem?_eq_getElem (by omega)]at hd⊢
      simpa using hd
     ·have bf:=B7 xZ j ops[j] (by simp) e (by simpa using he) hb
      have bf:e.on<j:=by omega
      exact ih e.on bf (by omega)
    rw[hr]at this
    cases this
 have fin:∀(aK:Array Bool) (a:Act) (w:World),aK.size=ops.size->Region.ready .any ops aK=[]->(∃G,Rel (MD c0 its (gb aK)) B d up (lq (gb aK) 0 s0 its) ρ G a w)->a.tmps.size=nt->Q .normal a w:=by
  rintro aK a w hs hr ⟨G,jR⟩ nx
  have s7:=gone aK hs hr
  rw[hc.last λm hm=>by rw[Nat.zero_add];exact s7 m (by omega)]at jR
  refine hQ G a w (jR.mono λj hj=>?_) nx
  rcases hj with h1|⟨m,it,hm,_,_,h3⟩
  ·exact Nat.lt_of_lt_of_le h1 hc.le
  ·exact Nat.lt_of_lt_of_le h3 (hc.get m it hm).2.2.2
 intro B9
 induction B9 with
 |zero=>
  intro aK a w hs hf _ hr nx
  have h0:∀j,j<ops.size->gb aK j=true:=by
   intro j hj
   have:=L8 aK.toList (by omega) j (by simp;omega)
   unfold gb
   rw[Array.getD_eq_getD_getElem?,<-Array.getElem?_toList,this]
   rfl
  have RK:Region.ready .any ops aK=[]:=by
   cases hl:Region.ready .any ops aK with
   |nil=>rfl
   |cons j l=>
    exfalso
    have hm:j∈Region.ready .any ops aK:=by rw[hl];simp
    obtain⟨h1,o,ho,_⟩:=mem_ready.1 hm
    have hj:j<ops.size:=(Array.getElem?_eq_some_iff.1 ho).1
    have:=h0 j hj
    unfold gb at this
    rw[Array.getD_eq_getD_getElem?]at this h1
    rw[Array.getElem?_eq_getElem (by omega)]at this h1
    simp at this h1
    rw[this]at h1
    cases h1
  exact⟨RK,fin aK a w hs RK hr nx⟩
 |succ B9 ih=>
  intro aK a w hs hf pE hr nx
  refine⟨λRK=>fin aK a w hs RK hr nx,λk hk=>?_⟩
  obtain⟨gx,o,ho,RL⟩:=mem_ready.1 hk
  obtain⟨G,jR⟩:=hr
  have Gp:k<ops.size:=(Array.getElem?_eq_some_iff.1 ho).1
  have Gq:k<aK.size:=by omega
  have pT:gb aK k=false:=by
   unfold gb
   rw[Array.getD_eq_getD_getElem?]at gx⊢
   rw[Array.getElem?_eq_getElem Gq]at gx⊢
   simpa using gx
  obtain⟨it,uZ⟩:∃it,its[k]?=some it:=⟨its[k]'(by omega),List.getElem?_eq_getElem (by omega)⟩
  obtain⟨b,hb⟩:∃b,(mC [] ops.toList)[k]?=some b:=⟨_,List.getElem?_eq_getElem (by omega)⟩
  obtain⟨g1,g2,g3,g4⟩:=hc.get k it uZ
  have B_:(its.map Item.tr)[k]?=some it.tr:=by rw[List.getElem?_map,uZ];rfl
  have Ca:∀e∈o.after.toList,Region.binds .any e=true->gb aK e.on=true:=λe he L9=>RL e (by simpa using he) L9
  have before:∀m' fO,its[m']?=some fO->m'<k->gb aK m'=false->Fg fO.tr it.tr=true:=by
   intro m' fO hm bf hd
   rcases B6 cV k m' it.tr fO.tr b B_ hb (by simpa using bf) (by rw[List.nil_append,List.getElem?_map,hm];rfl)with h1|h1
   ·rw[Gl pE ho Ca hb h1]at hd;cases hd
   ·exact h1
  have behind:∀m' fO,its[m']?=some fO->k<m'->gb aK m'=true->Fg it.tr fO.tr=true:=by
   intro m' fO hm bf hd
   have hml:m'<ops.size:=by rw[<-hlen];exact(List.getElem?_eq_some_iff.1 hm).1
   obtain⟨b',jU⟩:∃b',(mC [] ops.toList)[m']?=some b':=⟨_,List.getElem?_eq_getElem (by omega)⟩
   rcases B6 cV m' k fO.tr it.tr b' (by rw[List.getElem?_map,hm];rfl) jU (by simpa using bf) (by rw[List.nil_append];exact B_)with h1|h1
   ·rw[L7 pE m' b' k hd jU h1]at pT;cases pT
   ·exact h1
  have qL:∀r∈it.rd,(lq (gb aK) 0 s0 its).get r=(lq (λ_=>true) 0 s0 (its.take k)).get r:=by
   intro r hr
   refine L3 rfl (by omega) (λm' fO hm bf hd=>?_) (λm' fO hm hle hd=>?_)
   ·rw[Nat.zero_add]at hd;exact(RJ (before m' fO hm bf hd)).1 r hr
   ·rw[Nat.zero_add]at hd
    by_cases he:m'=k
    ·subst he;rw[pT]at hd;cases hd
    ·exact(RJ (behind m' fO hm (by omega) hd)).2.2 r hr
  have wZ:∀j,it.lo<=j->j<it.hi->¬MD c0 its (gb aK) j:=by
   rintro j h1 h2 (h3|⟨m,fO,hm,hd,h3,h4⟩)
   ·omega
   ·rcases Nat.lt_trichotomy m k with bf|heq|Li
    ·have:=hc.apart m k fO it hm uZ bf;omega
    ·subst heq;rw[pT]at hd;cases hd
    ·have:=hc.apart k m it fO uZ hm Li;omega
  rw[Nat.zero_add]at g1
  refine g1 (MD c0 its (gb aK)) (lq (gb aK) 0 s0 its) G a w _ qL jR nx wZ λG' a' w' iM FT=>?_
  have oH:=Gn (i:=k) Gq
  refine ih (aK.setIfInBounds k true) a' w' (by simp[hs]) ?_ ?_ ?_ FT
  ·have:=B8 aK.toList k (by
    unfold gb at pT
    rw[Array.getD_eq_getD_getElem?,<-Array.getElem?_toList]at pT
    rw[List.getElem?_eq_getElem (by simpa using Gq)]at pT⊢
    simpa using pT)
   rw[Array.toList_setIfInBounds]
   omega
  ·rw[oH]
   intro j oj hj L_ e he L9
   unfold lr at hj⊢
   by_cases UJ:j=k
   ·subst UJ
    rw[ho]at L_
    cases L_
    by_cases x9:e.on=j
    ·simp[x9]
    ·rw[if_neg x9];exact Ca e he L9
   ·rw[if_neg UJ]at hj
    by_cases x9:e.on=k
    ·simp[x9]
    ·rw[if_neg x9];exact pE j oj hj L_ e he L9
  ·refine⟨G',?_⟩
   rw[oH]
   refine(iM.mono ?_).congr λr=>?_
   ·rintro j (h1|⟨h1,h2⟩)
    ·rcases h1 with h1|⟨m,fO,hm,hd,h3⟩
     ·exact .inl h1
     ·exact .inr ⟨m,fO,hm,by unfold lr;split<;>simp_all,h3⟩
    ·exact .inr ⟨k,it,uZ,by simp[lr],h1,h2⟩
   ·have:=L1 (D:=gb aK) (i:=0) uZ (by rw[Nat.zero_add];exact pT) (s:=s0) (λm' fO hm bf hd r=>by
     rw[Nat.zero_add]at hd
     rcases(RJ (behind m' fO hm bf hd)).2.1 r with h1|h1
     ·exact .inr h1
     ·exact .inl h1) r
    rw[Nat.zero_add]at this
    exact this.symm
end
section
variable {B:e_} {f:Fr} {S:Nat->af} {P:Program} {cx:Cx} {di:nD} {cJ fA:Nat} {R:Nat} {Q:Exit->Act->World->Prop} {ops:Array Oper} {out:List T} {K0:Zb}
theorem L'(E:Env P cx S)(hn:∀o∈ops.toList,∀n,o.dst=some n->n<f.nt){fin:List Tr->KP}{K:List af}:
  ∀(os:List Oper) (i:Nat) (tr:List Tr) (lv:Nat) (s:St) (ct:Ct) (fs:jZ) (p:PL) (ρ:List T),os <+:ops.toList.drop i->sG cx di cJ fA f.d ops true fin os i tr lv s ct fs=some p->
   p.den S R K ρ=some out->ρ.length=ct.a->dv fs ρ->∃its g_ e s' jC p',its.length=os.length∧
    (∀e',gY (λi it s=>uY P ops Q B f.d f.up f.nt (ρ++e++e') i it.rd it.wr it.lo it.hi s) i s ct.i its s' g_.i)∧
    fin (tr++its.map Item.tr) lv s' g_ jC=some p'∧p'.den S R K (ρ++e)=some out∧(ρ++e).length=g_.a∧dv jC (ρ++e)
 | [],i,tr,lv,s,ct,fs,p,ρ,_,h,hp,hl,hf=>by
  refine⟨[],ct,[],s,fs,p,rfl,λe'=>.nil,?_,by rw[List.append_nil];exact hp,by rw[List.append_nil];exact hl,by rw[List.append_nil];exact hf⟩
  rw[List.map_nil,List.append_nil];exact h
 |o::os,i,tr,lv,s,ct,fs,p,ρ,Gg,h,hp,hl,hf=>by
  obtain⟨te,qs⟩:=Gg
  have ho:ops[i]?=some o:=by
   rw[<-Array.getElem?_toList]
   have:=congrArg (·[0]?) qs.symm
   simpa using this
  have iW:=hn o (List.mem_of_mem_drop (i:=i) (by rw[<-qs];simp))
  have Gi:os <+:ops.toList.drop (i+1):=⟨te,by rw[<-List.drop_drop,<-qs];rfl⟩
  rcases Uz (P:=P) (Q:=Q) (B:=B) (up:=f.up) (nt:=f.nt) (R:=R) (K:=K) (out:=out) E ho iW (show A8 cx di cJ fA f.d ops true o i (sG cx di cJ fA f.d ops true fin os (i+1)) tr lv s ct fs=some p from h) hp hl hf with
   ⟨rd,wr,g_,e,jC,p',uZ,hle,sf,s8,kX,RH⟩|⟨hd,_⟩
  ·obtain⟨its,ct2,e2,s2,fs2,p2,q1,q2,q3,q4,q5,q6⟩:=L' E hn os (i+1) _ lv _ g_ jC p' (ρ++e) Gi sf s8 kX RH
   refine⟨⟨rd,wr,ct.i,g_.i⟩::its,ct2,e++e2,s2,fs2,p2,by simp[q1],λe'=>.cons ?_ rfl hle ?_,?_,by rw[<-List.append_assoc];exact q4,by rw[<-List.append_assoc];exact q5,by rw[<-List.append_assoc];exact q6⟩
   ·have:=uZ (e2++e')
    simp only[List.append_assoc]at this⊢
    exact this
   ·have:=q2 e'
    simp only[List.append_assoc]at this⊢
    exact this
   ·simp only[List.map_cons,Item.tr]
    rw[List.append_assoc]at q3
    exact q3
  ·cases hd
theorem Rel.drew{M:Nat->Prop}{d:Nat}{up:Nat->Nat->Value}{s:St}{ρ:List T}{G:Gh}{a:Act}{w:World}(h:Rel M B d up s ρ G a w):Rel M B d up s ρ G a {w with drawn:=w.drawn+1}:=by
 have k:dF (λ_=>False) (λ_=>False) G w G {w with drawn:=w.drawn+1}:=⟨Nat.le_refl _,λ_ _ h=>⟨h,rfl⟩,λ_ _ h=>h,λ_ _ h _=>⟨h,rfl⟩,λ_ _=>⟨rfl,λ_ _=>rfl⟩⟩
 exact⟨λe n he=>(h.tm e n he).bm k λ_ _ hf=>hf,λb=>(h.bx b).bm k (λhf=>hf) (λhf=>hf) λ_ _ hf=>hf,λi=>(h.ob i).bm k (λ_ hf=>hf) (λhf=>hf) λ_ _ hf=>hf,h.gm,h.key,h.iG,h.dn,
  ⟨h.base.os,h.base.tape,h.base.output,h.base.size,h.base.free,h.base.Ev,h.base.gl⟩,h.bt⟩
theorem ajk(E:Env P cx S)(hI:B5 P S R out B di)(uS:P.follows .mixedOrders=true)(hn:∀o∈ops.toList,∀n,o.dst=some n->n<f.nt){id:Nat}{draw:Bool}{k:KP}(hk:zq S R out B f K0 k (Q .normal))
  {lv:Nat}{s:St}{ct:Ct}{fs:jZ}{p:PL}{a:Act}{w:World}
  (h:sG cx di cJ fA f.d ops draw (λtr lv s ct fs=>bif draw then bif qk [] tr (mC [] ops.toList)&&yO 0 ops.toList then k lv s ct fs else some (.r7 (cJ*100000000+100000+id) [])else k lv s ct fs) ops.toList 0 [] lv s ct fs=some p)
  (bI:At S R out B f K0 XT p lv s ct fs a w):(Code.region id ops draw).wp P Q a w:=by
 cases draw with
 |false=>
  refine wp_region ?_
  rw[List.range_eq_range',<-Array.length_toList]
  exact LZ E hI hn (fin:=λtr lv s ct fs=>k lv s ct fs) (λtr=>hk) ops.toList 0 [] lv s ct fs p a w rfl h bI
 |true=>
  refine wp_region_any uS ?_
  obtain⟨K,ρ,G,h1,h2,h3,⟨e0,h0⟩,h4,h5,h6,h7,_⟩:=bI
  obtain⟨its,g_,e,s',jC,p',q1,q2,q3,q4,q5,q6⟩:=L' (Q:=Q) (B:=B) E hn ops.toList 0 [] lv s ct fs p ρ (List.prefix_refl _) h h1 h4 h5
  simp only[List.nil_append,cond_true]at q3
  cases hc:(qk [] (its.map Item.tr) (mC [] ops.toList)&&yO 0 ops.toList)with
  |false=>
   rw[hc]at q3
   simp only[cond_false,bG]at q3
   subst q3
   cases q4
  |true=>
   rw[hc]at q3
   simp only[cond_true]at q3
   simp only[bD]at hc
   have RM:=q2 []
   rw[List.append_nil]at RM
   have dj:∀j,gb (Array.replicate ops.size false) j=false:=by
    intro j
    unfold gb
    rw[Array.getD_eq_getD_getElem?,Array.getElem?_replicate]
    split<;>rfl
   refine ajj (B:=B) RM (by rw[q1];simp) hc.1 hc.2 (λG a w hr hs=>hk lv s' g_ jC p' a w q3 ⟨K,ρ++e,G,q4,h2,h3,⟨e0++e,by rw[h0,List.append_assoc]⟩,q5,q6,hr,hs,trivial⟩) ops.size _ a _ (by simp)
    (by rw[Array.toList_replicate,Gm];exact Nat.le_refl _) (λj o hj=>by rw[dj j]at hj;cases hj) ⟨G,?_⟩ h7
   rw[L0 λm _=>dj _]
   exact(h6.ext.drew).mono λi hi=>.inl hi
end
def JS(Q:Exit->Act->World->Prop):Exit->Act->World->Prop:=λe=>match e with| .normal=>Q .normal|_=>λ_ _=>False
theorem Cb{n i:Nat}(h:i<=n):(wG n i).size=n:=by
 unfold wG;simp;omega
theorem Gr{n i:Nat}(h:i<=n)(j:Nat):gb (wG n i) j=decide (j<i):=by
 unfold gb wG
 rw[Array.getD_eq_getD_getElem?]
 simp only[List.getElem?_toArray]
 by_cases h1:j<i
 ·rw[List.getElem?_append_left (by simpa using h1)]
  simp[h1]
 ·rw[List.getElem?_append_right (by simp;omega)]
  simp only[List.length_replicate,List.getElem?_replicate]
  by_cases h2:j-i<n-i
  ·simp[h1,h2]
  ·simp[h1,h2]
theorem ajl{n i:Nat}(h:i<n):(wG n i).setIfInBounds i true=wG n (i+1):=by
 apply Array.ext
 ·rw[Array.size_setIfInBounds,Cb (by omega),Cb (by omega)]
 ·intro j h1 h2
  have e1:=Gr (n:=n) (i:=i) (by omega) j
  have e2:=Gr (n:=n) (i:=i+1) (by omega) j
  rw[Array.size_setIfInBounds]at h1
  rw[Array.getElem_setIfInBounds h1]
  unfold gb at e1 e2
  rw[Array.getD_eq_getD_getElem?,Array.getElem?_eq_getElem h1,Option.getD_some]at e1
  rw[Array.getD_eq_getD_getElem?,Array.getElem?_eq_getElem h2,Option.getD_some]at e2
  rw[e1,e2]
  split
  ·simp;omega
  ·by_cases h3:j<i
   ·simp[h3];omega
   ·simp[h3];omega
theorem UK{l:Array Bool}{j:Nat}(h:j<l.size):l.getD j true=gb l j:=by
 unfold gb
 rw[Array.getD_eq_getD_getElem?,Array.getD_eq_getD_getElem?,Array.getElem?_eq_getElem h]
 rfl
theorem RN{ops:Array Oper}{l:Array Bool}(hs:l.size=ops.size){j:Nat}:j∈Region.ready .any ops l↔gb l j=false∧∃o,ops[j]?=some o∧∀e∈o.after.toList,Region.binds .any e=true->gb l e.on=true:=by
 rw[mem_ready]
 constructor
 ·rintro⟨h1,o,ho,h2⟩
  have hj:j<ops.size:=(Array.getElem?_eq_some_iff.1 ho).1
  exact⟨by rw[<-UK (by omega)];exact h1,o,ho,λe he hb=>h2 e (by simpa using he) hb⟩
 ·rintro⟨h1,o,ho,h2⟩
  have hj:j<ops.size:=(Array.getElem?_eq_some_iff.1 ho).1
  exact⟨by rw[UK (by omega)];exact h1,o,ho,λe he hb=>h2 e (by simpa using he) hb⟩
theorem ajm{ops:Array Oper}(xZ:yO 0 ops.toList=true){i:Nat}(hi:i<=ops.size):u9 ops (gb (wG ops.size i)):=by
 intro j o hj ho e he hb
 rw[Gr hi]at hj⊢
 have:=B7 xZ j o (by simpa using ho) e he hb
 simp only[decide_eq_true_eq]at hj⊢
 omega
structure Gs (ops:Array Oper) (c:Nat) (h:Bool):Prop where
 lt:c<ops.size
 bits:∀j,c<=j->j<ops.size->∀u,u<j->(h=true∧u=0)∨Nat.testBit ((mC [] ops.toList).getD j 0) u=true
 UL:h=true->KM ops=true
 pos:h=true->0<c
theorem ajn{ops:Array Oper}{c:Nat}{h:Bool}(hc:Fv ops c h=true):Gs ops c h:=by
 unfold Fv at hc
 simp only[bD,List.all_eq_true,Bool.or_eq_true,Bool.not_eq_true']at hc
 obtain⟨⟨h1,h2⟩,h3⟩:=hc
 have h1:c<ops.size:=Nat.lt_of_succ_le (by simpa[Nat.blt]using h1)
 refine⟨h1,λj hj hn u hu=>?_,λhh=>?_,λhh=>?_⟩
 ·have:=h2 j (by rw[List.mem_range'_1];omega) u (by simpa using hu)
  rcases this with h|h
  ·exact .inl ⟨h.1,ef h.2⟩
  ·exact .inr h
 ·rcases h3 with h3|h3
  ·rw[hh]at h3;cases h3
  ·exact h3.1
 ·rcases h3 with h3|h3
  ·rw[hh]at h3;cases h3
  ·exact Nat.lt_of_succ_le (by simpa[Nat.blt]using h3.2)
section
variable {B:e_} {f:Fr} {S:Nat->af} {P:Program} {cx:Cx} {di:nD} {cJ fA:Nat} {R:Nat} {Q:Exit->Act->World->Prop} {ops:Array Oper} {out:List T} {K0:Zb}
theorem UM{j:Nat}(hj:j<ops.size):(mC [] ops.toList)[j]?=some ((mC [] ops.toList).getD j 0):=by
 have hl:(mC [] ops.toList).length=ops.size:=by rw[Gk];simp
 rw[List.getD_eq_getElem?_getD,List.getElem?_eq_getElem (by omega)]
 rfl
theorem ajo{c:Nat}{h:Bool}(hc:Gs ops c h)(xZ:yO 0 ops.toList=true){i:Nat}(hi:c<=i)(hn:i<ops.size):Region.ready .any ops (wG ops.size i)=[i]:=by
 have hs:=Cb (n:=ops.size) (i:=i) (by omega)
 have iX:∀j,j∈Region.ready .any ops (wG ops.size i)↔j=i:=by
  intro j
  rw[RN hs]
  constructor
  ·rintro⟨h1,o,ho,h2⟩
   have hj:j<ops.size:=(Array.getElem?_eq_some_iff.1 ho).1
   rw[Gr (by omega)]at h1
   simp only[decide_eq_false_iff_not]at h1
   refine Classical.byContradiction λdH=>?_
   rcases hc.bits j (by omega) hj i (by omega)with⟨hh,h0⟩|hb
   ·have:=hc.pos hh;omega
   ·have:=Gl (ajm xZ (by omega)) ho h2 (UM hj) hb
    rw[Gr (by omega)]at this
    simp at this
  ·rintro rfl
   refine⟨by rw[Gr (by omega)];simp,ops[j],Array.getElem?_eq_getElem hn,λe he hb=>?_⟩
   rw[Gr (by omega)]
   have:=B7 xZ j ops[j] (by simp) e he hb
   simp;omega
 have EJ:(Region.ready .any ops (wG ops.size i)).Nodup:=by
  unfold Region.ready
  exact List.Nodup.sublist List.filter_sublist List.nodup_range
 generalize Region.ready .any ops (wG ops.size i)=l at iX EJ
 match l,iX,EJ with
 | [],hm,_=>have:=(hm i).2 rfl;cases this
 | [x],hm,_=>rw[(hm x).1 (by simp)]
 |x::y::l,hm,hd=>
  have h1:=(hm x).1 (by simp)
  have h2:=(hm y).1 (by simp)
  rw[h1,h2]at hd
  simp at hd
theorem UN{c:Nat}{h:Bool}(hc:Gs ops c h)(xZ:yO 0 ops.toList=true):∀(d i:Nat) (a:Act) (w:World),c<=i->i+d=ops.size->wpOps P ops Q (List.range' i d) a w->wpAny P .any ops Q d (wG ops.size i) a w
 |0,i,a,w,hi,hd,hw=>by
  refine wpAny_done ?_ hw 0
  refine List.eq_nil_iff_forall_not_mem.2 λj hj=>?_
  rw[RN (Cb (by omega))]at hj
  obtain⟨h1,o,ho,_⟩:=hj
  have:=(Array.getElem?_eq_some_iff.1 ho).1
  rw[Gr (by omega)]at h1
  simp at h1
  omega
 |d+1,i,a,w,hi,hd,hw=>by
  refine wpAny_all (ajo hc xZ hi (by omega)) (by simp) λk hk=>?_
  rw[List.mem_singleton]at hk
  subst hk
  rw[List.range'_succ,wpOps_cons]at hw
  rw[ajl (by omega)]
  exact wpOp_mono (λa w h=>UN hc xZ d (k+1) a w (by omega) (by omega) h) hw
theorem UO:∀{l:List Bool},(∀i,i<l.length->l[i]?=some true)->vY l=0
 | [],_=>rfl
 |b::l,h=>by
  have h0:=h 0 (by simp)
  simp at h0
  subst h0
  have:=UO (l:=l) λi hi=>by have:=h (i+1) (by simp;omega);simpa using this
  simpa[vY]using this
theorem UP{d:Nat}{up:Nat->Nat->Value}{nt:Nat}{ρ:List T}{its:List Item}{s0 s1:St}{c0 c1 c:Nat}(hc:gY (λi it s=>uY P ops Q B d up nt ρ i it.rd it.wr it.lo it.hi s) 0 s0 c0 its s1 c1)(hlen:its.length=c)(hcn:c<=ops.size)
  (cV:qk [] (its.map Item.tr) (mC [] ops.toList)=true){aK:Array Bool}{a:Act}{w:World}{k:Nat}(hs:aK.size=ops.size)(pE:u9 ops (gb aK))
  (hr:∃G,Rel (MD c0 its (gb aK)) B d up (lq (gb aK) 0 s0 its) ρ G a w)(nx:a.tmps.size=nt)(hk:k∈Region.ready .any ops aK)(hkc:k<c){K:Act->World->Prop}
  (hK:∀a' w',u9 ops (gb (aK.setIfInBounds k true))->(∃G,Rel (MD c0 its (gb (aK.setIfInBounds k true))) B d up (lq (gb (aK.setIfInBounds k true)) 0 s0 its) ρ G a' w')->a'.tmps.size=nt->K a' w'):wpOp P ops Q k K a w:=by
 have UI:(mC [] ops.toList).length=ops.size:=by rw[Gk];simp
 obtain⟨pT,o,ho,Ca⟩:=(RN hs).1 hk
 obtain⟨G,jR⟩:=hr
 have Gp:k<ops.size:=(Array.getElem?_eq_some_iff.1 ho).1
 have Gq:k<aK.size:=by omega
 obtain⟨it,uZ⟩:∃it,its[k]?=some it:=⟨its[k]'(by omega),List.getElem?_eq_getElem (by omega)⟩
 obtain⟨b,hb⟩:∃b,(mC [] ops.toList)[k]?=some b:=⟨_,List.getElem?_eq_getElem (by omega)⟩
 obtain⟨g1,g2,g3,g4⟩:=hc.get k it uZ
 have B_:(its.map Item.tr)[k]?=some it.tr:=by rw[List.getElem?_map,uZ];rfl
 have before:∀m' fO,its[m']?=some fO->m'<k->gb aK m'=false->Fg fO.tr it.tr=true:=by
  intro m' fO hm bf hd
  rcases B6 cV k m' it.tr fO.tr b B_ hb (by simpa using bf) (by rw[List.nil_append,List.getElem?_map,hm];rfl)with h1|h1
  ·rw[Gl pE ho Ca hb h1]at hd;cases hd
  ·exact h1
 have behind:∀m' fO,its[m']?=some fO->k<m'->gb aK m'=true->Fg it.tr fO.tr=true:=by
  intro m' fO hm bf hd
  have hml:m'<ops.size:=by have:=(List.getElem?_eq_some_iff.1 hm).1;omega
  obtain⟨b',jU⟩:∃b',(mC [] ops.toList)[m']?=some b':=⟨_,List.getElem?_eq_getElem (by omega)⟩
  rcases B6 cV m' k fO.tr it.tr b' (by rw[List.getElem?_map,hm];rfl) jU (by simpa using bf) (by rw[List.nil_append];exact B_)with h1|h1
  ·rw[L7 pE m' b' k hd jU h1]at pT;cases pT
  ·exact h1
 have qL:∀r∈it.rd,(lq (gb aK) 0 s0 its).get r=(lq (λ_=>true) 0 s0 (its.take k)).get r:=by
  intro r hr
  refine L3 rfl (by omega) (λm' fO hm bf hd=>?_) (λm' fO hm hle hd=>?_)
  ·rw[Nat.zero_add]at hd;exact(RJ (before m' fO hm bf hd)).1 r hr
  ·rw[Nat.zero_add]at hd
   by_cases he:m'=k
   ·subst he;rw[pT]at hd;cases hd
   ·exact(RJ (behind m' fO hm (by omega) hd)).2.2 r hr
 have wZ:∀j,it.lo<=j->j<it.hi->¬MD c0 its (gb aK) j:=by
  rintro j h1 h2 (h3|⟨m,fO,hm,hd,h3,h4⟩)
  ·omega
  ·rcases Nat.lt_trichotomy m k with bf|heq|Li
   ·have:=hc.apart m k fO it hm uZ bf;omega
   ·subst heq;rw[pT]at hd;cases hd
   ·have:=hc.apart k m it fO uZ hm Li;omega
 rw[Nat.zero_add]at g1
 refine g1 (MD c0 its (gb aK)) (lq (gb aK) 0 s0 its) G a w _ qL jR nx wZ λG' a' w' iM FT=>?_
 have oH:=Gn (i:=k) Gq
 refine hK a' w' ?_ ?_ FT
 ·rw[oH]
  intro j oj hj L_ e he L9
  unfold lr at hj⊢
  by_cases UJ:j=k
  ·subst UJ
   rw[ho]at L_
   cases L_
   by_cases x9:e.on=j
   ·simp[x9]
   ·rw[if_neg x9];exact Ca e he L9
  ·rw[if_neg UJ]at hj
   by_cases x9:e.on=k
   ·simp[x9]
   ·rw[if_neg x9];exact pE j oj hj L_ e he L9
 ·refine⟨G',?_⟩
  rw[oH]
  refine(iM.mono ?_).congr λr=>?_
  ·rintro j (h1|⟨h1,h2⟩)
   ·rcases h1 with h1|⟨m,fO,hm,hd,h3⟩
    ·exact .inl h1
    ·exact .inr ⟨m,fO,hm,by unfold lr;split<;>simp_all,h3⟩
   ·exact .inr ⟨k,it,uZ,by simp[lr],h1,h2⟩
  ·have:=L1 (D:=gb aK) (i:=0) uZ (by rw[Nat.zero_add];exact pT) (s:=s0) (λm' fO hm bf hd r=>by
    rw[Nat.zero_add]at hd
    rcases(RJ (behind m' fO hm bf hd)).2.1 r with h1|h1
    ·exact .inr h1
    ·exact .inl h1) r
   rw[Nat.zero_add]at this
   exact this.symm
theorem ajp{d:Nat}{up:Nat->Nat->Value}{nt:Nat}{ρ:List T}{its:List Item}{s0 s1:St}{c0 c1 c:Nat}{h:Bool}(jh:Gs ops c h)(hc:gY (λi it s=>uY P ops Q B d up nt ρ i it.rd it.wr it.lo it.hi s) 0 s0 c0 its s1 c1)(hlen:its.length=c)
  (cV:qk [] (its.map Item.tr) (mC [] ops.toList)=true)(xZ:yO 0 ops.toList=true)(hK:∀G a w,Rel (λi=>i<c1) B d up s1 ρ G a w->a.tmps.size=nt->wpAny P .any ops Q (ops.size-c) (wG ops.size c) a w):
  ∀(m:Nat) (aK:Array Bool) (a:Act) (w:World),aK.size=ops.size->vY (aK.toList.take c)=m->(∀j,c<=j->gb aK j=false)->(h=true->gb aK 0=true)->u9 ops (gb aK)->
   (∃G,Rel (MD c0 its (gb aK)) B d up (lq (gb aK) 0 s0 its) ρ G a w)->a.tmps.size=nt->wpAny P .any ops Q (m+(ops.size-c)) aK a w:=by
 have hcn:=jh.lt
 have at_:∀(aK:Array Bool) (j:Nat),aK.size=ops.size->j<c->(aK.toList.take c)[j]?=some (gb aK j):=by
  intro aK j hs hj
  rw[List.getElem?_take_of_lt hj,Array.getElem?_toList]
  unfold gb
  rw[Array.getD_eq_getD_getElem?,Array.getElem?_eq_getElem (by omega)]
  rfl
 intro m
 induction m with
 |zero=>
  intro aK a w hs hf hz _ pE hr nx
  have s7:∀j,j<c->gb aK j=true:=by
   intro j hj
   have:=L8 _ hf j (by simp;omega)
   rw[at_ aK j hs hj]at this
   simpa using this
  have hl:aK=wG ops.size c:=by
   apply Array.ext
   ·rw[hs,Cb (by omega)]
   ·intro j h1 h2
    have e2:=Gr (n:=ops.size) (i:=c) (by omega) j
    have e1:gb aK j=decide (j<c):=by
     by_cases hj:j<c
     ·rw[s7 j hj];simp[hj]
     ·rw[hz j (by omega)];simp[hj]
    unfold gb at e1 e2
    rw[Array.getD_eq_getD_getElem?,Array.getElem?_eq_getElem h1,Option.getD_some]at e1
    rw[Array.getD_eq_getD_getElem?,Array.getElem?_eq_getElem h2,Option.getD_some]at e2
    rw[e1,e2]
  obtain⟨G,jR⟩:=hr
  rw[hc.last λm hm=>by rw[Nat.zero_add];exact s7 m (by omega)]at jR
  rw[Nat.zero_add]
  have:=hK G a w (jR.mono λj hj=>by
   rcases hj with h1|⟨m,it,hm,_,_,h3⟩
   ·exact Nat.lt_of_lt_of_le h1 hc.le
   ·exact Nat.lt_of_lt_of_le h3 (hc.get m it hm).2.2.2) nx
  rw[hl]
  exact this
 |succ m ih=>
  intro aK a w hs hf hz hh pE hr nx
  rw[show m+1+(ops.size-c)=(m+(ops.size-c))+1 by omega]
  refine⟨λRK=>?_,λk hk=>?_⟩
  ·exfalso
   have gone:∀j,j<ops.size->gb aK j=true:=by
    intro j
    induction j using Nat.strongRecOn with
    |_ j ihj=>
     intro hj
     cases hd:gb aK j with
     |true=>rfl
     |false=>
      exfalso
      have:j∈Region.ready .any ops aK:=(RN hs).2 ⟨hd,ops[j],Array.getElem?_eq_getElem hj,λe he hb=>by
       have bf:=B7 xZ j ops[j] (by simp) e he hb
       exact ihj e.on (by omega) (by omega)⟩
      rw[RK]at this
      cases this
   have:=gone c hcn
   rw[hz c (by omega)]at this
   cases this
  ·obtain⟨pT,o,ho,RL⟩:=(RN hs).1 hk
   have Gp:k<ops.size:=(Array.getElem?_eq_some_iff.1 ho).1
   by_cases hkc:c<=k
   ·exfalso
    have:vY (aK.toList.take c)=0:=UO λj hj=>by
     have hj:j<c:=by simp at hj;omega
     rw[at_ aK j hs hj]
     congr 1
     rcases jh.bits k hkc Gp j (by omega)with⟨h1,rfl⟩|hb
     ·exact hh h1
     ·exact Gl pE ho RL (UM Gp) hb
    omega
   ·refine UP hc hlen (by omega) cV hs pE hr nx hk (by omega) λa' w' Ma iM Mb=>?_
    have Gq:k<aK.size:=by omega
    have oH:=Gn (i:=k) Gq
    refine ih (aK.setIfInBounds k true) a' w' (by simp[hs]) ?_ (λj hj=>?_) (λh1=>?_) Ma iM Mb
    ·have:=B8 (aK.toList.take c) k (by rw[at_ aK k hs (by omega),pT])
     rw[Array.toList_setIfInBounds,List.take_set]
     omega
    ·rw[oH];unfold lr
     rw[if_neg (by omega)]
     exact hz j hj
    ·rw[oH];unfold lr
     split
     ·rfl
     ·exact hh h1
theorem UQ(E:Env P cx S)(hI:B5 P S R out B di)(uS:P.follows .mixedOrders=true)(hn:∀o∈ops.toList,∀n,o.dst=some n->n<f.nt){id:Nat}{draw:Bool}{k:KP}(hk:zq S R out B f K0 k (Q .normal))
  {lv:Nat}{s:St}{ct:Ct}{fs:jZ}{p:PL}{a:Act}{w:World}(h:Fw cx di cJ id f.d ops draw k lv s ct fs=some p)(bI:At S R out B f K0 XT p lv s ct fs a w):(Code.region id ops draw).wp P Q a w:=by
 unfold Fw at h
 split at h
 ·exact ajk E hI uS hn hk h bI
 rename_i c hh ajq
 cases draw with
 |false=>cases ajq
 |true=>
 refine Code.wp_mono (Q:=JS Q) (λe a w h=>by cases e<;>first|exact h|exact h.elim) ?_
 refine wp_region_any uS ?_
 obtain⟨K,ρ,G,h1,h2,h3,⟨e0,h0⟩,h4,h5,h6,h7,_⟩:=bI
 obtain⟨its,g_,e,s',jC,p',q1,q2,q3,q4,q5,q6⟩:=L' (Q:=JS Q) (B:=B) E hn (ops.toList.take c) 0 [] lv s ct fs p ρ (List.take_prefix c _) h h1 h4 h5
 simp only[List.nil_append]at q3
 cases hc:(qk [] (its.map Item.tr) (mC [] ops.toList)&&(yO 0 ops.toList&&Fv ops c hh))with
 |false=>
  rw[hc]at q3
  simp only[cond_false,bG]at q3
  subst q3
  cases q4
 |true=>
 rw[hc]at q3
 simp only[cond_true]at q3
 simp only[bD]at hc
 obtain⟨cV,xZ,hcu⟩:=hc
 have jh:=ajn hcu
 have pE:=jh.lt
 have RM:=q2 []
 rw[List.append_nil]at RM
 have hlen:its.length=c:=by rw[q1,List.length_take,Array.length_toList];omega
 have hK:∀G a w,Rel (λi=>i<g_.i) B f.d f.up s' (ρ++e) G a w->a.tmps.size=f.nt->wpAny P .any ops (JS Q) (ops.size-c) (wG ops.size c) a w:=λG a w hr hs=>by
  have:=LZ (Q:=JS Q) (K0:=K0) E hI hn (fin:=λ_=>k) (λ_=>hk) (ops.toList.drop c) c [] lv s' g_ jC p' a w rfl q3 ⟨K,ρ++e,G,q4,h2,h3,⟨e0++e,by rw[h0,List.append_assoc]⟩,q5,q6,hr,hs,trivial⟩
  rw[List.length_drop,Array.length_toList]at this
  exact UN jh xZ (ops.size-c) c a w (Nat.le_refl _) (by omega) this
 have main:=ajp jh RM hlen cV xZ hK
 have dj:∀j,gb (Array.replicate ops.size false) j=false:=by
  intro j
  unfold gb
  rw[Array.getD_eq_getD_getElem?,Array.getElem?_replicate]
  split<;>rfl
 have UR:u9 ops (gb (Array.replicate ops.size false)):=λj o hj=>by rw[dj j]at hj;cases hj
 have jR:∃G,Rel (MD ct.i its (gb (Array.replicate ops.size false))) B f.d f.up (lq (gb (Array.replicate ops.size false)) 0 s its) (ρ++e) G a {w with drawn:=w.drawn+1}:=by
  refine⟨G,?_⟩
  rw[L0 λm _=>dj _]
  exact(h6.ext.drew).mono λi hi=>.inl hi
 cases hh with
 |false=>
  have:=main c (Array.replicate ops.size false) a _ (by simp) (by rw[Array.toList_replicate,List.take_replicate,Gm];omega) (λj _=>dj j) (by simp) UR jR h7
  rw[show c+(ops.size-c)=ops.size by omega]at this
  exact this
 |true=>
  have Mc:=jh.pos rfl
  have ub:=jh.UL rfl
  unfold KM at ub
  split at ub
  ·cases ub
  rename_i o os Gg
  simp only[bD,List.all_eq_true,Option.isNone_iff_eq_none,Bool.or_eq_true,List.any_eq_true,Bool.not_eq_true']at ub
  obtain⟨⟨⟨⟨ajr,hgu⟩,tZ⟩,haf⟩,hap⟩:=ub
  have ho0:ops[0]?=some o:=by rw[<-Array.getElem?_toList,Gg];rfl
  obtain⟨x,hx⟩:∃x,o.op=.move x:=by
   revert tZ
   cases o.op<;>intro tZ<;>first|exact⟨_,rfl⟩|cases tZ
  have eR:∀w,(execOp a.eval o).run P w=.ok (.value (a.eval x)) w:=λw=>by unfold execOp;rw[hx];rfl
  have JT:Region.wanted o (yielded ops a.tmps)=true:=by unfold Region.wanted;rw[hgu]
  have Cc:0∈Region.ready .any ops (Array.replicate ops.size false):=(RN (by simp)).2 ⟨dj 0,o,ho0,λe he hb=>by rw[haf e he]at hb;cases hb⟩
  have eo:wpOp P ops (JS Q) 0 (wpAny P .any ops (JS Q) (ops.size-1) ((Array.replicate ops.size false).setIfInBounds 0 true)) a {w with drawn:=w.drawn+1}:=by
   refine UP RM hlen (by omega) cV (by simp) UR jR h7 Cc Mc λa' w' Ma iM Mb=>?_
   have oH:=Gn (aK:=Array.replicate ops.size false) (i:=0) (by simp;omega)
   have:=main (c-1) ((Array.replicate ops.size false).setIfInBounds 0 true) a' w' (by simp) ?_ (λj hj=>?_) (λ_=>?_) Ma iM Mb
   ·rw[show c-1+(ops.size-c)=ops.size-1 by omega]at this
    exact this
   ·have h9:=B8 (List.replicate c false) 0 (by rw[List.getElem?_replicate];simp;omega)
    rw[Gm]at h9
    rw[Array.toList_setIfInBounds,Array.toList_replicate,List.take_set,List.take_replicate,Nat.min_eq_left (by omega)]
    omega
   ·rw[oH];unfold lr
    rw[if_neg (by omega)]
    exact dj j
   ·rw[oH];simp[lr]
  have jP:wpAny P .any ops (JS Q) (ops.size-1) ((Array.replicate ops.size false).setIfInBounds 0 true) (a.put o.dst (a.eval x)) {w with drawn:=w.drawn+1}:=by
   unfold wpOp at eo
   simp only[ho0,JT,if_true]at eo
   rcases eo with eo|⟨_,a0,w0,hf⟩
   ·simp only[Oper.wp,eR]at eo
    exact eo
   ·exact hf.elim
  have US:=wpAny_first (md:=.any) (Q:=JS Q) ho0 (λj oj cs b hj heq=>by
    have hm:oj∈o::os:=by rw[<-Gg];exact List.mem_of_getElem? (by rw[Array.getElem?_toList];exact hj)
    have:=ajr oj hm
    rw[heq]at this
    cases this) (λc a w h=>h.elim) (ops.size-1) (Array.replicate ops.size false) a {w with drawn:=w.drawn+1} (λj oj hj dH _ Rt=>by
    have hm:oj∈os:=by
     have:ops.toList[j]?=some oj:=by rw[Array.getElem?_toList];exact hj
     rw[Gg]at this
     obtain⟨j',rfl⟩:∃j',j=j'+1:=⟨j-1,by omega⟩
     exact List.mem_of_getElem? (by simpa using this)
    rcases hap oj hm with⟨e,he,hb⟩|hb
    ·exact absurd (ef hb.2) (Rt e (by simpa using he) hb.1)
    ·exact hb) Cc (.inl ⟨JT,eR⟩) jP
  rw[show ops.size-1+1=ops.size by omega]at US
  exact US
end
theorem Md:∀{p q:np},wC p q=true->p=q
 | [],[],_=>rfl
 |(x,w,j)::p,(x',w',j')::q,h=>by
  simp only[wC,bD]at h
  obtain⟨⟨⟨h1,h2⟩,h3⟩,h4⟩:=h
  rw[Lf.beq_eq h1,ef h2,ef h3,Md h4]
 | [],_::_,h=>by simp[wC]at h
 |_::_,[],h=>by simp[wC]at h
theorem Ce.beq_eq{c e:Ce}(h:c.beq e=true):c=e:=by
 cases c<;>cases e<;>simp only[Ce.beq,bD]at h<;>try cases h
 ·rw[Lf.beq_eq h]
 ·rename_i h1 h2;rw[ef h1,Md h2]
 ·rfl
 ·rfl
theorem Me:∀{cs es:List Ce},wD cs es=true->cs=es
 | [],[],_=>rfl
 |c::cs,e::es,h=>by simp only[wD,bD]at h;rw[Ce.beq_eq h.1,Me h.2]
 | [],_::_,h=>by simp[wD]at h
 |_::_,[],h=>by simp[wD]at h
theorem UT:∀{cs es:List Nat},yQ cs es=true->cs=es
 | [],[],_=>rfl
 |c::cs,e::es,h=>by simp only[yQ,bD]at h;rw[ef h.1,UT h.2]
 | [],_::_,h=>by simp[yQ]at h
 |_::_,[],h=>by simp[yQ]at h
theorem UU:∀{cs es:List (Bool×List Ce)},yR cs es=true->cs=es
 | [],[],_=>rfl
 |(a,c)::cs,(b,e)::es,h=>by
  simp only[yR,bD,beq_iff_eq]at h
  rw[h.1.1,Me h.1.2,UU h.2]
 | [],_::_,h=>by simp[yR]at h
 |_::_,[],h=>by simp[yR]at h
theorem SV.beq_eq{v u:SV}(h:v.beq u=true):v=.un∨v=u:=by
 cases v with
 |un=>exact .inl rfl
 |v a cs=>
  cases u with
  |v b es=>simp only[SV.beq,bD,beq_iff_eq]at h;rw[h.1,Me h.2];exact .inr rfl
  |_=>simp[SV.beq]at h
 |pt b o=>
  cases u with
  |pt b o=>simp only[SV.beq,bD]at h;rw[ef h.1,ef h.2];exact .inr rfl
  |_=>simp[SV.beq]at h
 |ep i q x w o=>
  cases u with
  |ep i q x w o=>
   simp only[SV.beq,bD]at h
   obtain⟨⟨⟨⟨h1,h2⟩,h3⟩,h4⟩,h5⟩:=h
   rw[ef h1,Md h2,Lf.beq_eq h3,ef h4,ef h5];exact .inr rfl
  |_=>simp[SV.beq]at h
 |fp s x w o=>
  cases u with
  |fp s x w o=>
   simp only[SV.beq,bD]at h
   obtain⟨⟨⟨h1,h2⟩,h3⟩,h4⟩:=h
   rw[Lf.beq_eq h1,Lf.beq_eq h2,ef h3,ef h4];exact .inr rfl
  |_=>simp[SV.beq]at h
 |tp vs=>
  cases u with
  |tp us=>simp only[SV.beq]at h;rw[UU h];exact .inr rfl
  |_=>simp[SV.beq]at h
 |cl f bs=>
  cases u with
  |cl f bs=>simp only[SV.beq,bD]at h;rw[ef h.1,UT h.2];exact .inr rfl
  |_=>simp[SV.beq]at h
 |ob d x=>
  cases u with
  |ob d x=>simp only[SV.beq,bD,beq_iff_eq]at h;rw[h.1,Lf.beq_eq h.2];exact .inr rfl
  |_=>simp[SV.beq]at h
 |fz p x=>
  cases u with
  |fz q y=>
   simp only[SV.beq,bD]at h
   have e2:=Lf.beq_eq h.2
   subst e2
   have h1:=h.1
   cases p with
   |z=>
    cases q with
    |z=>exact .inr rfl
    |w=>simp[Pv.beq]at h1
   |w t x0 l=>
    cases q with
    |z=>simp[Pv.beq]at h1
    |w t' x0' l'=>
     simp only[Pv.beq,bD]at h1
     rw[ef h1.1.1,Lf.beq_eq h1.1.2,Lf.beq_eq h1.2];exact .inr rfl
  |_=>simp[SV.beq]at h
 |tk x m=>
  cases u with
  |tk y n=>simp only[SV.beq,bD]at h;rw[Lf.beq_eq h.1,Lf.beq_eq h.2];exact .inr rfl
  |_=>simp[SV.beq]at h
 |fl x=>
  cases u with
  |fl x=>simp only[SV.beq]at h;rw[Lf.beq_eq h];exact .inr rfl
  |_=>simp[SV.beq]at h
 |fr x=>
  cases u with
  |fr x=>simp only[SV.beq]at h;rw[Lf.beq_eq h];exact .inr rfl
  |_=>simp[SV.beq]at h
def zr(n:Nat)(ρ oe:List T):Prop:=∀m,m<n->ρ[m]?=oe[m]?
theorem x_{a b:Nat}(h:Nat.blt a b=true):a<b:=Nat.lt_of_succ_le (by simpa[Nat.blt]using h)
section
variable {G:Gh} {w:World} {ρ oe:List T} {n i:Nat}
theorem Lf.gL(ha:zr n ρ oe){x:Lf}(h:x.jx n=true):x.fW ρ=x.fW oe:=by
 cases x with
 |k v=>rfl
 |a m=>exact ha m (x_ h)
 |e=>rfl
theorem Gu(ha:zr n ρ oe){x:Lf}(h:x.jx n=true):mf ρ x=mf oe x:=by unfold mf;rw[Lf.gL ha h]
theorem UW(ha:zr n ρ oe):∀{q:np},yS n q=true->gU ρ q=gU oe q
 | [],_=>rfl
 |(x,w,j)::q,h=>by
  simp only[yS,bD]at h
  simp only[gU,Gu ha h.1,UW ha h.2]
theorem UX(ha:zr n ρ oe){id:Nat}{q:np}(h:yS n q=true):lE ρ id q=lE oe id q:=by
 cases q with
 |nil=>rfl
 |cons x q=>simp only[lE];rw[UW ha h]
theorem gv.ta(ha:zr n ρ oe){c:Ce}{v:Value}(hb:c.jx n i=true)(h:gv G w ρ c v):gv G w oe c v:=by
 cases c with
 |p x=>obtain⟨t,h1,h2⟩:=h;exact⟨t,by rw[<-Lf.gL ha hb];exact h1,h2⟩
 |o id q=>
  simp only[Ce.jx,bD]at hb
  obtain⟨p,h1,h2⟩:=h
  exact⟨p,by rw[<-UX ha hb.2];exact h1,h2⟩
 |n=>exact h
 |d=>exact h
theorem bk.ta(ha:zr n ρ oe):∀{cs:List Ce} {vs:List Value},qm n i cs=true->bk G w ρ cs vs->bk G w oe cs vs
 | [],[],_,_=>trivial
 |c::cs,v::vs,hb,h=>by
  simp only[qm,bD]at hb
  exact⟨h.1.ta ha hb.1,bk.ta ha hb.2 h.2⟩
 | [],_::_,_,h=>h.elim
 |_::_,[],_,h=>h.elim
theorem fC.ta(ha:zr n ρ oe){ag:Bool}{cs:List Ce}{c:Value}(hb:qm n i cs=true)(h:fC G w ρ ag cs c):fC G w oe ag cs c:=by
 cases ag with
 |true=>obtain⟨vs,h1,h2⟩:=h;exact⟨vs,h1,h2.ta ha hb⟩
 |false=>
  obtain⟨x,rfl,h2,h3⟩:=h
  simp only[qm,Bool.and_true]at hb
  exact⟨x,rfl,h2.ta ha hb,h3⟩
theorem gK.ta(ha:zr n ρ oe):∀{cs:List (Bool×List Ce)} {vs:List Value},yT n i cs=true->gK G w ρ cs vs->gK G w oe cs vs
 | [],[],_,_=>trivial
 |c::cs,v::vs,hb,h=>by
  simp only[yT,bD]at hb
  exact⟨h.1.ta ha hb.1,gK.ta ha hb.2 h.2⟩
 | [],_::_,_,h=>h.elim
 |_::_,[],_,h=>h.elim
theorem cK.ta(ha:zr n ρ oe){v:SV}{c:Value}(hb:v.jx n i=true)(h:cK G w ρ v c):cK G w oe v c:=by
 cases v with
 |un=>trivial
 |v ag cs=>exact fC.ta ha hb h
 |pt b off=>exact h
 |ep id q ix wd off=>
  simp only[SV.jx,bD]at hb
  obtain⟨p,b,m,cap,j,h1,h2,h3,h4⟩:=h
  exact⟨p,b,m,cap,j,by rw[<-UX ha hb.1.2];exact h1,h2,by rw[<-Gu ha hb.2];exact h3,h4⟩
 |fp s ix wd off=>
  simp only[SV.jx,bD]at hb
  obtain⟨xs,j,r,b,base,h1,h2,h3⟩:=h
  exact⟨xs,j,r,b,base,by rw[<-Lf.gL ha hb.1];exact h1,by rw[<-Gu ha hb.2];exact h2,h3⟩
 |tp vs=>obtain⟨us,h1,h2⟩:=h;exact⟨us,h1,h2.ta ha hb⟩
 |cl f bs=>exact h
 |ob dp x=>exact h
 |fz pv x=>exact h
 |tk x m=>exact h
 |fl x=>exact h
 |fr x=>exact h
theorem gk.ta(ha:zr n ρ oe){b:Nat}{v:SV}(hb:v.jx n i=true)(h:gk G w ρ b v):gk G w oe b v:=by
 cases v with
 |v ag cs=>obtain⟨h1,b9,elem,h2,h3⟩:=h;exact⟨h1,b9,elem,h2,h3.ta ha hb⟩
 |_=>exact h
theorem cL.ta(ha:zr n ρ oe){b:Nat}{v:SV}(hb:v.jx n i=true)(h:cL G w ρ b v):cL G w oe b v:=by
 cases v with
 |ob dp x=>obtain⟨t,h1,h2⟩:=h;exact⟨t,by rw[<-Lf.gL ha hb];exact h1,h2⟩
 |fz pv x=>
  simp only[SV.jx,bD]at hb
  obtain⟨t,h1,h2,h3⟩:=h
  refine⟨t,by rw[<-Lf.gL ha hb.2];exact h1,h2,?_⟩
  have mH:=hb.1
  cases pv with
  |z=>trivial
  |w tk x0 lo=>
   simp only[Pv.jx,bD]at mH
   obtain⟨g0,F,n,zs,g1,g2,g3⟩:=h3
   exact⟨g0,F,n,zs,by rw[<-Lf.gL ha mH.1.2];exact g1,by rw[<-Gu ha mH.2];exact g2,g3⟩
 |tk x m=>
  simp only[SV.jx,bD]at hb
  obtain⟨h0,F,u,h1,h2,h3⟩:=h
  exact⟨h0,F,u,by rw[<-Lf.gL ha hb.1];exact h1,by rw[<-Lf.gL ha hb.2];exact h2,h3⟩
 |fl x=>obtain⟨h0,t,h1,h2⟩:=h;exact⟨h0,t,by rw[<-Lf.gL ha hb];exact h1,h2⟩
 |fr x=>obtain⟨h0,t,h1,h2⟩:=h;exact⟨h0,t,by rw[<-Lf.gL ha hb];exact h1,h2⟩
 |_=>exact h
theorem JU:∀{cs:List Ce},qm n i cs=true->∀j∈dV cs,j<i
 | [],_,j,hj=>by simp[dV]at hj
 |c::cs,h,j,hj=>by
  simp only[qm,bD]at h
  cases c with
  |o id q=>
   simp only[Ce.jx,bD]at h
   simp only[dV,List.mem_cons]at hj
   rcases hj with rfl|hj
   ·exact x_ h.1.1
   ·exact JU h.2 j hj
  |p x=>exact JU h.2 j hj
  |n=>exact JU h.2 j hj
  |d=>exact JU h.2 j hj
theorem UY:∀{vs:List (Bool×List Ce)},yT n i vs=true->∀j∈sK vs,j<i
 | [],_,j,hj=>by simp[sK]at hj
 |v::vs,h,j,hj=>by
  simp only[yT,bD]at h
  simp only[sK,List.mem_append]at hj
  rcases hj with hj|hj
  ·exact JU h.1 j hj
  ·exact UY h.2 j hj
theorem SV.qa{v:SV}(h:v.jx n i=true):∀j∈dA v,j<i:=by
 intro j hj
 cases v with
 |un=>simp[dA]at hj
 |v ag cs=>exact JU h j hj
 |pt b off=>simp[dA]at hj;subst hj;exact x_ h
 |ep id q ix wd off=>simp[dA]at hj;subst hj;simp only[SV.jx,bD]at h;exact x_ h.1.1
 |fp s ix wd off=>simp[dA]at hj
 |tp vs=>exact UY h j hj
 |cl f bs=>simp only[SV.jx,List.all_eq_true]at h;exact x_ (h j (by simpa[dA]using hj))
 |ob dp x=>simp[dA]at hj
 |fz pv x=>
  cases pv with
  |z=>simp[dA]at hj
  |w tk x0 lo=>simp[dA]at hj;subst hj;simp only[SV.jx,Pv.jx,bD]at h;exact x_ h.1.1.1
 |tk x m=>simp[dA]at hj
 |fl x=>simp[dA]at hj
 |fr x=>simp[dA]at hj
end
theorem UZ{i0 i1:Nat}{all:nr}:∀{rn:nr},uA i0 i1 all rn=true->∀j x,(j,x)∈rn->i0<=j∧j<i1∧∀id,x=some id->nE all id=some j
 | [],_,j,x,h=>by simp at h
 |(j0,x0)::rn,h,j,x,hm=>by
  simp only[uA,bD]at h
  obtain⟨⟨⟨⟨h1,h2⟩,_⟩,h3⟩,h4⟩:=h
  rcases List.mem_cons.1 hm with hm|hm
  ·cases hm
   refine⟨Nat.le_of_ble_eq_true h1,x_ h2,λid he=>?_⟩
   subst he
   simp only[bD]at h3
   have h3:=h3.2
   split at h3
   ·rename_i k hk;rw[hk,ef h3]
   ·cases h3
  ·exact UZ h4 j x hm
theorem U0{i0 i1:Nat}{all:nr}:∀{rn:nr},uA i0 i1 all rn=true->∀j x,(j,x)∈rn->j%2=0
 | [],_,j,x,h=>by simp at h
 |(j0,x0)::rn,h,j,x,hm=>by
  simp only[uA,bD]at h
  obtain⟨⟨⟨⟨h1,h2⟩,h0⟩,h3⟩,h4⟩:=h
  rcases List.mem_cons.1 hm with hm|hm
  ·cases hm;exact ef h0
  ·exact U0 h4 j x hm
theorem U1{i0 i1:Nat}{all:nr}:∀{rn:nr},uA i0 i1 all rn=true->∀j id,(j,some id)∈rn->id%4≠2
 | [],_,j,x,h=>by simp at h
 |(j0,x0)::rn,h,j,id,hm=>by
  simp only[uA,bD]at h
  obtain⟨⟨⟨⟨h1,h2⟩,h0⟩,h3⟩,h4⟩:=h
  rcases List.mem_cons.1 hm with hm|hm
  ·cases hm
   simp only[bD,Bool.not_eq_true']at h3
   intro e
   have:=h3.1
   rw[e]at this
   cases this
  ·exact U1 h4 j id hm
theorem U2{s:St}{a0 i0:Nat}{rn:nr}:∀{h:St},Ft s a0 i0 rn h=true->∀r v,(r,v)∈h->v=.un∨(v=s.get r∧v.jx a0 i0=true∧(∀id,r=.o id->id<i0∧nE rn id=none)∧∀b,r=.x b->b<i0)
 | [],_,r,v,hm=>by simp at hm
 |(r0,v0)::h,hc,r,v,hm=>by
  simp only[Ft,bD]at hc
  rcases List.mem_cons.1 hm with hm|hm
  ·obtain⟨rfl,rfl⟩:=Prod.mk.inj hm
   have po:=hc.1
   rw[Bool.or_eq_true]at po
   rcases po with hu|h4
   ·cases v<;>first|exact .inl rfl|cases hu
   ·simp only[bD]at h4
    obtain⟨⟨h1,h2⟩,h3⟩:=h4
    rcases SV.beq_eq h1 with hu|he
    ·exact .inl hu
    ·refine .inr ⟨he,h2,λid he=>?_,λb he=>?_⟩
     ·subst he
      simp only[SM,bD]at h3
      refine⟨x_ h3.1,?_⟩
      have h4:=h3.2
      split at h4
      ·rename_i hn;exact hn
      ·cases h4
     ·subst he;exact x_ h3
  ·exact U2 hc.2 r v hm
theorem Mf{a0:Nat}{xs:List Lf}{n:Nat}{x:Lf}(h:oA a0 xs n x=true){pF ρ:List T}(hl:pF.length=a0):(pF++xs.map (Lf.ev ρ))[n]?=some (x.ev ρ):=by
 simp only[oA,bD]at h
 have h1:=Nat.le_of_ble_eq_true h.1
 have h2:=h.2
 split at h2
 ·rename_i y hy
  rw[List.getElem?_append_right (by omega),hl,List.getElem?_map,hy,Lf.beq_eq h2]
  rfl
 ·cases h2
theorem U3{s:St}{a0 i0:Nat}{xs:List Lf}{rn:nr}:∀{h:St},wF s a0 i0 xs rn h=true->∀r v,(r,v)∈h->(∃j dp n,r=.o j∧v=.ob dp (.a n)∧
  ((∃id x,n9 rn j=some (some id)∧s.get (.o id)=.ob dp x∧oA a0 xs n x=true)∨(n9 rn j=some none∧oA a0 xs n .e=true)∨
   (∃x,n9 rn j=none∧j<i0∧nE rn j=none∧s.get (.o j)=.ob dp x∧oA a0 xs n x=true)))∨
  ∃j x n m,r=.o j∧v=.tk x (.a n)∧j<i0∧nE rn j=none∧x.jx a0=true∧s.get (.o j)=.tk x m∧oA a0 xs n m=true
 | [],_,r,v,hm=>by simp at hm
 |(r0,v0)::h,hc,r,v,hm=>by
  have jX:wF s a0 i0 xs rn h=true:=by
   unfold wF at hc
   split at hc
   ·rename_i he;cases he
   ·rename_i j dp n ps he;cases he;simp only[bD]at hc;exact hc.2
   ·rename_i j x n ps he;cases he;rw[bD]at hc;exact hc.2
   ·cases hc
  rcases List.mem_cons.1 hm with hm|hm
  ·cases hm
   unfold wF at hc
   split at hc
   ·rename_i he;cases he
   ·rename_i j dp n ps he
    cases he
    simp only[bD]at hc
    refine .inl ⟨j,dp,n,rfl,rfl,?_⟩
    have h1:=hc.1
    split at h1
    ·rename_i id gG
     simp only[bD]at h1
     have h2:=h1.2
     split at h2
     ·rename_i vL x hx
      simp only[bD,beq_iff_eq]at h2
      exact .inl ⟨id,x,gG,by rw[h2.1];exact hx,h2.2⟩
     ·cases h2
    ·rename_i gG
     simp only[bD]at h1
     exact .inr (.inl ⟨gG,h1.2⟩)
    ·rename_i gG
     simp only[bD]at h1
     obtain⟨⟨h2,h3⟩,h4⟩:=h1
     have RO:nE rn j=none:=by
      split at h3
      ·rename_i hn;exact hn
      ·cases h3
     split at h4
     ·rename_i vL x hx
      simp only[bD,beq_iff_eq]at h4
      exact .inr (.inr ⟨x,gG,x_ h2,RO,by rw[h4.1];exact hx,h4.2⟩)
     ·cases h4
   ·rename_i j x n ps he
    cases he
    rw[bD]at hc
    have h1:=hc.1
    simp only[bD]at h1
    obtain⟨⟨⟨h2,h3⟩,h4⟩,h5⟩:=h1
    have RO:nE rn j=none:=by
     split at h3
     ·rename_i hn;exact hn
     ·cases h3
    split at h5
    ·rename_i y m hx
     simp only[bD]at h5
     exact .inr ⟨j,x,n,m,rfl,rfl,x_ h2,RO,h4,by rw[Lf.beq_eq h5.1];exact hx,h5.2⟩
    ·cases h5
   ·cases hc
  ·exact U3 jX r v hm
theorem U4{s:St}{a0 i0:Nat}{xs:List Lf}{rn:nr}:∀{h:St},yU s a0 i0 xs rn h=true->∀r v,(r,v)∈h->∃ag hs cs,v=.v ag hs∧s.get r=.v ag cs∧qn s a0 i0 xs rn cs hs=true∧(∀j,r≠.o j)∧∀b,r=.x b->b<i0
 | [],_,r,v,hm=>by simp at hm
 |(r0,v0)::h,hc,r,v,hm=>by
  have jX:yU s a0 i0 xs rn h=true:=by
   unfold yU at hc
   split at hc
   ·rename_i he;cases he
   ·rename_i he;cases he;simp only[bD]at hc;exact hc.2
   ·cases hc
  rcases List.mem_cons.1 hm with hm|hm
  ·cases hm
   unfold yU at hc
   split at hc
   ·rename_i he;cases he
   ·rename_i r' ag hs ps he
    cases he
    simp only[bD]at hc
    obtain⟨⟨h1,h2⟩,_⟩:=hc
    split at h2
    ·rename_i xI cs kZ
     simp only[bD,beq_iff_eq]at h2
     refine⟨ag,hs,cs,rfl,by rw[h2.1];exact kZ,h2.2,(λj he=>by subst he;cases h1),λb he=>by subst he;exact x_ h1⟩
    ·cases h2
   ·cases hc
  ·exact U4 jX r v hm
end Go.Proofs.YtjimmglpkndemaaGreatC

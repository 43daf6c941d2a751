/- The walk by reflection: a part of its laws, for any function. Conditions: none. -/
import Derived.Test.YtjimmglpkndemaaGreatKb
import Derived.LoopN
namespace Go.Proofs.YtjimmglpkndemaaGreatC
set_option linter.unusedVariables false
section
variable {M:Nat->Prop} {B:ft} {d:Nat} {up:Nat->Nat->Value} {ρ:List T} {G:Gh} {a:Act} {w:World} {S:Nat->aA} {P:Program}
variable {cx:Cx} {df fP oi:Nat} {s:St} {R:List bN} {ct:Ct} {k':Wk} {o:Oper} {Q:Exit->Act->World->Prop}
theorem Sq{k kw:Wk}{G1 G2:Gh}{j:Nat}{W1:St}{V:SV}{val:Value}(h:Rel M B d up s ρ G a w)(hk:dL M B d up ρ G a w k G1)(hn:∀n,o.dst=some n->n<a.tmps.size)(hM:¬M j)
  (K:dM (oQ W1) (λi=>i=j) G1 w G2 w)(RW:∀r,kw.w.look r=(W1.look r).or (k.w.look r))
  (xn:∀r u,W1.look r=some u->∃i,r=.o i∧cS G2 w ρ i u∧(M i∨i=j)∧∀x∈dI u,M x∨x=j)
  (hV:cR G2 w ρ V val)(hid:∀i∈dI V,M i∨i=j)(mN:∀b l,G2.ω b=some l->(M l.id∨l.id=j)∧b<w.heap.size)
  (hx:(execOp a.eval o).run P w=.ok (.value val) w):b_ P (Mn M j (j+1)) B d up ρ a w s o (cm d o kw V).w Q:=by
 have mn:∀{i:Nat},(M i∨i=j)->Mn M j (j+1) i:=λh=>h.imp_right λe=>by subst e;exact⟨Nat.le_refl _,Nat.lt_succ_self _⟩
 have K2:dM (oQ (fW d o V++W1)) (λi=>i=j) G1 w G2 w:=K.mono (λl hl=>by
  cases l with
  |f=>exact hl
  |x b=>
   exfalso
   obtain⟨u,hu⟩:=Option.ne_none_iff_exists'.1 hl
   obtain⟨i,e1,_⟩:=xn _ _ hu
   cases e1
  |o i p=>
   show St.look _ (bN.o i)≠none
   rw[mE]
   exactλe=>hl (Option.or_eq_none_iff.1 e).2) λ_ hi=>hi
 simp only[b_,Oper.wp,hx,Oper.upon]
 refine⟨G2,wh h hk (W2:=fW d o V++W1) (yD (W2:=W1) RW) K2 (λi hi=>by subst hi;exact hM) (λi hi=>.inl hi) (λn oU=>wi oU) ⟨rfl,rfl,rfl⟩ ?_,A4 _ _ _⟩
 refine⟨λe n u he hl=>?_,λb u hl=>?_,λi u hl=>?_,λr u hl i hi=>?_,λi hi=>?_,λb l hb=>⟨mn (mN b l hb).1,(mN b l hb).2⟩⟩
 ·rcases lN hl with⟨n',iA,e1,rfl⟩|hl
  ·cases e1
   rw[iA,Rh (hn _ iA)]
   exact hV
  ·obtain⟨i,e1,_⟩:=xn _ _ hl;cases e1
 ·rcases lN hl with⟨n',iA,e1,rfl⟩|hl
  ·cases e1
  ·obtain⟨i,e1,_⟩:=xn _ _ hl;cases e1
 ·rcases lN hl with⟨n',iA,e1,rfl⟩|hl
  ·cases e1
  ·obtain⟨i',e1,e2,_⟩:=xn _ _ hl;cases e1;exact e2
 ·rcases lN hl with⟨n',iA,e1,rfl⟩|hl
  ·exact mn (hid i hi)
  ·obtain⟨i',e1,_,_,e4⟩:=xn _ _ hl;exact mn (e4 i hi)
 ·have:∀r:bN,(r=.x i∨r=.o i)->St.look (fW d o V++W1) r≠none->Mn M j (j+1) i:=by
   intro r hr hl
   obtain⟨u,hu⟩:=Option.ne_none_iff_exists'.1 hl
   rcases lN hu with⟨n',iA,e1,rfl⟩|hl
   ·rcases hr with rfl|rfl<;>cases e1
   ·obtain⟨i',e1,_,e3,_⟩:=xn _ _ hl
    rcases hr with rfl|rfl
    ·cases e1
    ·cases e1;exact mn e3
  rcases hi with hi|hi
  ·exact this _ (.inl rfl) hi
  ·exact this _ (.inr rfl) hi
def Gh.al(G:Gh)(j:Nat)(v:Value)(hv:∃a n c,v=.slice a n c):Gh where
 ω:=G.ω
 β:=G.β
 H:=λi=>if i=j thenλ_=>v else G.H i
 hs:=λi p=>by
  by_cases h:i=j
  ·simp only[h,if_true];exact hv
  ·simp only[h,if_false];exact G.hs i p
theorem ahh{j:Nat}{v:Value}{hv:∃a n c,v=.slice a n c}{I:Lb->Prop}:dM I (λi=>i=j) G w (G.al j v hv) w:=
 ⟨Nat.le_refl _,λb _ hb=>⟨hb,rfl⟩,λb _ hb=>hb,λb l hl _=>⟨hl,rfl⟩,λi hi=>⟨rfl,λp _=>by simp[Gh.al,hi]⟩⟩
theorem ahi{ω:Nat->Option Lb}{H:List (Nat×Nat)->Value}{n l h sz:Nat}{ao:Option Addr}{len cap:Nat}{xs:List (List T)}(hd:fq ω w (.l xs) (.slice ao len cap))(hh:oO w H n (.slice ao len cap) xs)(wl:l<=h)(hx:h<=xs.length)(pn:xs.length<=cap)(cV:okW sz xs=true):
  oO w H (n+l) (sliced ao l h cap sz) ((xs.take h).drop l):=by
 intro b off k c hv
 unfold sliced at hv
 by_cases he:l=h
 ·refine⟨0,λr hr=>?_,λi j ys bR=>?_⟩
  ·subst he;simp at hr
  ·subst he;simp[eg]at bR
 ·have dU:¬(cap=l):=by omega
  rw[if_neg dU]at hv
  cases hd with
  |nil=>simp at hx;omega
  | @l _ b0 BA wd0 _ cv0 g1 g2 g3 g4 g5 g6=>
   simp only[Option.map_some,Addr.add_lit]at hv
   cases hv
   obtain⟨wd,h1,h2⟩:=hh b BA _ _ rfl
   have qG:wd=sz:=by
    cases xs with
    |nil=>simp at hx;omega
    |cons r xs=>rw[<-h1 r (by simp)];exact ew cV
   subst qG
   refine⟨wd,λr hr=>h1 r (List.mem_of_mem_take (List.mem_of_mem_drop hr)),λi j ys bR=>?_⟩
   have:=h2 _ _ _ (J6 bR)
   rw[Nat.add_mul]at this
   rw[show BA+l*wd+(i*wd+j)=BA+(l*wd+i*wd+j) by omega,this,Nat.add_assoc]
theorem ahj{k k1:Wk}{G1:Gh}(hk:dL M B d up ρ G a w k G1){x:Operand}{ls:List Lf}{f:Operand->SV}(hf:cR G1 w ρ (f x) (a.eval x))
  (h:pk k f (some x)=some (k1,ls))(hd:k1.bT S ρ):∃y t,ls=[y]∧y.gh ρ=some t∧fq (er G1.ω) w t (a.eval x):=by
 simp only[pk,cU,bP,Prod.mk.injEq]at h
 obtain⟨⟨k2,y⟩,h1,rfl,rfl⟩:=h
 obtain⟨_,_,t,e3,e4⟩:=Wk.iF hk h1 hd hf
 exact⟨y,t,rfl,e3,e4⟩
theorem ahk(ez:eZ P cx)(h:Rel M B d up s ρ G a w)(hn:∀n,o.dst=some n->n<a.tmps.size){t:Nat}{x:Operand}{lo hi mx:Option Operand}(ho:o.op=.slice t x lo hi mx)
  {kv:Wk×SV}(iu:(bif mx.isSome then none else AO cx ⟨s.only R,[],ct,[]⟩ t (cB d (Wk.get ⟨s.only R,[],ct,[]⟩) x) (lo.map (cB d (Wk.get ⟨s.only R,[],ct,[]⟩))) (hi.map (cB d (Wk.get ⟨s.only R,[],ct,[]⟩))))=some kv)
  (hk:cm d o kv.1 kv.2=k')(hd:k'.bT S ρ)(hM:∀i,ct.i<=i->i<k'.ct.i->¬M i):b_ P (Mn M ct.i k'.ct.i) B d up ρ a w s o k'.w Q:=by
 have hw:=dL.start h R ct
 cases mx with
 |some m=>simp at iu
 |none=>
  simp only[Option.isSome_none,cond_false]at iu
  have RS:=(hw.ji x).1
  have xr:=(hw.ji x).2
  unfold AO at iu
  split at iu
  ·rename_i id fg
   rw[fg]at RS xr
   split at iu
   ·rename_i tk x0 l0 y hid
    simp only[cU]at iu
    obtain⟨ti,gn,te,r_,iu⟩:=iu
    cases hc:(Nat.beq ti.kd 3&&Ip l0)with
    |false=>simp[hc]at iu
    |true=>
     simp only[hc,cond_true,cU,bP]at iu
     simp only[bL]at hc
     obtain⟨⟨k3,ls⟩,h1,⟨k4,hs⟩,h2,yJ⟩:=iu
     have ny:pk ⟨s.only R,[],ct,[]⟩ (cB d (Wk.get ⟨s.only R,[],ct,[]⟩)) lo=some (k3,ls):=by
      cases lo with
      |none=>exact h1
      |some l=>exact h1
     have wm:pk k3 (cB d (Wk.get ⟨s.only R,[],ct,[]⟩)) hi=some (k4,hs):=by
      cases hi with
      |none=>exact h2
      |some l=>exact h2
     subst yJ
     have dh:cm d o {((k4.em (.sub te.sz lo.isSome hi.isSome) (y::(ls++hs))).1.set (.o (fE k4.ct.i)) (.fz (.w tk x0 (ls.headD (.k (.int .i64 0)))) (k4.em (.sub te.sz lo.isSome hi.isSome) (y::(ls++hs))).2))with
       ct:=⟨(k4.em (.sub te.sz lo.isSome hi.isSome) (y::(ls++hs))).1.ct.a,fE k4.ct.i+1⟩} (.v false [.o (fE k4.ct.i) []])=k':=by
      rw[<-hk]
      cases lo<;>cases hi<;>rfl
     have f_:(k4.em (.sub te.sz lo.isSome hi.isSome) (y::(ls++hs))).1.bT S ρ:=by
      rw[<-dh]at hd
      have h2:=dq.1 hd
      exact h2
     obtain⟨It,r,hr,mc⟩:=Wk.cf f_
     have ji:∀z,cR G w ρ (cB d (Wk.get ⟨s.only R,[],ct,[]⟩) z) (a.eval z):=λz=>(hw.ji z).1
     have IF:∀{ka kb:Wk} {b:Option Operand} {zs:List Lf},pk ka (cB d (Wk.get ⟨s.only R,[],ct,[]⟩)) b=some (kb,zs)->ka.fB kb:=by
      intro ka kb b zs hb
      unfold pk at hb
      split at hb
      ·simp only[bP,Prod.mk.injEq]at hb;obtain⟨rfl,_⟩:=hb;exact .refl _
      ·simp only[cU,bP,Prod.mk.injEq]at hb
       obtain⟨⟨k5,y5⟩,h5,rfl,_⟩:=hb
       unfold Wk.one at h5
       split at h5
       ·exact Wk.ek h5
       ·cases h5
     have s3:=IF ny
     have s4:=IF wm
     obtain⟨Ac,_,pf⟩:=E9 (hw.same s3) (f:=cB d (Wk.get ⟨s.only R,[],ct,[]⟩)) (λz _=>ji z) wm It
     obtain⟨_,_,mM⟩:=E9 hw (f:=cB d (Wk.get ⟨s.only R,[],ct,[]⟩)) (λz _=>ji z) ny Ac
     have eU:=hw.obj id
     rw[hid]at eU
     obtain⟨tz,hy,eG,D3,F,n0,zs,hF,ug,rfl,Bj,tY,Ba⟩:=eU
     have A':n0=0:=JT hc.2 ug
     subst A'
     simp only[List.map_cons,Lf.cb hy]at hr
     obtain⟨xs,hxs,cV,hr⟩:=RQ hr
     cases hxs
     obtain⟨l,hh,IG,pi,qe⟩:=J7 (F:=λl h=>if 0<=l then(if l<=h then(if h<=zs.length then some (T.l ((zs.take h.toNat).drop l.toNat))else none)else none)else none) mM pf hr
     split at IG
     ·rename_i h0
      split at IG
      ·rename_i wl
       split at IG
       ·rename_i RU
        simp only[bP]at IG
        subst IG
        obtain⟨e,he,qJ,_⟩:=RS
        cases he
        obtain⟨p,hp,iG⟩:=qJ
        simp only[mB,bP]at hp
        subst hp
        have Bh:=eG
        rw[<-iG]at Bh
        obtain⟨ao,cap,qW,pn⟩:=Bh.rows
        have hT:=ez.ty _ _ gn
        have hE:=ez.ty _ _ r_
        obtain⟨i,zz,vl,ln,_⟩:=hE.info
        have sn:zs.length<=cap:=by
         by_cases hz:zs=[]
         ·subst hz;simp
         ·exact pn hz
        have oV:=RP (P:=P) (w:=w) (hT.sl (ew hc.1)) ⟨i,vl,ln⟩ (ao:=ao) sn pi qe h0 wl RU
        rw[<-qW]at oV
        have jc:(execOp a.eval o).run P w=.ok (.value (sliced ao l.toNat hh.toNat cap te.sz)) w:=
         DT (x:=Instr.sliceAt t (a.eval x) (lo.map a.eval) (hi.map a.eval) none) (by unfold execOp;rw[ho];rfl) oV
        have hsv:∃a n c,sliced ao l.toNat hh.toNat cap te.sz=.slice a n c:=by unfold sliced;exact⟨_,_,_,rfl⟩
        rw[qW]at Bh
        have lL:=Bh.sub (l:=l.toNat) (h:=hh.toNat) (sz:=te.sz) (by omega) (by omega) cV
        have kY:k4.ct.i=ct.i:=by rw[s4.i,s3.i]
        have ph:k'.ct.i=fE ct.i+1:=by rw[<-dh,nk,<-kY]
        have jJ:=AL ct.i
        rw[ph,<-dh,<-kY]
        refine b_.mono (M:=Mn M (fE k4.ct.i) (fE k4.ct.i+1)) ?_ (λi hi=>hi.imp_right λhi=>by rw[kY]at hi⊢;exact⟨by omega,hi.2⟩)
        have ui:M id:=xr id (by simp[dI,dZ])
        have BB:M tk:=hw.rel.gA (.o id) tk (by rw[<-Wk.bn,hid];simp[dI])
        have Km:¬M (fE k4.ct.i):=hM _ (by rw[kY];exact jJ) (by rw[ph,kY];omega)
        have dU:tk≠fE k4.ct.i:=λe=>Km (e▸BB)
        refine Sq (j:=fE k4.ct.i) (G2:=G.al (fE k4.ct.i) (sliced ao l.toNat hh.toNat cap te.sz) hsv) (W1:=[(.o (fE k4.ct.i),.fz (.w tk x0 (ls.headD (.k (.int .i64 0)))) (k4.em (.sub te.sz lo.isSome hi.isSome) (y::(ls++hs))).2)])
         h (hw.same (s3.trans (s4.trans (Wk.bX k4 (.sub te.sz lo.isSome hi.isSome) (y::(ls++hs)))))) hn Km ahh (λr=>by rw[vh];exact vi (k:=(k4.em (.sub te.sz lo.isSome hi.isSome) (y::(ls++hs))).1) r▸(by rw[vh])) (λr u hl=>?_) ?_ (λi hi=>by simp[dI,dZ]at hi;exact .inr hi) (λb l hb=>⟨.inl (hw.rel.iP b l hb).1,(hw.rel.iP b l hb).2⟩) jc
        ·rcases j9 hl with⟨e1,e2⟩|hl
         ·subst e1 e2
          refine⟨_,rfl,⟨_,mc,?_,D3,F,l.toNat,_,hF,?_,rfl,λi r hg=>?_,?_,λug b off k c hv=>?_⟩,.inr rfl,λi hi=>by simp[dI]at hi;subst hi;exact .inl BB⟩
          ·simpa[Gh.al,Gh.q]using lL
          ·rcases pi with⟨e1,rfl⟩|⟨kk,e1⟩
           ·rcases mM with⟨rfl,rfl⟩|⟨z,yy,tt,rfl,_⟩
            ·simp[ma,Lf.gh,kV]
            ·simp at e1
           ·cases lo with
            |none=>simp at e1
            |some z=>
             obtain⟨yy,tt,e5,ht,mC⟩:=ahj hw (ji z) ny Ac
             subst e5
             simp only[Option.map_some,bP]at e1
             rw[e1]at mC
             have htt:tt=.c (.int kk l):=by
              generalize hq:Value.int kk l=q at mC
              cases mC with
              |c _=>rfl
              |nil=>cases hq
              |l=>cases hq
             rw[htt]at ht
             simp only[List.headD_cons]
             exact Rz ht h0
          ·rw[List.getElem?_drop,List.getElem?_take]at hg
           split at hg
           ·have:=Bj _ _ hg
            rw[Nat.zero_add]at this
            exact this
           ·cases hg
          ·have h3:oO w (G.H tk) 0 (.slice ao zs.length cap) zs:=by rw[<-qW,iG];exact tY
           have h4:=ahi Bh h3 (l:=l.toNat) (h:=hh.toNat) (sz:=te.sz) (by omega) (by omega) sn cV
           rw[Nat.zero_add]at h4
           simpa[Gh.al,dU]using h4
          ·simp only[Gh.al,if_true]at hv
           have hl:l.toNat=0:=ug
           unfold sliced at hv
           rw[hl]at hv
           split at hv
           ·cases hv
            exact Ba rfl b off _ _ (by rw[<-iG];exact qW)
           ·generalize s9:Value.slice ao zs.length cap=vv at Bh
            cases Bh with
            |nil=>
             cases s9
             rename_i aa _
             cases ao with
             |none=>simp at hv
             |some ad=>
              obtain⟨b0,BA,r0⟩:=ad
              cases r0 with
              |none=>
               simp only[Option.map_some,Addr.add_lit,Nat.zero_mul,Nat.add_zero]at hv
               cases hv
               exact Ba rfl b off _ _ (by rw[<-iG];exact qW)
              |some sp=>simp[Addr.add]at hv
            | @l _ b0 BA wd0 _ cv0 g1 g2 g3 g4 g5 g6=>
             cases s9
             simp only[Option.map_some,Addr.add_lit,Nat.zero_mul,Nat.add_zero]at hv
             cases hv
             exact Ba rfl b off _ _ (by rw[<-iG];exact qW)
         ·cases hl
        ·exact⟨_,rfl,⟨[],rfl,by simp[Gh.al]⟩,λz hz=>by unfold sliced at hz;cases hz⟩
       ·cases IG
      ·cases IG
     ·cases IG
   ·cases iu
  ·cases iu
theorem Wk.oe:∀(zs:List Ce) (k:Wk) (y ix:Lf) (j wd off:Nat),k.fB (k.mK y ix j wd off zs).1
 | [],k,_,_,_,_,_=>.refl k
 |z::zs,k,y,ix,j,wd,off=>by
  unfold Wk.mK
  cases gd z with
  |true=>exact(Wk.bX k _ _).trans (Wk.oe zs _ y ix j wd (off+1))
  |false=>exact(Wk.bX k _ _).trans (Wk.oe zs _ y ix j wd (off+1))
theorem Wk.nG:∀(zs:List Ce) (k:Wk) (y ix:Lf) (j wd off:Nat),(k.mK y ix j wd off zs).1.bT S ρ->k.bT S ρ
 | [],_,_,_,_,_,_,h=>h
 |z::zs,k,y,ix,j,wd,off,h=>by
  unfold Wk.mK at h
  cases hz:gd z with
  |true=>rw[hz]at h;exact(Wk.cf (Wk.nG zs _ y ix j wd (off+1) h)).1
  |false=>rw[hz]at h;exact(Wk.cf (Wk.nG zs _ y ix j wd (off+1) h)).1
theorem Wk.qj{y ix:Lf}{xs:List (List T)}{i wd j b base:Nat}{Hd:Nat->Value}(hx:y.gh ρ=some (.l xs))(hi:ma ρ ix=some i)
  (hZ:∀r,xs[i]?=some r->r.length=wd->∀c t,r[c]?=some t->∃u,w.cell? ⟨b,base+c,none⟩=some u∧(∀v,t=.c v->u=v∧kV v=true)∧∀ys,t=.l ys->u=Hd c):
  ∀(zs:List Ce) (k:Wk) (off:Nat),(k.mK y ix j wd off zs).1.bT S ρ->
   ∃vs:List Value,vs.length=zs.length∧(∀c v,vs[c]?=some v->w.cell? ⟨b,base+off+c,none⟩=some v)∧(∀i∈dZ (k.mK y ix j wd off zs).2.1,i=j)∧
    ((zs.filter gd).length=0->∀G1:Gh,bu G1 w ρ (k.mK y ix j wd off zs).2.1 vs)∧
    ((zs.filter gd).length=1->∃r c0 ys,xs[i]?=some r∧r.length=wd∧r[c0]?=some (.l ys)∧(k.mK y ix j wd off zs).2.2.gh ρ=some (.l ys)∧∀G1:Gh,G1.H j []=Hd c0->bu G1 w ρ (k.mK y ix j wd off zs).2.1 vs)
 | [],k,off,_=>⟨[],rfl,λc v hc=>by simp at hc,λi hi=>by simp[Wk.mK,dZ]at hi,λ_ _=>trivial,λh=>by simp at h⟩
 |z::zs,k,off,hd=>by
  unfold Wk.mK at hd⊢
  cases hz:gd z with
  |true=>
   rw[hz]at hd
   simp only[cond_true]at hd⊢
   obtain⟨_,t,ht,DV⟩:=Wk.cf (Wk.nG zs _ _ _ _ _ (off+1) hd)
   obtain⟨ys,rfl,bR,r,h1,h2⟩:=EX hx hi ht
   have h3:r[off]?=some (.l ys):=by simpa[eg,h1]using bR
   obtain⟨u,h5,_,h6⟩:=hZ r h1 h2 off _ h3
   obtain⟨vs,g1,g2,g3,g4,g5⟩:=Wk.qj hx hi hZ zs _ (off+1) hd
   refine⟨u::vs,by simp[g1],λc v hc=>?_,λi hi=>?_,λh0=>by simp[hz]at h0,λh1'=>⟨r,off,ys,h1,h2,h3,DV,λG1 hG=>⟨⟨[],rfl,by rw[h6 ys rfl,hG]⟩,g4 (by simpa[hz]using h1') G1⟩⟩⟩
   ·cases c with
    |zero=>simp at hc;subst hc;simpa using h5
    |succ c=>
     have:=g2 c v (by simpa using hc)
     rwa[show base+(off+1)+c=base+off+(c+1) by omega]at this
   ·simp only[dZ,List.mem_cons]at hi
    rcases hi with hi|hi
    ·exact hi
    ·exact g3 i hi
  |false=>
   rw[hz]at hd
   simp only[cond_false]at hd⊢
   obtain⟨_,t,ht,DV⟩:=Wk.cf (Wk.nG zs _ _ _ _ _ (off+1) hd)
   obtain⟨r,h1,h2,h3,h4⟩:=JR (sc:=true) hx hi ht
   obtain⟨c,rfl⟩:=yA (h4 rfl)
   obtain⟨u,h5,h6,_⟩:=hZ r h1 h2 off _ h3
   obtain⟨rfl,hs⟩:=h6 c rfl
   obtain⟨vs,g1,g2,g3,g4,g5⟩:=Wk.qj hx hi hZ zs _ (off+1) hd
   refine⟨u::vs,by simp[g1],λc v hc=>?_,λi hi=>g3 i (by simpa[dZ]using hi),λh0 G1=>⟨⟨.c u,DV,.c hs⟩,g4 (by simpa[hz]using h0) G1⟩,λh1'=>?_⟩
   ·cases c with
    |zero=>simp at hc;subst hc;simpa using h5
    |succ c=>
     have:=g2 c v (by simpa using hc)
     rwa[show base+(off+1)+c=base+off+(c+1) by omega]at this
   ·obtain⟨r',c0,ys,e1,e2,e3,e4,e5⟩:=g5 (by simpa[hz]using h1')
    exact⟨r',c0,ys,e1,e2,e3,e4,λG1 hG=>⟨⟨.c u,DV,.c hs⟩,e5 G1 hG⟩⟩
theorem ahm{m i r:T}(h:Prim.ev .yb [m,i]=some r):∃us kk n,m=.l us∧i=.c (.int kk n)∧0<=n∧n.toNat+1<=us.length∧rR us n.toNat 1=true∧r=.l (o_ us n.toNat 1):=by
 cases m with
 |c v=>simp[Prim.ev]at h
 |l us=>
  cases i with
  |l _=>simp[Prim.ev]at h
  |c v=>
   cases v with
   |int kk n=>
    simp only[Prim.ev]at h
    split at h
    ·split at h
     ·split at h
      ·cases h
       exact⟨us,kk,n,rfl,rfl,by assumption,by assumption,by assumption,rfl⟩
      ·cases h
     ·cases h
    ·cases h
   |_=>simp[Prim.ev]at h
def Gh.kt(G:Gh)(tk j i c0:Nat):Gh where
 ω:=λb=>match G.ω b with
  |some (.o n ((r,c)::p))=>if n=tk∧r=i∧c=c0 then some (.o j p)else some (.o n ((r,c)::p))
  |l=>l
 β:=G.β
 H:=λn=>if n=j thenλp=>G.H tk ((i,c0)::p)else G.H n
 hs:=λn p=>by
  by_cases h:n=j
  ·simp only[h,if_true];exact G.hs tk _
  ·simp only[h,if_false];exact G.hs n p
theorem ahn{tk j i c0:Nat}(h4:j%4=2){I:Lb->Prop}(hI:∀p,I (.o tk p)):dM I (λn=>n=j) G w (G.kt tk j i c0) w:=by
 refine⟨Nat.le_refl _,λb _ hb=>⟨tT hb (λh0=>by simp[Gh.kt,h0]) λl hl hq=>?_,rfl⟩,λb _ hb=>by simp[Gh.kt,hb],λb l hl hn=>⟨?_,rfl⟩,λn hn=>⟨rfl,λp _=>by simp[Gh.kt,hn]⟩⟩
 ·cases l with
  |o n p=>
   cases p with
   |nil=>exact .inr ⟨_,by simp[Gh.kt,hl],hq⟩
   |cons x p=>
    obtain⟨r,c⟩:=x
    simp only[Gh.kt,hl]
    split
    ·exact .inr ⟨_,rfl,JI h4⟩
    ·exact .inr ⟨_,rfl,hq⟩
  |_=>simp[qt]at hq
 ·cases l with
  |o n p=>
   cases p with
   |nil=>simp[Gh.kt,hl]
   |cons x p=>
    obtain⟨r,c⟩:=x
    have:n≠tk:=λe=>hn (e▸hI _)
    simp[Gh.kt,hl,this]
  |_=>simp[Gh.kt,hl]
theorem aho(ez:eZ P cx)(h:Rel M B d up s ρ G a w)(hn:∀n,o.dst=some n->n<a.tmps.size){x:Operand}{t:Nat}(ho:o.op=.load t x){kv:Wk×SV}
  (iu:Jv cx ⟨s.only R,[],ct,[]⟩ t (cB d (Wk.get ⟨s.only R,[],ct,[]⟩) x)=some kv)(hk:cm d o kv.1 kv.2=k')(hd:k'.bT S ρ)(hM:∀i,ct.i<=i->i<k'.ct.i->¬M i):
  b_ P (Mn M ct.i k'.ct.i) B d up ρ a w s o k'.w Q:=by
 have hw:=dL.start h R ct
 obtain⟨hr,hm⟩:=hw.ji x
 unfold Jv at iu
 split at iu
 ·rename_i id ix wd off fg
  rw[fg]at hr hm
  simp only[cU]at iu
  obtain⟨ti,gn,iu⟩:=iu
  split at iu
  ·rename_i tk x0 lo y hid
   split at iu
   ·rename_i y0 m D3
    cases hc:(Ip lo&&x0.beq y0&&Nat.beq (ti.zero.filter gd).length 1&&Nat.beq ti.zero.length ti.sz)with
    |false=>simp[hc]at iu
    |true=>
     simp only[hc,cond_true,bP]at iu
     simp only[bL]at hc
     obtain⟨⟨⟨c1,c2⟩,c3⟩,c4⟩:=hc
     have Kf:=Lf.beq_eq c2
     subst Kf
     have qh:=ew c3
     have sd:=ew c4
     subst iu
     obtain⟨kr,hkr⟩:∃kr,(Wk.mK ⟨s.only R,[],ct,[]⟩ y ix (nj ct.i) wd off ti.zero)=kr:=⟨_,rfl⟩
     have dh:cm d o {(((kr.1.em .yb [m,ix]).1.set (.o tk) (.tk x0 (kr.1.em .yb [m,ix]).2)).set (.o (nj ct.i)) (.fl kr.2.2))with ct:=⟨(kr.1.em .yb [m,ix]).1.ct.a,nj ct.i+1⟩} (.v ti.ag kr.2.1)=k':=by
      rw[<-hk,<-hkr]
     have f_:(kr.1.em .yb [m,ix]).1.bT S ρ:=by
      rw[<-dh]at hd
      have h2:=dq.1 hd
      exact h2
     obtain⟨Fc,r1,oT,mc⟩:=Wk.cf f_
     rw[<-hkr]at Fc
     obtain⟨p,b,n,cap,i,e1,e2,e3,e4,e5⟩:=hr
     simp only[mB,bP]at e1
     subst e1
     have obj:=hw.obj id
     have R_:=hw.obj tk
     rw[hid]at obj
     rw[D3]at R_
     obtain⟨tt,ht,eG,ahp,F,n0,zs,hF,ny,rfl,Bj,tY,_⟩:=obj
     have A':n0=0:=JT c1 ny
     subst A'
     obtain⟨_,F',u,R',hu,hlen,mF⟩:=R_
     rw[hF]at R'
     cases R'
     rw[e2]at eG
     obtain⟨DX,w1,w2⟩:=tY b 0 n cap e2
     obtain⟨vs,g1,g2,g3,_,g5⟩:=Wk.qj (S:=S) (w:=w) (b:=b) (base:=i*wd) (j:=nj ct.i) (Hd:=λc=>G.H tk [(i,c)]) (wd:=wd) ht e3 (λr jG hl c t' jZ=>by
      obtain⟨v',hc,oU⟩:=(eG.row jG hl).2.2 c t' jZ
      rw[Nat.zero_add]at hc
      refine⟨v',hc,λv he=>by subst he;exact oU.scalar,λys he=>?_⟩
      subst he
      have qG:DX=wd:=by rw[<-w1 r (List.mem_of_getElem? jG),hl]
      have bR:eg zs i c=some (.l ys):=by simp[eg,jG,jZ]
      have:=w2 i c ys bR
      rw[Nat.zero_add,Nat.zero_add,qG,hc]at this
      exact Option.some.inj this) ti.zero _ off Fc
     rw[hkr]at g3 g5
     obtain⟨row,c0,ys,q1,q2,q3,q4,q5⟩:=g5 qh
     have hT:=ez.ty _ _ gn
     have fu:=A6 (P:=P) (w:=w) hT (b:=b) (off:=i*wd+off) (vs:=vs) (by rw[g1,sd]) g2
     have jc:(execOp a.eval o).run P w=.ok (.value (if ti.ag then .agg vs.toArray else vs.getD 0 undef)) w:=by
      refine DT (x:=Instr.loadAt t (a.eval x)) (by unfold execOp;rw[ho]) ?_
      rw[e5];exact fu
     obtain⟨kk,hix⟩:=yp e3
     simp only[List.map_cons,List.map_nil,Lf.cb hu,hix]at oT
     obtain⟨us,kk2,n2,f1,f2,f3,f4,f5,rfl⟩:=ahm oT
     cases f1
     cases f2
     have ln:((i:Int)).toNat=i:=Int.toNat_natCast i
     rw[ln]at f4 f5 mc
     have s1:Wk.fB ⟨s.only R,[],ct,[]⟩ kr.1:=by rw[<-hkr];exact Wk.oe _ _ _ _ _ _ _
     have ph:k'.ct.i=nj ct.i+1:=by rw[<-dh,nk]
     have hle:=Q7 ct.i
     rw[ph,<-dh]
     refine b_.mono (M:=Mn M (nj ct.i) (nj ct.i+1)) ?_ (λi hi=>hi.imp_right λhi=>⟨by omega,hi.2⟩)
     have BB:M tk:=hw.rel.gA (.o id) tk (by rw[<-Wk.bn,hid];simp[dI])
     have Km:¬M (nj ct.i):=hM _ hle (by rw[ph];omega)
     have dU:tk≠nj ct.i:=λe=>Km (e▸BB)
     have yB:=Q8 ct.i
     have free:=R8 f4 f5 (i:=0) (by omega)
     obtain⟨r',ahq,ahr⟩:=free
     obtain⟨o1,o2⟩:=mF _ _ ahq ahr
     have IH:=Bj _ _ q1
     rw[Nat.zero_add]at IH
     rw[Nat.add_zero,IH]at o1
     cases o1
     have b8:=o2 c0 ys q3
     rw[Nat.add_zero]at b8
     have jW:∀q,oQ [(bN.o (nj ct.i),SV.fl kr.2.2),(bN.o tk,SV.tk x0 (kr.1.em .yb [m,ix]).2)] (.o tk q):=by
      intro q
      show St.look _ (bN.o tk)≠none
      simp only[St.look]
      cases(bN.o (nj ct.i)).beq (.o tk)<;>simp[(bN.beq_iff (r:=bN.o tk)).2 rfl]
     refine Sq (j:=nj ct.i) (G2:=G.kt tk (nj ct.i) i c0) (W1:=[(.o (nj ct.i),.fl kr.2.2),(.o tk,.tk x0 (kr.1.em .yb [m,ix]).2)])
      h (hw.same (s1.trans (Wk.bX kr.1 .yb [m,ix]))) hn Km (ahn yB jW) (λr=>?_) (λr u' hl=>?_) ?_ (λi hi=>.inr (g3 i hi)) (λb l hb=>?_) jc
     ·show(((kr.1.em .yb [m,ix]).1.w.set (.o tk) _).set (.o (nj ct.i)) _).look r=_
      simp only[St.look]
      by_cases h1:bN.o (nj ct.i)=r
      ·subst h1;rw[St.bI];simp[(bN.beq_iff (r:=bN.o (nj ct.i))).2 rfl]
      ·have b1:(bN.o (nj ct.i)).beq r=false:=by
        cases hb:(bN.o (nj ct.i)).beq r with
        |false=>rfl
        |true=>exact absurd (bN.beq_iff.1 hb) h1
       rw[St.cN _ _ h1,b1]
       by_cases h2:bN.o tk=r
       ·subst h2;rw[St.bI];simp[(bN.beq_iff (r:=bN.o tk)).2 rfl]
       ·have b2:(bN.o tk).beq r=false:=by
         cases hb:(bN.o tk).beq r with
         |false=>rfl
         |true=>exact absurd (bN.beq_iff.1 hb) h2
        rw[St.cN _ _ h2,b2];simp
     ·rcases j9 hl with⟨e1,e2⟩|hl
      ·subst e1 e2
       refine⟨_,rfl,⟨yB,_,q4,?_⟩,.inr rfl,λi hi=>by simp[dI]at hi⟩
       refine b8.move rfl (λb q hb=>⟨?_,rfl⟩) λq=>?_
       ·simp only[List.cons_append,List.nil_append]at hb⊢
        simp only[Gh.kt,hb]
        rw[if_pos (by refine⟨?_,?_,?_⟩<;>trivial)]
       ·simp[Gh.kt]
      ·rcases j9 hl with⟨e1,e2⟩|hl
       ·subst e1 e2
        refine⟨tk,rfl,⟨ahp,F,_,hF,mc,by rw[R6 f4];exact hlen,λi' r hg Sr=>?_⟩,.inl BB,λi hi=>by simp[dI]at hi⟩
        obtain⟨g1,g2⟩:=R7 f4 hg Sr
        obtain⟨g3,g4⟩:=mF i' r g1 Sr
        refine⟨g3,λc l' rB=>(g4 c l' rB).move rfl (λb q hb=>⟨?_,rfl⟩) λq=>?_⟩
        ·simp only[List.cons_append,List.nil_append]at hb⊢
         simp only[Gh.kt,hb]
         rw[if_neg (by omega)]
        ·simp[Gh.kt,dU]
       ·cases hl
     ·exact A7 hT (q5 _ (by simp[Gh.kt])) (by rw[g1,sd])
     ·cases hg:G.ω b with
      |none=>simp[Gh.kt,hg]at hb
      |some l0=>
       have ug:=hw.rel.iP b l0 hg
       refine⟨?_,ug.2⟩
       cases l0 with
       |o n' p=>
        cases p with
        |nil=>simp[Gh.kt,hg]at hb;subst hb;exact .inl ug.1
        |cons x p=>
         obtain⟨r,c⟩:=x
         simp only[Gh.kt,hg]at hb
         split at hb
         ·cases hb;exact .inr rfl
         ·cases hb;exact .inl ug.1
       |_=>simp[Gh.kt,hg]at hb;subst hb;exact .inl ug.1
   ·cases iu
  ·cases iu
 ·cases iu
end
def ci(G:Gh)(w:World):List Ck->List Value->List T->List (Option Nat)->Prop
 | [],[],[],[]=>True
 | .s::ks,v::vs,t::ts,x::is=>x=none∧fq G.q w t v∧eA t=true∧ci G w ks vs ts is
 | .p::ks,v::vs,t::ts,x::is=>x=none∧fq G.q w t v∧ci G w ks vs ts is
 | .o dp::ks,v::vs,t::ts,none::is=>v=.slice none 0 0∧t=.l []∧ci G w ks vs ts is
 | .o dp::ks,v::vs,t::ts,some id::is=>v=G.H id []∧fG G w id dp [] t∧ci G w ks vs ts is
 |_,_,_,_=>False
def Ss(G:Gh)(w:World)(r:Bool×List Ck)(c:Value)(ts:List T)(is:List (Option Nat)):Prop:=
 match r.1 with
 |true=>∃vs:List Value,c=.agg vs.toArray∧ci G w r.2 vs ts is
 |false=>ci G w r.2 [c] ts is∧∀x,c≠.agg x
def jy(G:Gh)(w:World):List (Bool×List Ck)->List Value->List T->List (Option Nat)->Prop
 | [],[],[],[]=>True
 |r::rs,v::vs,ts,is=>∃t1 t2 i1 i2,ts=t1++t2∧is=i1++i2∧Ss G w r v t1 i1∧jy G w rs vs t2 i2
 |_,_,_,_=>False
def Kr(G:Gh)(w:World)(rs:List (Bool×List Ck))(v:Value)(ts:List T)(is:List (Option Nat)):Prop:=
 match rs with
 | []=>ts=[]∧is=[]
 | [r]=>jy G w [r] [v] ts is
 |rs=>∃vs:List Value,v=.tuple vs.toArray∧jy G w rs vs ts is
section
variable {w:World}
def iQ(G:Gh)(w:World)(bl:Nat->Option Nat):Nat->List PS->List T->Prop
 |_,[],ts=>ts=[]
 |i,.v _ _::ps,ts=>iQ G w bl (i+1) ps ts
 |i,.x n::ps,ts=>∃b arr elem t1 t2,bl i=some b∧G.ω b=some (.x i)∧w.heap[b]?=some (.cells arr elem (0,0))∧ts=t1++t2∧t1.length=n∧fa G.q w t1 arr.toList∧
   iQ G w bl (i+1) ps t2
def yK(ω:Nat->Option Lb)(w:World)(bl:Nat->Option Nat):Nat->List PS->List Value->List T->Prop
 |_,[],args,ts=>args=[]∧ts=[]
 |i,.v ag n::ps,args,ts=>∃c fD vs t1 t2,args=c::fD∧ts=t1++t2∧t1.length=n∧(match ag with|true=>c=.agg vs.toArray|false=>vs=[c]∧∀x,c≠.agg x)∧fa ω w t1 vs∧
   yK ω w bl (i+1) ps fD t2
 |i,.x n::ps,args,ts=>∃c fD b arr elem t1 t2,args=c::fD∧c=.pointer (some ⟨b,0,none⟩)∧bl i=some b∧ω b=some (.x i)∧w.heap[b]?=some (.cells arr elem (0,0))∧ts=t1++t2∧t1.length=n∧fa ω w t1 arr.toList∧
   yK ω w bl (i+1) ps fD t2
structure xt (sg:nU) (nY:Nat->Option Lb) (bl:Nat->Option Nat) (w:World):Prop where
 iP:∀b l,nY b=some l->b<w.heap.size∧(l=.f∨∃i,l=.x i∧bl i=some b)
 bl:∀i b,bl i=some b->i<sg.ps.length∧nY b=some (.x i)
 gl:EV nY w
structure po (sg:nU) (w:World) (nY:Nat->Option Lb) (bl:Nat->Option Nat) (outs:List T) (v:Value) (w':World) (G:Gh) (is:List (Option Nat)) (o1 o2:List T):Prop where
 so:jL w w'
 size:w.heap.size<=w'.heap.size
 free:∀b,b<w.heap.size->nY b=none->G.ω b=none∧w'.heap[b]?=w.heap[b]?
 DR:∀b,nY b=some .f->G.ω b=some .f∧w'.heap[b]?=w.heap[b]?
 iP:∀b l,G.ω b=some l->b<w'.heap.size
 qq:pV sg=true->∀b,G.q b=none->G.ω b=none
 outs:outs=o1++o2
 nodup:(is.filterMap id).Nodup
 ret:Kr G w' sg.rs v o1 is
 box:iQ G w' bl 0 sg.ps o2
def Fi(P:Program)(sg:nU)(f:FuncId)(F:aA):Prop:=
 ∀(w:World) (nY:Nat->Option Lb) (bl:Nat->Option Nat) (args:List Value) (ts outs:List T),F ts=some outs->xt sg nY bl w->yK nY w bl 0 sg.ps args ts->
  Calls P f args.toArray w λe w'=>∃v G is o1 o2,e=.returned v∧po sg w nY bl outs v w' G is o1 o2
structure iR (G G':Gh):Prop where
 o:∀b,G'.ω b=G.ω b∨(G'.ω b=none∧∃i p,G.ω b=some (.o i p))
 β:G'.β=G.β
 H:G'.H=G.H
theorem iR.refl(G:Gh):iR G G:=⟨λ_=>.inl rfl,rfl,rfl⟩
theorem iR.trans{G1 G2 G3:Gh}(h:iR G1 G2)(h':iR G2 G3):iR G1 G3:=by
 refine⟨λb=>?_,h'.β.trans h.β,h'.H.trans h.H⟩
 rcases h'.o b with h1|⟨h1,i,p,h2⟩
 ·rcases h.o b with h3|⟨h3,h4⟩
  ·exact .inl (h1.trans h3)
  ·exact .inr ⟨h1.trans h3,h4⟩
 ·rcases h.o b with h3|⟨h3,h4⟩
  ·exact .inr ⟨h1,i,p,by rw[<-h3];exact h2⟩
  ·rw[h3]at h2;cases h2
theorem iR.non{G G':Gh}(h:iR G G'){b:Nat}(hb:G.ω b=none):G'.ω b=none:=by
 rcases h.o b with h1|⟨h1,_⟩
 ·rw[h1,hb]
 ·exact h1
theorem iR.q{G G':Gh}(h:iR G G'){b:Nat}(hb:G.q b=none):G'.q b=none:=by
 refine tT hb h.non λl hl hq=>?_
 rcases h.o b with h1|⟨h1,_⟩
 ·exact .inr ⟨l,by rw[h1,hl],hq⟩
 ·exact .inl h1
theorem iR.x{G G':Gh}(h:iR G G'){b:Nat}{l:Lb}(hb:G.ω b=some l)(hl:∀i p,l≠.o i p):G'.ω b=some l:=by
 rcases h.o b with h1|⟨_,i,p,h1⟩
 ·rw[h1,hb]
 ·rw[hb]at h1;cases h1;exact absurd rfl (hl i p)
theorem iR.er{G G':Gh}(h:iR G G'){b:Nat}(hb:er G.ω b=none):er G'.ω b=none:=by
 unfold Go.Proofs.YtjimmglpkndemaaGreatC.er at hb⊢
 cases hg:G.ω b with
 |none=>rw[h.non hg]
 |some l=>
  rw[hg]at hb
  cases l with
  |f=>cases hb
  |x i=>cases hb
  |o i p=>
   rcases h.o b with h1|⟨h1,_⟩
   ·rw[h1,hg]
   ·rw[h1]
theorem iR.bw{G G':Gh}(h:iR G G')(w:World):dM (λl=>∃i p,l=.o i p) (λ_=>False) G w G' w:=
 ⟨Nat.le_refl _,λb _ hb=>⟨h.q hb,rfl⟩,λb _ hb=>h.non hb,λb l hb hl=>⟨h.x hb λi p e=>hl ⟨i,p,e⟩,rfl⟩,λ_ _=>⟨by rw[h.β],λ_ _=>by rw[h.H]⟩⟩
theorem Gh.og(G:Gh)(id:Nat)(all:Bool):iR G (G.free id all):=by
 refine⟨λb=>?_,rfl,rfl⟩
 cases hg:G.ω b with
 |none=>exact .inl (Gh.j8 hg)
 |some l=>
  cases l with
  |f=>exact .inl (by simp[Gh.free,hg])
  |x i=>exact .inl (by simp[Gh.free,hg])
  |o i p=>
   simp only[Gh.free,hg]
   split
   ·exact .inr ⟨rfl,i,p,rfl⟩
   ·exact .inl rfl
variable {M:Nat->Prop} {B:ft} {d:Nat} {up:Nat->Nat->Value} {ρ:List T} {G:Gh} {a:Act} {S:Nat->aA} {P:Program}
theorem dL.Su{k k':Wk}{G1:Gh}(h:dL M B d up ρ G a w k G1){id:Nat}(hk:k.mj id=some k'):∃G2,dL M B d up ρ G a w k' G2∧iR G1 G2:=by
 unfold Wk.mj at hk
 split at hk
 ·rename_i dp x hx
  cases hk
  rw[Wk.bn]at hx
  refine⟨_,⟨(h.rel.mj hx).congr (Ir _ _ _ _),(h.bw.mono (λl hl=>Iq hl) λ_ hn=>hn).trans ((G1.fU id true w).mono ?_ λ_ hn=>hn)⟩,G1.og id true⟩
  rintro l ⟨p,rfl⟩
  show(k.w.set _ _).look (.o id)≠none
  rw[St.bI];simp
 ·cases hk;exact⟨G1,h,.refl _⟩
 ·cases hk
theorem dL.oh:∀{cs:List Ce} {k k1:Wk} {G1:Gh},dL M B d up ρ G a w k G1->k.eY cs=some k1->∃G2,dL M B d up ρ G a w k1 G2∧iR G1 G2
 | [],k,k1,G1,h,hk=>by
  simp[Wk.eY]at hk
  subst hk
  exact⟨G1,h,.refl _⟩
 |c::cs,k,k1,G1,h,hk=>by
  cases c with
  |o id q=>
   simp only[Wk.eY,cU]at hk
   obtain⟨k2,h1,h2⟩:=hk
   obtain⟨G2,g1,g2⟩:=h.Su h1
   obtain⟨G3,f1,f2⟩:=dL.oh g1 h2
   exact⟨G3,f1,g2.trans f2⟩
  |p x=>exact dL.oh h (show k.eY cs=some k1 from hk)
  |n=>exact dL.oh h (show k.eY cs=some k1 from hk)
  |d=>exact dL.oh h (show k.eY cs=some k1 from hk)
def dt(G:Gh)(w:World)(ρ:List T):List SV->List Value->Prop
 | [],[]=>True
 |v::vs,c::cs=>cR G w ρ v c∧dt G w ρ vs cs
 |_,_=>False
theorem dt.bw{I:Lb->Prop}{G G':Gh}{w w':World}(k:dM I (λ_=>False) G w G' w'):∀{vs:List SV} {cs:List Value},dt G w ρ vs cs->dt G' w' ρ vs cs
 | [],[],_=>trivial
 |_::_,_::_,h=>⟨h.1.bw k λ_ _ hf=>hf,dt.bw k h.2⟩
 | [],_::_,h=>h.elim
 |_::_,[],h=>h.elim
def uj(G:Gh)(w:World)(ρ:List T)(pl:Bool):List PS->List Value->List Lf->List (Nat×Bool×Nat)->Prop
 | [],args,xs,bs=>args=[]∧xs=[]∧bs=[]
 | .v ag n::ps,args,xs,bs=>∃c fD vs x1 x2,args=c::fD∧xs=x1++x2∧x1.length=n∧(match ag with|true=>c=.agg vs.toArray|false=>vs=[c]∧∀x,c≠.agg x)∧fa (er G.ω) w (x1.map (Lf.ev ρ)) vs∧
   (pl=true->fa G.q w (x1.map (Lf.ev ρ)) vs)∧uj G w ρ pl ps fD x2 bs
 | .x n::ps,args,xs,bs=>∃c fD bx ag yE arr elem x1 x2,args=c::fD∧bs=(bx,ag,n)::yE∧c=.pointer (some ⟨G.β bx,0,none⟩)∧G.ω (G.β bx)=some (.x bx)∧w.heap[G.β bx]?=some (.cells arr elem (0,0))∧
   xs=x1++x2∧x1.length=n∧fa G.q w (x1.map (Lf.ev ρ)) arr.toList∧uj G w ρ pl ps fD x2 yE
theorem Kt{pl:Bool}:∀{ps:List PS} {vs:List SV} {cs:List Value} {k k1:Wk} {xs:List Lf} {bs:List (Nat×Bool×Nat)} {G1:Gh},dL M B d up ρ G a w k G1->dt G1 w ρ vs cs->(pl=true->Bd k (vK vs))->
  k.args vs ps=some (k1,xs,bs)->k1.bT S ρ->k.bT S ρ∧k1.ct.i=k.ct.i∧∃G2,dL M B d up ρ G a w k1 G2∧iR G1 G2∧
   ∀G3,iR G2 G3->uj G3 w ρ pl ps cs xs bs
 | [],[],cs,k,k1,xs,bs,G1,hk,hr,hf,h,hd=>by
  simp only[Wk.args,bP,Prod.mk.injEq]at h
  obtain⟨rfl,rfl,rfl⟩:=h
  cases cs with
  |nil=>exact⟨hd,rfl,G1,hk,.refl _,λ_ _=>⟨rfl,rfl,rfl⟩⟩
  |cons _ _=>exact hr.elim
 | .v xb n::ps,.v ag es::vs,cs,k,k1,xs,bs,G1,hk,hr,hf,h,hd=>by
  cases cs with
  |nil=>exact hr.elim
  |cons c cs=>
   simp only[Wk.args]at h
   cases hc:((ag==xb)&&Nat.beq es.length n)with
   |false=>simp[hc]at h
   |true=>
    simp only[hc,cond_true,cU,bP,Prod.mk.injEq]at h
    simp only[bL,beq_iff_eq]at hc
    obtain⟨rfl,hn⟩:=hc
    obtain⟨⟨k2,x1⟩,h1,⟨k3,x2,bs2⟩,h2,rfl,rfl,rfl⟩:=h
    have hs:=Wk.il h1
    obtain⟨d2,i2,G2,w2,l2,f2⟩:=Kt (hk.same hs) hr.2 (λhp id hid=>by
     obtain⟨pv,x,hx⟩:=hf hp id (by simp only[vK];rw[JV];exact List.mem_append_right _ hid)
     exact⟨pv,x,by rw[hs.get];exact hx⟩) h2 hd
    have f_:=Wk.lO h1 d2
    refine⟨f_,i2.trans hs.i,G2,w2,l2,λG3 l3=>?_⟩
    have bC:=l2.trans l3
    have hlen:x1.length=n:=by
     have:=ew hn
     obtain⟨uk,pg⟩:∃uk:List Value,bu G1 w ρ es uk:=by
      have h0:=hr.1
      cases ag with
      |true=>obtain⟨uk,_,h0⟩:=h0;exact⟨uk,h0⟩
      |false=>obtain⟨e,rfl,h0,_⟩:=h0;exact⟨[c],h0,trivial⟩
     obtain⟨_,_,_,_,e4⟩:=Wk.im h1 d2 pg hk
     rw[e4,<-pg.length,this]
    have key:∀uk:List Value,bu G1 w ρ es uk->fa (er G3.ω) w (x1.map (Lf.ev ρ)) uk∧(pl=true->fa G3.q w (x1.map (Lf.ev ρ)) uk):=by
     intro uk pg
     obtain⟨ts,e1,e2,e3,e4⟩:=Wk.im h1 d2 pg hk
     rw[e1]
     refine⟨e2.bw (Nat.le_refl _) λb _ hb=>⟨bC.er hb,rfl⟩,λhp=>(e3 λid hid=>hf hp id ?_).bw (Nat.le_refl _) λb _ hb=>⟨bC.q hb,rfl⟩⟩
     simp only[vK,Ey]
     rw[JV]
     exact List.mem_append_left _ hid
    have h0:=hr.1
    cases ag with
    |true=>
     obtain⟨uk,rfl,h0⟩:=h0
     obtain⟨q1,q2⟩:=key uk h0
     exact⟨_,cs,uk,x1,x2,rfl,rfl,hlen,rfl,q1,q2,f2 G3 l3⟩
    |false=>
     obtain⟨e,rfl,h0,h0'⟩:=h0
     obtain⟨q1,q2⟩:=key [c] ⟨h0,trivial⟩
     exact⟨c,cs,[c],x1,x2,rfl,rfl,hlen,⟨rfl,h0'⟩,q1,q2,f2 G3 l3⟩
 | .x n::ps,.pt bx 0::vs,cs,k,k1,xs,bs,G1,hk,hr,hf,h,hd=>by
  cases cs with
  |nil=>exact hr.elim
  |cons c cs=>
   simp only[Wk.args]at h
   split at h
   ·rename_i ag es vg
    cases hc:Nat.beq es.length n with
    |false=>simp[hc]at h
    |true=>
     simp only[hc,cond_true,cU,bP,Prod.mk.injEq]at h
     obtain⟨k2,h0,⟨k3,x1⟩,h1,⟨k4,x2,bs2⟩,h2,rfl,rfl,rfl⟩:=h
     obtain⟨Gt,wt,lt⟩:=hk.oh h0
     obtain⟨_,_,_,_,t4,t5,tf,t7,_⟩:=hk.eY h0
     have hs:=Wk.il h1
     obtain⟨d2,i2,G2,w2,l2,f2⟩:=Kt (wt.same hs) (hr.2.bw (lt.bw w)) (λhp id hid=>by
      obtain⟨pv,x,hx⟩:=hf hp id (by simp only[vK];rw[JV];exact List.mem_append_right _ hid)
      exact⟨pv,x,by rw[hs.get];exact t7 _ _ _ hx⟩) h2 hd
     have f_:=Wk.lO h1 d2
     have Sv:k.bT S ρ:=by unfold Wk.bT at f_⊢;rw[<-t4,<-t5];exact f_
     have qk:=hk.rel.bx bx
     rw[<-Wk.bn,vg]at qk
     obtain⟨b1,arr,elem,b2,b3⟩:=qk
     obtain⟨ts,e1,e2,e3,e4⟩:=Wk.im h1 d2 (b3.bw (lt.bw w) λ_ _ hf=>hf) wt
     have hp:c=.pointer (some ⟨G1.β bx,0,none⟩):=hr.1
     refine⟨Sv,by rw[i2,hs.i,t4],G2,w2,lt.trans l2,λG3 l3=>?_⟩
     have qZ:=(lt.trans l2).trans l3
     refine⟨c,cs,bx,ag,bs2,arr,elem,x1,x2,rfl,rfl,by rw[qZ.β];exact hp,by rw[qZ.β];exact qZ.x b1 (λ_ _ e=>by cases e),by rw[qZ.β];exact b2,rfl,?_,?_,f2 G3 l3⟩
     ·rw[e4,<-b3.length];exact ew hc
     ·rw[e1];exact(e3 tf).bw (Nat.le_refl _) λb _ hb=>⟨(l2.trans l3).q hb,rfl⟩
   ·cases h
 | [],_::_,cs,k,k1,xs,bs,G1,hk,hr,hf,h,hd=>by simp[Wk.args]at h
 |_::_,[],cs,k,k1,xs,bs,G1,hk,hr,hf,h,hd=>by simp[Wk.args]at h
 | .x _::_,.pt _ (_+1)::_,cs,k,k1,xs,bs,G1,hk,hr,hf,h,hd=>by simp[Wk.args]at h
 | .v _ _::_,.un::_,cs,k,k1,xs,bs,G1,hk,hr,hf,h,hd=>by simp[Wk.args]at h
 | .v _ _::_,.pt _ _::_,cs,k,k1,xs,bs,G1,hk,hr,hf,h,hd=>by simp[Wk.args]at h
 | .v _ _::_,.ep _ _ _ _ _::_,cs,k,k1,xs,bs,G1,hk,hr,hf,h,hd=>by simp[Wk.args]at h
 | .v _ _::_,.fp _ _ _ _::_,cs,k,k1,xs,bs,G1,hk,hr,hf,h,hd=>by simp[Wk.args]at h
 | .v _ _::_,.tp _::_,cs,k,k1,xs,bs,G1,hk,hr,hf,h,hd=>by simp[Wk.args]at h
 | .v _ _::_,.cl _ _::_,cs,k,k1,xs,bs,G1,hk,hr,hf,h,hd=>by simp[Wk.args]at h
 | .v _ _::_,.ob _ _::_,cs,k,k1,xs,bs,G1,hk,hr,hf,h,hd=>by simp[Wk.args]at h
 | .v _ _::_,.fz _ _::_,cs,k,k1,xs,bs,G1,hk,hr,hf,h,hd=>by simp[Wk.args]at h
 | .v _ _::_,.tk _ _::_,cs,k,k1,xs,bs,G1,hk,hr,hf,h,hd=>by simp[Wk.args]at h
 | .v _ _::_,.fl _::_,cs,k,k1,xs,bs,G1,hk,hr,hf,h,hd=>by simp[Wk.args]at h
 | .v _ _::_,.fr _::_,cs,k,k1,xs,bs,G1,hk,hr,hf,h,hd=>by simp[Wk.args]at h
 | .x _::_,.un::_,cs,k,k1,xs,bs,G1,hk,hr,hf,h,hd=>by simp[Wk.args]at h
 | .x _::_,.v _ _::_,cs,k,k1,xs,bs,G1,hk,hr,hf,h,hd=>by simp[Wk.args]at h
 | .x _::_,.ep _ _ _ _ _::_,cs,k,k1,xs,bs,G1,hk,hr,hf,h,hd=>by simp[Wk.args]at h
 | .x _::_,.fp _ _ _ _::_,cs,k,k1,xs,bs,G1,hk,hr,hf,h,hd=>by simp[Wk.args]at h
 | .x _::_,.tp _::_,cs,k,k1,xs,bs,G1,hk,hr,hf,h,hd=>by simp[Wk.args]at h
 | .x _::_,.cl _ _::_,cs,k,k1,xs,bs,G1,hk,hr,hf,h,hd=>by simp[Wk.args]at h
 | .x _::_,.ob _ _::_,cs,k,k1,xs,bs,G1,hk,hr,hf,h,hd=>by simp[Wk.args]at h
 | .x _::_,.fz _ _::_,cs,k,k1,xs,bs,G1,hk,hr,hf,h,hd=>by simp[Wk.args]at h
 | .x _::_,.tk _ _::_,cs,k,k1,xs,bs,G1,hk,hr,hf,h,hd=>by simp[Wk.args]at h
 | .x _::_,.fl _::_,cs,k,k1,xs,bs,G1,hk,hr,hf,h,hd=>by simp[Wk.args]at h
 | .x _::_,.fr _::_,cs,k,k1,xs,bs,G1,hk,hr,hf,h,hd=>by simp[Wk.args]at h
end
theorem Fj{W:St}{r:bN}{u:SV}(h:W.look r=some u):(r,u)∈W:=by
 induction W with
 |nil=>cases h
 |cons x W ih=>
  obtain⟨r',v⟩:=x
  rcases j9 h with⟨rfl,rfl⟩|h
  ·exact List.mem_cons_self
  ·exact List.mem_cons_of_mem _ (ih h)
def lc:Nat->List Ck->List (Option Nat)->Ren
 |i,.o _::ks,x::is=>(nV i,x)::lc (nV i+1) ks is
 |i,_::ks,_::is=>lc i ks is
 |_,_,_=>[]
theorem ww:∀{ks:List Ck} {is:List (Option Nat)} {i j:Nat} {x:Option Nat},(j,x)∈lc i ks is->i<=j∧x∈is
 | [],is,i,j,x,h=>by simp[lc]at h
 |_::_,[],i,j,x,h=>by simp[lc]at h
 | .o _::ks,y::is,i,j,x,h=>by
  simp only[lc,List.mem_cons,Prod.mk.injEq]at h
  have Sw:=Ju i
  rcases h with⟨rfl,rfl⟩|h
  ·exact⟨Sw,by simp⟩
  ·have:=ww h;exact⟨by omega,by simp[this.2]⟩
 | .s::ks,y::is,i,j,x,h=>by have:=ww (show(j,x)∈lc i ks is from h);exact⟨this.1,by simp[this.2]⟩
 | .p::ks,y::is,i,j,x,h=>by have:=ww (show(j,x)∈lc i ks is from h);exact⟨this.1,by simp[this.2]⟩
theorem Fk:∀{ks:List Ck} {is:List (Option Nat)} {i j:Nat} {x:Option Nat},(j,x)∈lc i ks is->nW (lc i ks is) j=some x
 | [],is,i,j,x,h=>by simp[lc]at h
 |_::_,[],i,j,x,h=>by simp[lc]at h
 | .o _::ks,y::is,i,j,x,h=>by
  simp only[lc,List.mem_cons,Prod.mk.injEq]at h
  rcases h with⟨rfl,rfl⟩|h
  ·simp[lc,nW]
  ·have h1:=(ww h).1
   have:Nat.beq (nV i) j=false:=by
    cases hb:Nat.beq (nV i) j with
    |false=>rfl
    |true=>have:=ew hb;omega
   simp only[lc,nW,this,cond_false]
   exact Fk h
 | .s::ks,y::is,i,j,x,h=>Fk (ks:=ks) (is:=is) h
 | .p::ks,y::is,i,j,x,h=>Fk (ks:=ks) (is:=is) h
theorem BC:∀{ks:List Ck} {is:List (Option Nat)} {i j k:Nat},(is.filterMap id).Nodup->(j,some k)∈lc i ks is->nw (lc i ks is) k=some j
 | [],is,i,j,k,_,h=>by simp[lc]at h
 |_::_,[],i,j,k,_,h=>by simp[lc]at h
 | .o _::ks,none::is,i,j,k,hn,h=>by
  simp only[lc,List.mem_cons,Prod.mk.injEq]at h
  rcases h with⟨_,h⟩|h
  ·cases h
  ·simp only[lc,nw];exact BC (by simpa using hn) h
 | .o _::ks,some y::is,i,j,k,hn,h=>by
  simp only[List.filterMap_cons_some (f:=id) (a:=some y) rfl,List.nodup_cons]at hn
  simp only[lc,List.mem_cons,Prod.mk.injEq]at h
  rcases h with⟨rfl,h⟩|h
  ·cases h;simp[lc,nw]
  ·have dU:Nat.beq y k=false:=by
    cases hb:Nat.beq y k with
    |false=>rfl
    |true=>
     have:=ew hb
     subst this
     exact absurd (show y∈is.filterMap id from List.mem_filterMap.2 ⟨some y,(ww h).2,rfl⟩) hn.1
   simp only[lc,nw,dU,cond_false]
   exact BC hn.2 h
 | .s::ks,y::is,i,j,k,hn,h=>by
  refine BC (ks:=ks) (is:=is) ?_ h
  cases y with
  |none=>simpa using hn
  |some y=>simp only[List.filterMap_cons_some (f:=id) (a:=some y) rfl,List.nodup_cons]at hn;exact hn.2
 | .p::ks,y::is,i,j,k,hn,h=>by
  refine BC (ks:=ks) (is:=is) ?_ h
  cases y with
  |none=>simpa using hn
  |some y=>simp only[List.filterMap_cons_some (f:=id) (a:=some y) rfl,List.nodup_cons]at hn;exact hn.2
theorem yL:∀{rn:Ren} {k j:Nat},nw rn k=some j->(j,some k)∈rn
 | [],k,j,h=>by simp[nw]at h
 |(i,none)::rn,k,j,h=>List.mem_cons_of_mem _ (yL (show nw rn k=some j from h))
 |(i,some y)::rn,k,j,h=>by
  simp only[nw]at h
  cases hb:Nat.beq y k with
  |true=>simp[hb]at h;subst h;rw[ew hb];exact List.mem_cons_self
  |false=>simp[hb]at h;exact List.mem_cons_of_mem _ (yL h)
theorem yM:∀{rn:Ren} {j:Nat} {x:Option Nat},nW rn j=some x->(j,x)∈rn
 | [],k,j,h=>by simp[nW]at h
 |(i,y)::rn,j,x,h=>by
  simp only[nW]at h
  cases hb:Nat.beq i j with
  |true=>simp[hb]at h;subst h;rw[ew hb];exact List.mem_cons_self
  |false=>simp[hb]at h;exact List.mem_cons_of_mem _ (yM h)
def kP:Ck->Bool
 | .p| .o false=>true
 |_=>false
theorem fG.ql{G G':Gh}{w:World}{id j:Nat}{t:T}(h:fG G w id false [] t)(iE:∀c,G.ω c=some (.o id [])->G'.ω c=some (.o j []))(hH:G'.H j []=G.H id [])
  (hn:∀b,G.q b=none->G'.q b=none):fG G' w j false [] t:=by
 cases h with
 |nil h=>exact .nil (by rw[hH];exact h)
 | @l _ _ xs b wd cap arr elem cv h1 h2 h3 h4 h5 h6 h7 h8 h9 nX xf=>
  exact .l (by rw[hH];exact h1) h2 (iE _ h3) h4 h5 h6 h7 h8 (λi j ys hy hd=>(h9 i j ys hy hd).bw (Nat.le_refl _) λb _ hb=>⟨hn b hb,rfl⟩) (λ_ _ _ _ hd=>by cases hd) λ_ _ _ _ hd=>by cases hd
section
variable {w':World} {ρ:List T} {G' G2:Gh}
theorem BD{rn:Ren}(hH:∀j x,nW rn j=some x->G2.H j=match x with|some id=>G'.H id|none=>λ_=>.slice none 0 0)
  (iE:∀j id,nw rn id=some j->∀c r,G'.ω c=some (.o id r)->G2.ω c=some (.o j r)):
  ∀{ks:List Ck} {us:List Value} {ts:List T} {is:List (Option Nat)} {ct:Ct},ci G' w' ks us ts is->(∀j t,ts[j]?=some t->ρ[ct.a+j]?=some t)->
   (∀k∈ks,kP k=true->∀b,G'.q b=none->G2.q b=none)->(∀j x,(j,x)∈lc ct.i ks is->nW rn j=some x)->(∀j id,(j,some id)∈lc ct.i ks is->nw rn id=some j)->
   bu G2 w' ρ (gg ct ks).2.1 us∧(gg ct ks).1.a=ct.a+ts.length∧ct.i<=(gg ct ks).1.i∧(∀i∈dZ (gg ct ks).2.1,ct.i<=i∧i<(gg ct ks).1.i)∧
   (∀j x,(j,x)∈lc ct.i ks is->j<(gg ct ks).1.i)∧
   ∀r u,(r,u)∈(gg ct ks).2.2->∃j,r=.o j∧ct.i<=j∧j<(gg ct ks).1.i∧cS G2 w' ρ j u∧dI u=[]
 | [],[],[],[],ct,_,_,_,_,_=>⟨trivial,rfl,Nat.le_refl _,λi hi=>by simp[gg,dZ]at hi,λj x h=>by simp[lc]at h,λr u h=>by simp[gg]at h⟩
 | .s::ks,u::us,t::ts,x::is,ct,h,nq,hp,h1,h2=>by
  obtain⟨rfl,hd,hs,h⟩:=h
  obtain⟨g1,g2,g3,g4,g5,g6⟩:=BD hH iE (ct:=⟨ct.a+1,ct.i⟩) h (λj t' hj=>by have:=nq (j+1) t' (by simpa using hj);rw[<-this];congr 1;show ct.a+1+j=_;omega) (λk hk=>hp k (by simp[hk])) h1 h2
  have h0:ρ[ct.a]?=some t:=nq 0 t rfl
  obtain⟨v,rfl⟩:=yA hs
  obtain⟨rfl,hv⟩:=hd.scalar
  refine⟨⟨⟨.c u,h0,.c hv⟩,g1⟩,?_,g3,?_,g5,g6⟩
  ·simp only[gg,List.length_cons];rw[g2];show ct.a+1+_=_;omega
  ·intro i hi;simp only[gg,dZ]at hi;exact g4 i hi
 | .p::ks,u::us,t::ts,x::is,ct,h,nq,hp,h1,h2=>by
  obtain⟨rfl,hd,h⟩:=h
  obtain⟨g1,g2,g3,g4,g5,g6⟩:=BD hH iE (ct:=⟨ct.a+1,ct.i⟩) h (λj t' hj=>by have:=nq (j+1) t' (by simpa using hj);rw[<-this];congr 1;show ct.a+1+j=_;omega) (λk hk=>hp k (by simp[hk])) h1 h2
  have h0:ρ[ct.a]?=some t:=nq 0 t rfl
  refine⟨⟨⟨t,h0,hd.bw (Nat.le_refl _) λb _ hb=>⟨hp .p (by simp) rfl b hb,rfl⟩⟩,g1⟩,?_,g3,?_,g5,g6⟩
  ·simp only[gg,List.length_cons];rw[g2];show ct.a+1+_=_;omega
  ·intro i hi;simp only[gg,dZ]at hi;exact g4 i hi
 | .o dp::ks,u::us,t::ts,none::is,ct,h,nq,hp,h1,h2=>by
  obtain⟨rfl,rfl,h⟩:=h
  obtain⟨g1,g2,g3,g4,g5,g6⟩:=BD hH iE (ct:=⟨ct.a+1,nV ct.i+1⟩) h (λj t' hj=>by have:=nq (j+1) t' (by simpa using hj);rw[<-this];congr 1;show ct.a+1+j=_;omega) (λk hk=>hp k (by simp[hk]))
   (λj x hj=>h1 j x (by simp[lc,hj])) (λj id hj=>h2 j id (by simp[lc,hj]))
  have h0:ρ[ct.a]?=some (.l []):=nq 0 _ rfl
  have hr:=hH (nV ct.i) none (h1 (nV ct.i) none (by simp[lc]))
  simp only at hr
  have g3':nV ct.i+1<=(gg ⟨ct.a+1,nV ct.i+1⟩ ks).1.i:=g3
  have Sw:=Ju ct.i
  refine⟨⟨⟨[],rfl,by rw[hr]⟩,g1⟩,?_,by simp only[gg];omega,?_,?_,?_⟩
  ·simp only[gg,List.length_cons];rw[g2];show ct.a+1+_=_;omega
  ·intro i hi
   simp only[gg,dZ,List.mem_cons]at hi⊢
   rcases hi with rfl|hi
   ·omega
   ·have:=g4 i hi
    have h3:nV ct.i+1<=i:=this.1
    omega
  ·intro j x hj
   simp only[lc,List.mem_cons,Prod.mk.injEq]at hj
   simp only[gg]
   rcases hj with⟨rfl,_⟩|hj
   ·omega
   ·exact g5 j x hj
  ·intro r u' qK
   simp only[gg,List.mem_cons,Prod.mk.injEq]at qK⊢
   rcases qK with⟨rfl,rfl⟩|qK
   ·exact⟨nV ct.i,rfl,Sw,by omega,⟨.l [],h0,.nil (by rw[hr])⟩,rfl⟩
   ·obtain⟨j,e1,e2,e3,e4,e5⟩:=g6 r u' qK
    have e2':nV ct.i+1<=j:=e2
    exact⟨j,e1,by omega,e3,e4,e5⟩
 | .o dp::ks,u::us,t::ts,some id::is,ct,h,nq,hp,h1,h2=>by
  obtain⟨rfl,b8,h⟩:=h
  obtain⟨g1,g2,g3,g4,g5,g6⟩:=BD hH iE (ct:=⟨ct.a+1,nV ct.i+1⟩) h (λj t' hj=>by have:=nq (j+1) t' (by simpa using hj);rw[<-this];congr 1;show ct.a+1+j=_;omega) (λk hk=>hp k (by simp[hk]))
   (λj x hj=>h1 j x (by simp[lc,hj])) (λj id hj=>h2 j id (by simp[lc,hj]))
  have h0:ρ[ct.a]?=some t:=nq 0 _ rfl
  have hr:=hH (nV ct.i) (some id) (h1 (nV ct.i) (some id) (by simp[lc]))
  simp only at hr
  have ht:=iE (nV ct.i) id (h2 (nV ct.i) id (by simp[lc]))
  have g3':nV ct.i+1<=(gg ⟨ct.a+1,nV ct.i+1⟩ ks).1.i:=g3
  have Sw:=Ju ct.i
  refine⟨⟨⟨[],rfl,by rw[hr]⟩,g1⟩,?_,by simp only[gg];omega,?_,?_,?_⟩
  ·simp only[gg,List.length_cons];rw[g2];show ct.a+1+_=_;omega
  ·intro i hi
   simp only[gg,dZ,List.mem_cons]at hi⊢
   rcases hi with rfl|hi
   ·omega
   ·have:=g4 i hi
    have h3:nV ct.i+1<=i:=this.1
    omega
  ·intro j x hj
   simp only[lc,List.mem_cons,Prod.mk.injEq]at hj
   simp only[gg]
   rcases hj with⟨rfl,_⟩|hj
   ·omega
   ·exact g5 j x hj
  ·intro r u' qK
   simp only[gg,List.mem_cons,Prod.mk.injEq]at qK⊢
   rcases qK with⟨rfl,rfl⟩|qK
   ·refine⟨nV ct.i,rfl,Sw,by omega,⟨t,h0,?_⟩,rfl⟩
    cases dp with
    |true=>exact b8.move rfl (λc r hc=>⟨ht c r hc,rfl⟩) λr=>by rw[hr]
    |false=>exact b8.ql (λc hc=>ht c [] hc) (by rw[hr]) (hp (.o false) (by simp) rfl)
   ·obtain⟨j,e1,e2,e3,e4,e5⟩:=g6 r u' qK
    have e2':nV ct.i+1<=j:=e2
    exact⟨j,e1,by omega,e3,e4,e5⟩
 | [],_::_,_,_,ct,h,_,_,_,_=>by simp[ci]at h
 | [],[],_::_,_,ct,h,_,_,_,_=>by simp[ci]at h
 | [],[],[],_::_,ct,h,_,_,_,_=>by simp[ci]at h
 |k::_,[],_,_,ct,h,_,_,_,_=>by cases k<;>simp[ci]at h
 |k::_,_::_,[],_,ct,h,_,_,_,_=>by cases k<;>simp[ci]at h
 |k::_,_::_,_::_,[],ct,h,_,_,_,_=>by cases k<;>simp[ci]at h
theorem Qq:∀(k1 k2:List Ck) (ct:Ct),gg ct (k1++k2)=((gg (gg ct k1).1 k2).1,(gg ct k1).2.1++(gg (gg ct k1).1 k2).2.1,(gg ct k1).2.2++(gg (gg ct k1).1 k2).2.2)
 | [],k2,ct=>by simp[gg]
 | .o dp::k1,k2,ct=>by simp[gg,Qq k1 k2]
 | .s::k1,k2,ct=>by simp[gg,Qq k1 k2]
 | .p::k1,k2,ct=>by simp[gg,Qq k1 k2]
def mP:List (Bool×List Ck)->List Ck
 | []=>[]
 |r::rs=>r.2++mP rs
theorem Sx:∀(rs:List (Bool×List Ck)) (ct:Ct),(n_ ct rs).1=(gg ct (mP rs)).1∧(n_ ct rs).2.2=(gg ct (mP rs)).2.2
 | [],ct=>⟨rfl,rfl⟩
 |r::rs,ct=>by
  obtain⟨h1,h2⟩:=Sx rs (gg ct r.2).1
  simp only[n_,mP,Qq]
  exact⟨h1,by rw[h2]⟩
theorem bu.split{G:Gh}{w:World}:∀{c1 c2:List Ce} {v1 v2:List Value},c1.length=v1.length->bu G w ρ (c1++c2) (v1++v2)->bu G w ρ c1 v1∧bu G w ρ c2 v2
 | [],_,[],_,_,h=>⟨trivial,h⟩
 | [],_,_::_,_,h,_=>by simp at h
 |_::_,_,[],_,h,_=>by simp at h
 |c::c1,_,v::v1,_,h,hr=>by
  obtain⟨h1,h2⟩:=bu.split (by simpa using h) hr.2
  exact⟨⟨hr.1,h1⟩,h2⟩
theorem Sy:∀(ks:List Ck) (ct:Ct),(gg ct ks).2.1.length=ks.length
 | [],ct=>rfl
 | .o dp::ks,ct=>by simp[gg,Sy ks]
 | .s::ks,ct=>by simp[gg,Sy ks]
 | .p::ks,ct=>by simp[gg,Sy ks]
theorem ci.len:∀{ks:List Ck} {us:List Value} {ts:List T} {is:List (Option Nat)},ci G' w' ks us ts is->us.length=ks.length∧ts.length=ks.length∧is.length=ks.length
 | [],[],[],[],_=>⟨rfl,rfl,rfl⟩
 | .s::ks,_::us,_::ts,x::is,h=>by have:=ci.len h.2.2.2;simp[this]
 | .p::ks,_::us,_::ts,x::is,h=>by have:=ci.len h.2.2;simp[this]
 | .o _::ks,_::us,_::ts,none::is,h=>by have:=ci.len h.2.2;simp[this]
 | .o _::ks,_::us,_::ts,some _::is,h=>by have:=ci.len h.2.2;simp[this]
 | [],_::_,_,_,h=>by simp[ci]at h
 | [],[],_::_,_,h=>by simp[ci]at h
 | [],[],[],_::_,h=>by simp[ci]at h
 |k::_,[],_,_,h=>by cases k<;>simp[ci]at h
 |k::_,_::_,[],_,h=>by cases k<;>simp[ci]at h
 |k::_,_::_,_::_,[],h=>by cases k<;>simp[ci]at h
theorem ci.append:∀{k1:List Ck} {u1:List Value} {t1:List T} {i1:List (Option Nat)} {k2:List Ck} {u2:List Value} {t2:List T} {i2:List (Option Nat)},ci G' w' k1 u1 t1 i1->ci G' w' k2 u2 t2 i2->
  ci G' w' (k1++k2) (u1++u2) (t1++t2) (i1++i2)
 | [],[],[],[],_,_,_,_,_,h=>h
 | .s::ks,_::us,_::ts,x::is,_,_,_,_,h,h'=>⟨h.1,h.2.1,h.2.2.1,ci.append h.2.2.2 h'⟩
 | .p::ks,_::us,_::ts,x::is,_,_,_,_,h,h'=>⟨h.1,h.2.1,ci.append h.2.2 h'⟩
 | .o _::ks,_::us,_::ts,none::is,_,_,_,_,h,h'=>⟨h.1,h.2.1,ci.append h.2.2 h'⟩
 | .o _::ks,_::us,_::ts,some _::is,_,_,_,_,h,h'=>⟨h.1,h.2.1,ci.append h.2.2 h'⟩
 | [],_::_,_,_,_,_,_,_,h,_=>by simp[ci]at h
 | [],[],_::_,_,_,_,_,_,h,_=>by simp[ci]at h
 | [],[],[],_::_,_,_,_,_,h,_=>by simp[ci]at h
 |k::_,[],_,_,_,_,_,_,h,_=>by cases k<;>simp[ci]at h
 |k::_,_::_,[],_,_,_,_,_,h,_=>by cases k<;>simp[ci]at h
 |k::_,_::_,_::_,[],_,_,_,_,h,_=>by cases k<;>simp[ci]at h
theorem Sz:∀{rs:List (Bool×List Ck)} {vs:List Value} {ts:List T} {is:List (Option Nat)},jy G' w' rs vs ts is->
  ∃us:List Value,ci G' w' (mP rs) us ts is∧∀(G2:Gh) (w2:World) (ct:Ct),bu G2 w2 ρ (gg ct (mP rs)).2.1 us->gR G2 w2 ρ (n_ ct rs).2.1 vs
 | [],[],[],[],_=>⟨[],trivial,λ_ _ _ _=>trivial⟩
 |r::rs,v::vs,ts,is,h=>by
  obtain⟨t1,t2,i1,i2,rfl,rfl,h1,h2⟩:=h
  obtain⟨us,g1,g2⟩:=Sz h2
  obtain⟨ag,ks⟩:=r
  have key:∀u1:List Value,ci G' w' ks u1 t1 i1->(∀(G2:Gh) (w2:World) (cs:List Ce),bu G2 w2 ρ cs u1->cs.length=ks.length->fH G2 w2 ρ ag cs v)->
    ∃us:List Value,ci G' w' (mP ((ag,ks)::rs)) us (t1++t2) (i1++i2)∧∀(G2:Gh) (w2:World) (ct:Ct),bu G2 w2 ρ (gg ct (mP ((ag,ks)::rs))).2.1 us->gR G2 w2 ρ (n_ ct ((ag,ks)::rs)).2.1 (v::vs):=by
   intro u1 hu hv
   refine⟨u1++us,hu.append g1,λG2 w2 ct hr=>?_⟩
   simp only[mP,Qq]at hr
   obtain⟨r1,r2⟩:=bu.split (by rw[Sy,(ci.len hu).1]) hr
   exact⟨hv G2 w2 _ r1 (Sy _ _),g2 G2 w2 _ r2⟩
  cases ag with
  |true=>
   obtain⟨u1,rfl,hu⟩:=h1
   exact key u1 hu λG2 w2 cs hr _=>⟨u1,rfl,hr⟩
  |false=>
   obtain⟨hu,E1⟩:=h1
   refine key [v] hu λG2 w2 cs hr hl=>?_
   have:=(ci.len hu).1
   rw[<-this]at hl
   match cs,hl with
   | [c],_=>exact⟨c,rfl,hr.1,E1⟩
 | [],[],_::_,_,h=>h.elim
 | [],[],[],_::_,h=>h.elim
 | [],_::_,_,_,h=>h.elim
 |_::_,[],_,_,h=>h.elim
def iv:Nat->List PS->List (Nat×Bool×Nat)->List (Nat×Nat)
 |i,.v _ _::ps,bs=>iv (i+1) ps bs
 |i,.x _::ps,b::bs=>(i,b.1)::iv (i+1) ps bs
 |_,_,_=>[]
def ul:List (Nat×Bool×Nat)->Nat
 | []=>0
 |b::bs=>b.2.2+ul bs
theorem SA:∀(bs:List (Nat×Bool×Nat)) (a:Nat),(tO a bs).1=a+ul bs
 | [],a=>rfl
 |b::bs,a=>by obtain⟨bx,ag,n⟩:=b;simp only[tO,ul,SA bs];omega
theorem Fl{w:World}{G:Gh}:∀{n a:Nat} {ts:List T} {vs:List Value},ts.length=n->fa G.q w ts vs->(∀j t,ts[j]?=some t->ρ[a+j]?=some t)->bu G w ρ (DP a n) vs∧dZ (DP a n)=[]
 |0,a,[],[],_,_,_=>⟨trivial,rfl⟩
 |0,a,[],_::_,_,h,_=>h.elim
 |0,a,_::_,_,h,_,_=>by simp at h
 |n+1,a,[],_,h,_,_=>by simp at h
 |n+1,a,_::_,[],_,h,_=>h.elim
 |n+1,a,t::ts,v::vs,hl,h,nq=>by
  obtain⟨g1,g2⟩:=Fl (a:=a+1) (by simpa using hl) h.2 (λj t' hj=>by have:=nq (j+1) t' (by simpa using hj);rw[<-this];congr 1;omega)
  exact⟨⟨⟨t,nq 0 t rfl,h.1⟩,g1⟩,by simp[DP,dZ,g2]⟩
theorem Ku{bl:Nat->Option Nat}(hn:∀b,G'.q b=none->G2.q b=none){G1:Gh}{w:World}{pl:Bool}:
  ∀{ps:List PS} {args:List Value} {xs:List Lf} {bs:List (Nat×Bool×Nat)} {i a:Nat} {ts:List T},uj G1 w ρ pl ps args xs bs->iQ G' w' bl i ps ts->(∀j t,ts[j]?=some t->ρ[a+j]?=some t)->
   (∀j bx,(j,bx)∈iv i ps bs->bl j=some (G2.β bx)∧G2.ω (G2.β bx)=some (.x bx))->
   ts.length=ul bs∧∀r u,(r,u)∈(tO a bs).2->∃j bx,(j,bx)∈iv i ps bs∧r=.x bx∧gy G2 w' ρ bx u∧dI u=[]
 | [],args,xs,bs,i,a,ts,hA,hB,nq,hp=>by
  obtain⟨_,_,rfl⟩:=hA
  cases hB
  exact⟨rfl,λr u h=>by simp[tO]at h⟩
 | .v ag n::ps,args,xs,bs,i,a,ts,hA,hB,nq,hp=>by
  obtain⟨c,fD,vs,x1,x2,_,_,_,_,_,_,hA⟩:=hA
  exact Ku (ps:=ps) (i:=i+1) hn hA hB nq hp
 | .x n::ps,args,xs,bs,i,a,ts,hA,hB,nq,hp=>by
  obtain⟨c,fD,bx,ag,yE,aht,SB,x1,x2,_,rfl,_,_,_,_,_,_,hA⟩:=hA
  obtain⟨b,arr,elem,t1,t2,hb,iE,hh,rfl,hl,hd,hB⟩:=hB
  obtain⟨q1,q2⟩:=hp i bx (by simp[iv])
  rw[hb]at q1
  cases q1
  obtain⟨g1,g2⟩:=Ku hn (a:=a+n) hA hB (λj t hj=>by
   have:=nq (n+j) t (by rw[List.getElem?_append_right (by omega)];rw[hl];simpa using hj)
   rw[<-this];congr 1;omega) (λj bx hj=>hp j bx (by simp[iv,hj]))
  obtain⟨g3,g4⟩:=Fl (a:=a) (G:=G2) (w:=w') hl (hd.bw (Nat.le_refl _) λb _ hb=>⟨hn b hb,rfl⟩) (λj t hj=>nq j t (by rw[List.getElem?_append_left (List.getElem?_eq_some_iff.1 hj).1];exact hj))
  refine⟨by simp[ul,hl,g1],λr u qK=>?_⟩
  simp only[tO,List.mem_cons,Prod.mk.injEq]at qK
  rcases qK with⟨rfl,rfl⟩|qK
  ·exact⟨i,bx,by simp[iv],rfl,⟨q2,arr,elem,hh,g3⟩,g4⟩
  ·obtain⟨j,xu,e1,e2⟩:=g2 r u qK
   exact⟨j,xu,by simp[iv,e1],e2⟩
end
def jK(P:Program)(g:FuncId):Prop:=∃fn,P.funcs[g]?=some fn∧(fn.name== "runtime.NumGoroutine")=false∧fn.body.isNone=false
theorem SC{P:Program}{w:World}{g:FuncId}(h:jK P g)(args:Array Value):(callFunc g args).run P w=.ok (.enter g args) w:=by
 obtain⟨fn,h1,h2,h3⟩:=h
 simp only[callFunc,Sem.run_bind,run_program,Result.andThen_ok,h1,h2,h3,cE,if_false,Sem.run_pure]
section
variable {M:Nat->Prop} {B:ft} {d:Nat} {up:Nat->Nat->Value} {ρ:List T} {G:Gh} {a:Act} {w:World} {S:Nat->aA} {P:Program}
variable {cx:Cx} {df fP oi:Nat} {s:St} {R:List bN} {ct:Ct} {k':Wk} {o:Oper} {Q:Exit->Act->World->Prop}
theorem Kv:∀{l:List Nat},vL l=true->l.Nodup
 | [],_=>List.nodup_nil
 |x::xs,h=>by
  simp only[vL,bL,Bool.not_eq_true']at h
  refine List.nodup_cons.2 ⟨λhm=>?_,Kv h.2⟩
  have:=h.1
  rw[List.any_eq_false]at this
  exact this x hm (by simp)
theorem BE:∀{ps:List PS} {bs:List (Nat×Bool×Nat)} {i j bx:Nat},(j,bx)∈iv i ps bs->i<=j∧j<i+ps.length
 | [],bs,i,j,bx,h=>by simp[iv]at h
 | .v _ _::ps,bs,i,j,bx,h=>by have:=BE (show(j,bx)∈iv (i+1) ps bs from h);simp only[List.length_cons];omega
 | .x _::ps,[],i,j,bx,h=>by simp[iv]at h
 | .x _::ps,b::bs,i,j,bx,h=>by
  simp only[iv,List.mem_cons,Prod.mk.injEq]at h
  simp only[List.length_cons]
  rcases h with⟨rfl,_⟩|h
  ·omega
  ·have:=BE h;omega
theorem BF:∀{ps:List PS} {bs:List (Nat×Bool×Nat)} {i j bx:Nat},(j,bx)∈iv i ps bs->bx∈bs.map (·.1)
 | [],bs,i,j,bx,h=>by simp[iv]at h
 | .v _ _::ps,bs,i,j,bx,h=>BF (show(j,bx)∈iv (i+1) ps bs from h)
 | .x _::ps,[],i,j,bx,h=>by simp[iv]at h
 | .x _::ps,b::bs,i,j,bx,h=>by
  simp only[iv,List.mem_cons,Prod.mk.injEq]at h
  rcases h with⟨_,rfl⟩|h
  ·simp
  ·have:=BF h;simp only[List.map_cons,List.mem_cons];exact .inr this
theorem Kw:∀{ps:List PS} {bs:List (Nat×Bool×Nat)} {i:Nat},(bs.map (·.1)).Nodup->
  (∀j bx xu,(j,bx)∈iv i ps bs->(j,xu)∈iv i ps bs->bx=xu)∧(∀j j' bx,(j,bx)∈iv i ps bs->(j',bx)∈iv i ps bs->j=j')
 | [],bs,i,_=>⟨λ_ _ _ h=>by simp[iv]at h,λ_ _ _ h=>by simp[iv]at h⟩
 | .v _ _::ps,bs,i,hn=>Kw (ps:=ps) (i:=i+1) hn
 | .x _::ps,[],i,_=>⟨λ_ _ _ h=>by simp[iv]at h,λ_ _ _ h=>by simp[iv]at h⟩
 | .x _::ps,b::bs,i,hn=>by
  simp only[List.map_cons,List.nodup_cons]at hn
  obtain⟨g1,g2⟩:=Kw (ps:=ps) (i:=i+1) hn.2
  constructor
  ·intro j bx xu h h'
   simp only[iv,List.mem_cons,Prod.mk.injEq]at h h'
   rcases h with⟨rfl,rfl⟩|h<;>rcases h' with⟨h1,rfl⟩|h'
   ·rfl
   ·have:=BE h';omega
   ·have:=BE h;omega
   ·exact g1 j bx xu h h'
  ·intro j j' bx h h'
   simp only[iv,List.mem_cons,Prod.mk.injEq]at h h'
   rcases h with⟨rfl,rfl⟩|h<;>rcases h' with⟨h1,h2⟩|h'
   ·exact h1.symm
   ·exact absurd (BF h') hn.1
   ·subst h2;exact absurd (BF h) hn.1
   ·exact g2 j j' bx h h'
def um(β:Nat->Nat)(pr:List (Nat×Nat))(j:Nat):Option Nat:=(pr.find? λp=>p.1==j).map λp=>β p.2
def yN(pr:List (Nat×Nat))(bx:Nat):Option Nat:=(pr.find? λp=>p.2==bx).map (·.1)
theorem BG{β:Nat->Nat}{pr:List (Nat×Nat)}{j b:Nat}(h:um β pr j=some b):∃bx,(j,bx)∈pr∧b=β bx:=by
 unfold um at h
 cases hf:pr.find? (λp=>p.1==j)with
 |none=>simp[hf]at h
 |some p=>
  simp[hf]at h
  have h1:=List.mem_of_find?_eq_some hf
  have h2:=List.find?_some hf
  simp at h2
  exact⟨p.2,by rw[<-h2];exact h1,h.symm⟩
theorem ahu{β:Nat->Nat}{pr:List (Nat×Nat)}{j bx:Nat}(hi:∀j bx xu,(j,bx)∈pr->(j,xu)∈pr->bx=xu)(h:(j,bx)∈pr):um β pr j=some (β bx):=by
 cases hf:um β pr j with
 |none=>
  unfold um at hf
  simp only[Option.map_eq_none_iff,List.find?_eq_none]at hf
  exact absurd (by simp) (hf _ h)
 |some b=>
  obtain⟨xu,h1,rfl⟩:=BG hf
  rw[hi j bx xu h h1]
theorem SD{pr:List (Nat×Nat)}{bx j:Nat}(h:yN pr bx=some j):(j,bx)∈pr:=by
 unfold yN at h
 cases hf:pr.find? (λp=>p.2==bx)with
 |none=>simp[hf]at h
 |some p=>
  simp[hf]at h
  have h1:=List.mem_of_find?_eq_some hf
  have h2:=List.find?_some hf
  simp at h2
  rw[<-h,<-h2];exact h1
theorem ahv{pr:List (Nat×Nat)}{j bx:Nat}(hi:∀j j' bx,(j,bx)∈pr->(j',bx)∈pr->j=j')(h:(j,bx)∈pr):yN pr bx=some j:=by
 cases hf:yN pr bx with
 |none=>
  unfold yN at hf
  simp only[Option.map_eq_none_iff,List.find?_eq_none]at hf
  exact absurd (by simp) (hf _ h)
 |some j'=>rw[hi j j' bx h (SD hf)]
theorem qx{G:Gh}{b bx:Nat}(h:G.ω b=some (.x bx)):G.q b=some (.x bx):=AZ h rfl
def td(pl:Bool)(G:Gh)(pr:List (Nat×Nat))(b:Nat):Option Lb:=
 match G.q b with
 |none=>none
 |some .f=>some .f
 |some (.o _ _)=>if pl then some .f else none
 |some (.x bx)=>if b=G.β bx then(match yN pr bx with|some j=>some (.x j)|none=>some .f)else some .f
theorem ahw{pl:Bool}{pr:List (Nat×Nat)}{b:Nat}(h:(if pl then G.q b else er G.ω b)=none):td pl G pr b=none:=by
 unfold td
 cases hg:G.q b with
 |none=>rfl
 |some l=>
  cases pl with
  |true=>simp[hg]at h
  |false=>
   have Ry:=JG hg
   cases l<;>simp[er,Ry]at h⊢
theorem Kx{pl:Bool}{ωc:Nat->Option Lb}{bl:Nat->Option Nat}(iE:∀b,(if pl then G.q b else er G.ω b)=none->ωc b=none):
  ∀{ps:List PS} {args:List Value} {xs:List Lf} {bs:List (Nat×Bool×Nat)} {i:Nat},uj G w ρ pl ps args xs bs->(∀j bx,(j,bx)∈iv i ps bs->bl j=some (G.β bx)∧ωc (G.β bx)=some (.x j))->
   yK ωc w bl i ps args (xs.map (Lf.ev ρ))∧∀j bx,(j,bx)∈iv i ps bs->G.ω (G.β bx)=some (.x bx)
 | [],args,xs,bs,i,h,_=>by
  obtain⟨rfl,rfl,rfl⟩:=h
  exact⟨⟨rfl,rfl⟩,λj bx h=>by simp[iv]at h⟩
 | .v ag n::ps,args,xs,bs,i,h,hp=>by
  obtain⟨c,fD,vs,x1,x2,rfl,rfl,hl,nZ,f_,oR,h⟩:=h
  obtain⟨g1,g2⟩:=Kx iE h (i:=i+1) hp
  refine⟨⟨c,fD,vs,_,_,rfl,List.map_append,by rw[List.length_map];exact hl,nZ,?_,g1⟩,g2⟩
  cases pl with
  |true=>exact(oR rfl).bw (Nat.le_refl _) λb _ hb=>⟨iE b (by simpa using hb),rfl⟩
  |false=>exact f_.bw (Nat.le_refl _) λb _ hb=>⟨iE b (by simpa using hb),rfl⟩
 | .x n::ps,args,xs,bs,i,h,hp=>by
  obtain⟨c,fD,bx,ag,yE,arr,elem,x1,x2,rfl,rfl,hc,hb,hh,rfl,hl,hd,h⟩:=h
  obtain⟨g1,g2⟩:=Kx iE h (i:=i+1) λj bx hj=>hp j bx (by simp[iv,hj])
  obtain⟨q1,q2⟩:=hp i bx (by simp[iv])
  refine⟨⟨c,fD,G.β bx,arr,elem,_,_,rfl,hc,q1,q2,hh,List.map_append,by rw[List.length_map];exact hl,?_,g1⟩,λj xu hj=>?_⟩
  ·refine hd.bw (Nat.le_refl _) λb _ km=>⟨iE b ?_,rfl⟩
   cases pl with
   |true=>simpa using km
   |false=>simpa using Ri km
  ·simp only[iv,List.mem_cons,Prod.mk.injEq]at hj
   rcases hj with⟨_,rfl⟩|hj
   ·exact hb
   ·exact g2 j xu hj
theorem Ky{pl:Bool}:∀{ps:List PS} {args:List Value} {xs:List Lf} {bs:List (Nat×Bool×Nat)} {i:Nat},uj G w ρ pl ps args xs bs->∀j bx,(j,bx)∈iv i ps bs->G.ω (G.β bx)=some (.x bx)
 | [],args,xs,bs,i,h,j,bx,hj=>by simp[iv]at hj
 | .v ag n::ps,args,xs,bs,i,h,j,bx,hj=>by
  obtain⟨c,fD,vs,x1,x2,rfl,rfl,hl,nZ,f_,oR,h⟩:=h
  exact Ky (ps:=ps) (i:=i+1) h j bx hj
 | .x n::ps,args,xs,bs,i,h,j,bx,hj=>by
  obtain⟨c,fD,xu,ag,yE,arr,elem,x1,x2,rfl,rfl,hc,hb,hh,rfl,hl,hd,h⟩:=h
  simp only[iv,List.mem_cons,Prod.mk.injEq]at hj
  rcases hj with⟨_,rfl⟩|hj
  ·exact hb
  ·exact Ky (ps:=ps) (i:=i+1) h j bx hj
def Gh.call(G G':Gh)(sz:Nat)(rn:Ren):Gh where
 ω:=λb=>if b<sz then G.ω b else match G'.ω b with
  |some (.o id p)=>(nw rn id).map λj=>.o j p
  |_=>none
 β:=G.β
 H:=λj=>match nW rn j with
  |some (some id)=>G'.H id
  |some none=>λ_=>.slice none 0 0
  |none=>G.H j
 hs:=λj p=>by
  rcases hr:nW rn j with _|(_|id)
  ·exact G.hs j p
  ·exact⟨_,_,_,rfl⟩
  ·exact G'.hs _ p
theorem SE{sg:nU}(h:pV sg=false):(∀k∈mP sg.rs,kP k=false)∧∀p∈sg.ps,∀n,p≠.x n:=by
 simp only[pV,Bool.or_eq_false_iff]at h
 obtain⟨h1,h2⟩:=h
 constructor
 ·generalize sg.rs=rs at h1
  induction rs with
  |nil=>intro k hk;simp[mP]at hk
  |cons r rs ih=>
   simp only[List.any_cons,Bool.or_eq_false_iff]at h1
   intro k hk
   simp only[mP,List.mem_append]at hk
   rcases hk with hk|hk
   ·have:=List.any_eq_false.1 h1.1 k hk
    cases k with
    |s=>rfl
    |p=>simp at this
    |o dp=>cases dp<;>simp at this⊢;rfl
   ·exact ih h1.2 k hk
 ·intro p hp n he
  subst he
  have:=List.any_eq_false.1 h2 _ hp
  simp at this
theorem SF{pl:Bool}:∀{ps:List PS} {args:List Value} {xs:List Lf} {bs:List (Nat×Bool×Nat)},(∀p∈ps,∀n,p≠.x n)->uj G w ρ pl ps args xs bs->bs=[]
 | [],_,_,_,_,h=>h.2.2
 | .v _ _::ps,args,xs,bs,hp,h=>by
  obtain⟨c,fD,vs,x1,x2,_,_,_,_,_,_,h⟩:=h
  exact SF (λp qL=>hp p (by simp[qL])) h
 | .x n::ps,args,xs,bs,hp,h=>absurd rfl (hp (.x n) (by simp) n)
theorem Kz{pl:Bool}{G':Gh}{w':World}{bl:Nat->Option Nat}:∀{ps:List PS} {args:List Value} {xs:List Lf} {bs:List (Nat×Bool×Nat)} {i:Nat} {ts:List T},uj G w ρ pl ps args xs bs->iQ G' w' bl i ps ts->ts.length=ul bs
 | [],args,xs,bs,i,ts,hA,hB=>by
  obtain⟨_,_,rfl⟩:=hA
  cases hB
  rfl
 | .v _ _::ps,args,xs,bs,i,ts,hA,hB=>by
  obtain⟨c,fD,vs,x1,x2,_,_,_,_,_,_,hA⟩:=hA
  exact Kz (ps:=ps) (i:=i+1) hA hB
 | .x n::ps,args,xs,bs,i,ts,hA,hB=>by
  obtain⟨c,fD,bx,ag,yE,aht,SB,x1,x2,_,rfl,_,_,_,_,_,_,hA⟩:=hA
  obtain⟨b,arr,elem,t1,t2,hb,iE,hh,rfl,hl,hd,hB⟩:=hB
  have:=Kz hA hB
  simp[ul,hl,this]
theorem Fm:∀(ks:List Ck) (ct:Ct),(gg ct ks).1.a=ct.a+ks.length
 | [],ct=>rfl
 | .o dp::ks,ct=>by simp only[gg,Fm ks,List.length_cons];omega
 | .s::ks,ct=>by simp only[gg,Fm ks,List.length_cons];omega
 | .p::ks,ct=>by simp only[gg,Fm ks,List.length_cons];omega
theorem SG:∀{bs:List (Nat×Bool×Nat)} {a bx:Nat},bx∈bs.map (·.1)->(tO a bs).2.look (.x bx)≠none
 | [],a,bx,h=>by simp at h
 |b::bs,a,bx,h=>by
  obtain⟨b0,ag,n⟩:=b
  simp only[tO,St.look]
  cases hb:(bN.x b0).beq (.x bx)with
  |true=>simp
  |false=>
   simp only[List.map_cons,List.mem_cons]at h
   rcases h with rfl|h
   ·simp[bN.beq]at hb
   ·exact SG h
theorem ahy{G':Gh}{w':World}{rs:List (Bool×List Ck)}{v:Value}{ts:List T}{is:List (Option Nat)}(h:Kr G' w' rs v ts is):∃vs:List Value,jy G' w' rs vs ts is∧
  ∀(G2:Gh) (w2:World) (ct:Ct),gR G2 w2 ρ (n_ ct rs).2.1 vs->cR G2 w2 ρ (tP (n_ ct rs).2.1) v:=by
 match rs,h with
 | [],h=>obtain⟨rfl,rfl⟩:=h;exact⟨[],trivial,λ_ _ _ _=>trivial⟩
 | [r],h=>exact⟨[v],h,λG2 w2 ct hr=>hr.1⟩
 |r::r'::rs,h=>
  obtain⟨vs,hv,h'⟩:=h
  exact⟨vs,h',λG2 w2 ct hr=>⟨vs,hv,hr⟩⟩
theorem SH:∀(rs:List (Bool×List Ck)) (ct:Ct),rY (n_ ct rs).2.1=dZ (gg ct (mP rs)).2.1
 | [],ct=>rfl
 |r::rs,ct=>by
  simp only[n_,mP,Qq,rY,JV]
  rw[SH rs]
theorem ahz(vs:List (Bool×List Ce)):∀i∈dI (tP vs),i∈rY vs:=by
 intro i hi
 match vs,hi with
 | [],hi=>simp[tP,dI]at hi
 | [v],hi=>simpa[tP,dI,rY]using hi
 |v::v'::vs,hi=>exact hi
theorem ahA(h:Rel M B d up s ρ G a w)(hn:∀n,o.dst=some n->n<a.tmps.size){c:Call}{g:Nat}(ho:o.op=.call c)(hc:c.callee=.value (.func g))(hg:jK P g)
  {sg:nU}(hsg:cx.sg g=some sg)(hC:Fi P sg g (S g))(hk:jm cx df fP d o oi ⟨s.only R,[],ct,[]⟩=some k')(hd:k'.bT S ρ)(hM:∀i,ct.i<=i->i<k'.ct.i->¬M i):
  b_ P (Mn M ct.i k'.ct.i) B d up ρ a w s o k'.w Q:=by
 have hw:=dL.start h R ct
 simp only[jm,ho,hc,hsg,Option.bind_some]at hk
 unfold Q9 at hk
 simp only[cU]at hk
 obtain⟨k1,yF,⟨k2,xs,bs⟩,fI,hk⟩:=hk
 cases KA:vL (bs.map (·.1))with
 |false=>simp[KA]at hk
 |true=>
  simp only[KA,cond_true,bP]at hk
  have ahB:=Kv KA
  have KB:∀G1,iR G G1->dt G1 w ρ (c.args.toList.map λx=>cB d (Wk.get ⟨s.only R,[],ct,[]⟩) x) (c.args.toList.map a.eval):=by
   intro G1 hl
   generalize c.args.toList=l
   induction l with
   |nil=>trivial
   |cons x l ih=>exact⟨(hw.ji x).1.bw (hl.bw w) λ_ _ hf=>hf,ih⟩
  obtain⟨pl,tZ⟩:∃pl,pl=pV sg:=⟨_,rfl⟩
  obtain⟨G1,w1,l1,i1,tb,hD1⟩:∃G1,dL M B d up ρ G a w k1 G1∧iR G G1∧k1.ct=ct∧(pl=true->Bd k1 (vK (c.args.toList.map λx=>cB d (Wk.get ⟨s.only R,[],ct,[]⟩) x)))∧k1.is=[]:=by
   cases hp:pV sg with
   |false=>
    rw[hp]at yF
    simp only[cond_false,bP]at yF
    subst yF
    exact⟨G,hw,.refl _,rfl,(λhe=>by rw[tZ,hp]at he;cases he),rfl⟩
   |true=>
    rw[hp]at yF
    simp only[cond_true]at yF
    obtain⟨G1,q1,q2⟩:=hw.oh yF
    obtain⟨_,_,_,_,q3,q4,q5,_⟩:=hw.eY yF
    exact⟨G1,q1,q2,q3,λ_=>q5,q4⟩
  have Sv:bT S ρ k'.ct.a k'.is:=hd
  rw[<-hk]at Sv
  simp only at Sv
  obtain⟨n0,outs,e1,hS,bR,oR⟩:=Sv
  obtain⟨f1,f2⟩:=Sx sg.rs k2.ct
  have hma:k2.ct.a<=(n_ k2.ct sg.rs).1.a:=by
   have key:∀(ks:List Ck) (ct:Ct),ct.a<=(gg ct ks).1.a:=by
    intro ks
    induction ks with
    |nil=>intro ct;exact Nat.le_refl _
    |cons k ks ih=>
     intro ct
     cases k with
     |s=>have:=ih ⟨ct.a+1,ct.i⟩;simp only[gg]at this⊢;omega
     |p=>have:=ih ⟨ct.a+1,ct.i⟩;simp only[gg]at this⊢;omega
     |o dp=>have:=ih ⟨ct.a+1,nV ct.i+1⟩;simp only[gg]at this⊢;omega
   rw[f1];exact key _ _
  have hba:=SA bs (n_ k2.ct sg.rs).1.a
  have A':n0=k2.ct.a:=by omega
  subst A'
  have ahC:k2.bT S ρ:=oR
  obtain⟨_,i2,G2,w2,l2,hA⟩:=Kt (pl:=pl) w1 (KB G1 l1) tb fI ahC
  have hA:=hA G2 (.refl _)
  have hlG:iR G G2:=l1.trans l2
  have uo:=Kw (ps:=sg.ps) (i:=0) ahB
  have hx:=Ky (i:=0) hA
  have sy:∀j bx,(j,bx)∈iv 0 sg.ps bs->um G2.β (iv 0 sg.ps bs) j=some (G2.β bx)∧td pl G2 (iv 0 sg.ps bs) (G2.β bx)=some (.x j):=by
   intro j bx hj
   refine⟨ahu uo.1 hj,?_⟩
   simp only[td,qx (hx j bx hj),if_true,ahv uo.2 hj]
  obtain⟨jH,_⟩:=Kx (w:=w) (λb hb=>ahw (pr:=iv 0 sg.ps bs) hb) hA sy
  have cn:xt sg (td pl G2 (iv 0 sg.ps bs)) (um G2.β (iv 0 sg.ps bs)) w:=by
   constructor
   ·intro b l hb
    cases ol:G2.q b with
    |none=>simp[td,ol]at hb
    |some l0=>
     refine⟨(w2.rel.iP b l0 (JG ol)).2,?_⟩
     cases l0 with
     |f=>simp[td,ol]at hb;exact .inl hb.symm
     |o i p=>cases pl<;>simp[td,ol]at hb;exact .inl hb.symm
     |x bx=>
      simp only[td,ol]at hb
      split at hb
      ·rename_i Ag
       split at hb
       ·rename_i j hj
        cases hb
        exact .inr ⟨j,rfl,by rw[Ag];exact(sy j bx (SD hj)).1⟩
       ·cases hb;exact .inl rfl
      ·cases hb;exact .inl rfl
   ·intro i b hb
    obtain⟨bx,h1,rfl⟩:=BG hb
    exact⟨by have:=BE h1;omega,(sy i bx h1).2⟩
   ·intro x hx
    obtain⟨h1,h2,h3⟩:=w2.rel.base.afx x hx
    exact⟨h1,by simp[td,show G2.q x.1=none from AY h2],h3⟩
  have BH:=hC w _ _ (c.args.toList.map a.eval) _ outs hS cn jH
  have jc:(execOp a.eval o).run P w=.ok (.enter g (c.args.toList.map a.eval).toArray) w:=by
   unfold execOp
   rw[ho]
   show Sem.run P (do let d <-resolve a.eval c o.type;invoke d.target d.args) w=_
   simp only[resolve,hc,Act.eval,Deferred.ofValue,pure_bind,invoke]
   rw[SC hg]
   congr 2
   exact Array.ext' (by simp)
  simp only[b_,Oper.wp,jc,Oper.upon]
  refine BH.mono ?_
  rintro e w' ⟨v,G',is,o1,o2,rfl,ib⟩
  simp only
  let ks:=mP sg.rs
  obtain⟨rn,hrn⟩:∃rn,rn=lc k2.ct.i ks is:=⟨_,rfl⟩
  let GG:=G2.call G' w.heap.size rn
  have hold:∀b,b<w.heap.size->GG.ω b=G2.ω b:=λb hb=>by show(if b<w.heap.size then _ else _)=_;rw[if_pos hb]
  have BI:∀b,¬b<w.heap.size->GG.ω b=match G'.ω b with|some (.o id p)=>(nw rn id).map λj=>.o j p|_=>none:=λb hb=>by show(if b<w.heap.size then _ else _)=_;rw[if_neg hb]
  have ahD:∀b,G2.q b=none->td pl G2 (iv 0 sg.ps bs) b=none:=λb hb=>by simp[td,hb]
  have qk:∀j bx,(j,bx)∈iv 0 sg.ps bs->G'.ω (G2.β bx)=some (.x j):=by
   intro j bx hj
   have key:∀{ps:List PS} {i0:Nat} {ts:List T} {yE:List (Nat×Bool×Nat)},iQ G' w' (um G2.β (iv 0 sg.ps bs)) i0 ps ts->(j,bx)∈iv i0 ps yE->G'.ω (G2.β bx)=some (.x j):=by
    intro ps
    induction ps with
    |nil=>intro i0 ts yE _ hm;simp[iv]at hm
    |cons p ps ih=>
     intro i0 ts yE hB hm
     cases p with
     |v ag n=>exact ih (i0:=i0+1) hB hm
     |x n=>
      obtain⟨b',arr,elem,t1,t2,km,ahE,hh',_,_,_,hB⟩:=hB
      cases yE with
      |nil=>simp[iv]at hm
      |cons b0 bs0=>
       simp only[iv,List.mem_cons,Prod.mk.injEq]at hm
       rcases hm with⟨rfl,_⟩|hm
       ·rw[(sy j bx hj).1]at km;cases km;exact ahE
       ·exact ih hB hm
   exact key ib.box hj
  have KC:∀b,b<w.heap.size->∀i p,G'.ω b≠some (.o i p):=by
   intro b hb i p hi
   cases oY:td pl G2 (iv 0 sg.ps bs) b with
   |none=>have:=(ib.free b hb oY).1;rw[hi]at this;cases this
   |some l=>
    rcases(cn.iP b l oY).2 with rfl|⟨j,rfl,hj⟩
    ·have:=(ib.DR b oY).1;rw[hi]at this;cases this
    ·obtain⟨bx,h1,rfl⟩:=BG hj
     rw[qk j bx h1]at hi;cases hi
  have eo:pl=true->∀b,G'.q b=none->GG.q b=none:=by
   intro hp b hb
   replace hb:=ib.qq (by rw[<-tZ];exact hp) b hb
   by_cases bC:b<w.heap.size
   ·rw[Gh.v_ (hold b bC)]
    cases oY:td pl G2 (iv 0 sg.ps bs) b with
    |none=>
     cases ol:G2.q b with
     |none=>rfl
     |some l=>
      exfalso
      cases l with
      |f=>simp[td,ol]at oY
      |o i p=>simp[td,ol,hp]at oY
      |x bx=>
       simp only[td,ol]at oY
       split at oY
       ·split at oY<;>cases oY
       ·cases oY
    |some l=>
     exfalso
     rcases(cn.iP b l oY).2 with rfl|⟨j,rfl,hj⟩
     ·have:=(ib.DR b oY).1;rw[hb]at this;cases this
     ·obtain⟨bx,h1,rfl⟩:=BG hj
      rw[qk j bx h1]at hb;cases hb
   ·exact AY (by rw[BI b bC,hb])
  obtain⟨vs,pg,ahF⟩:=ahy (ρ:=ρ) ib.ret
  obtain⟨us,Sj,htp⟩:=Sz (ρ:=ρ) pg
  have Rl:=ci.len Sj
  have pi:(n_ k2.ct sg.rs).1.a=k2.ct.a+o1.length:=by rw[f1,Fm,Rl.2.1]
  have qe:o2.length=ul bs:=Kz hA ib.box
  have hm:(tO (n_ k2.ct sg.rs).1.a bs).1-k2.ct.a=o1.length+o2.length:=by omega
  have ahG:∀j t,o1[j]?=some t->ρ[k2.ct.a+j]?=some t:=by
   intro j t hj
   have bC:=(List.getElem?_eq_some_iff.1 hj).1
   rw[bR j (by omega),ib.outs,List.getD_eq_getElem?_getD,List.getElem?_append_left bC,hj]
   rfl
  have ahH:∀j t,o2[j]?=some t->ρ[(n_ k2.ct sg.rs).1.a+j]?=some t:=by
   intro j t hj
   have bC:=(List.getElem?_eq_some_iff.1 hj).1
   have:=bR (o1.length+j) (by omega)
   rw[pi,Nat.add_assoc,this,ib.outs,List.getD_eq_getElem?_getD,List.getElem?_append_right (by omega),show o1.length+j-o1.length=j by omega,hj]
   rfl
  obtain⟨r1,r2,r3,r4,r5,r6⟩:=BD (G2:=GG) (rn:=rn) (w':=w') (ρ:=ρ) (λj x hj=>by show(match nW rn j with|some (some id)=>G'.H id|some none=>_|none=>G2.H j)=_;rw[hj];cases x<;>rfl)
   (λj id hj c r hcr=>by
    have bC:¬c<w.heap.size:=λbC=>KC c bC _ _ hcr
    rw[BI c bC,hcr];simp only[hj,Option.map_some]) Sj (ct:=k2.ct) ahG
   (λk hk hkp=>eo (by
    rw[tZ]
    cases hh:pV sg with
    |true=>rfl
    |false=>have:=(SE hh).1 k hk;rw[hkp]at this;cases this)) (λj x hj=>by rw[hrn];exact Fk hj) (λj id hj=>by rw[hrn];exact BC ib.nodup hj)
  have vg:∀r u,(r,u)∈(tO (n_ k2.ct sg.rs).1.a bs).2->∃j bx,(j,bx)∈iv 0 sg.ps bs∧r=.x bx∧gy GG w' ρ bx u∧dI u=[]:=by
   cases hp:pV sg with
   |false=>
    have RG:bs=[]:=SF (SE hp).2 hA
    subst RG
    intro r u qK
    simp[tO]at qK
   |true=>
    refine(Ku (eo (by rw[tZ,hp])) hA ib.box ahH λj bx hj=>?_).2
    have bC:=(w2.rel.iP _ _ (hx j bx hj)).2
    exact⟨(sy j bx hj).1,by show GG.ω (G2.β bx)=_;rw[hold _ bC];exact hx j bx hj⟩
  have kY:k2.ct.i=ct.i:=by rw[i2,i1]
  have hki:k'.ct.i=(gg k2.ct ks).1.i:=by rw[<-hk];show(n_ k2.ct sg.rs).1.i=_;rw[f1]
  have hW:k'.w=(fW d o (tP (n_ k2.ct sg.rs).2.1)++((gg k2.ct ks).2.2++(tO (n_ k2.ct sg.rs).1.a bs).2))++k2.w:=by
   rw[<-hk]
   show(_++((n_ k2.ct sg.rs).2.2++_))++_=_
   rw[f2];rfl
  have hN:∀i,ct.i<=i->i<k'.ct.i->¬M i:=hM
  have hK:dM (oQ (fW d o (tP (n_ k2.ct sg.rs).2.1)++((gg k2.ct ks).2.2++(tO (n_ k2.ct sg.rs).1.a bs).2))) (λi=>ct.i<=i∧i<k'.ct.i) G2 w GG w':=by
   refine⟨ib.size,λb hb h0=>⟨by rw[Gh.v_ (hold b hb)];exact h0,(ib.free b hb (ahD b h0)).2⟩,λb hb h0=>by rw[hold b hb];exact h0,λb l hb hl=>?_,λi hi=>⟨rfl,?_⟩⟩
   ·have bC:=(w2.rel.iP b l hb).2
    refine⟨by rw[hold b bC];exact hb,?_⟩
    cases oY:td pl G2 (iv 0 sg.ps bs) b with
    |none=>exact(ib.free b bC oY).2
    |some l'=>
     rcases(cn.iP b l' oY).2 with rfl|⟨j,rfl,hj⟩
     ·exact(ib.DR b oY).2
     ·exfalso
      obtain⟨bx,h1,rfl⟩:=BG hj
      rw[hx j bx h1]at hb
      cases hb
      refine hl ?_
      show St.look _ (bN.x bx)≠none
      rw[mE,mE]
      intro e
      have e1:=(Option.or_eq_none_iff.1 (Option.or_eq_none_iff.1 e).2).2
      exact SG (BF h1) e1
   ·intro p _
    refine congrFun (?_:(match nW rn i with|some (some id)=>G'.H id|some none=>λ_=>.slice none 0 0|none=>G2.H i)=G2.H i) p
    cases sA:nW rn i with
    |none=>rfl
    |some x=>
     have jV:=yM sA
     rw[hrn]at jV
     exact absurd ⟨by rw[<-kY];exact(ww jV).1,by rw[hki];exact r5 i x jV⟩ hi
  rw[hW]
  refine⟨GG,wh h w2 (λr=>mE _ _ r) hK (λi hi=>hN i hi.1 hi.2) (λi hi=>.inl hi) (λn oU=>wi oU) ib.so ?_,A4 _ _ _⟩
  have b8:∀r u,(r,u)∈(gg k2.ct ks).2.2->∃j,r=.o j∧ct.i<=j∧j<k'.ct.i∧cS GG w' ρ j u∧dI u=[]:=by
   intro r u qK
   obtain⟨j,g1,g2,g3,g4⟩:=r6 r u qK
   exact⟨j,g1,by rw[<-kY];exact g2,by rw[hki];exact g3,g4⟩
  have hmb:∀j bx,(j,bx)∈iv 0 sg.ps bs->M bx:=λj bx hj=>(w2.rel.iP _ _ (hx j bx hj)).1
  have qm:∀r u,St.look ((gg k2.ct ks).2.2++(tO (n_ k2.ct sg.rs).1.a bs).2) r=some u->(r,u)∈(gg k2.ct ks).2.2∨(r,u)∈(tO (n_ k2.ct sg.rs).1.a bs).2:=
   λr u hl=>List.mem_append.1 (Fj hl)
  refine⟨λe n u he hl=>?_,λb u hl=>?_,λi u hl=>?_,λr u hl i hi=>?_,λi hi=>?_,λb l hb=>?_⟩
  ·rcases lN hl with⟨n',iA,e1,rfl⟩|hl
   ·cases e1
    rw[iA,Rh (hn _ iA)]
    exact ahF GG w' k2.ct (htp GG w' k2.ct r1)
   ·rcases qm _ _ hl with hm|hm
    ·obtain⟨j,e1,_⟩:=b8 _ _ hm;cases e1
    ·obtain⟨j,bx,_,e1,_⟩:=vg _ _ hm;cases e1
  ·rcases lN hl with⟨n',iA,e1,rfl⟩|hl
   ·cases e1
   ·rcases qm _ _ hl with hm|hm
    ·obtain⟨j,e1,_⟩:=b8 _ _ hm;cases e1
    ·obtain⟨j,bx,_,e1,e2,_⟩:=vg _ _ hm;cases e1;exact e2
  ·rcases lN hl with⟨n',iA,e1,rfl⟩|hl
   ·cases e1
   ·rcases qm _ _ hl with hm|hm
    ·obtain⟨j,e1,_,_,e2,_⟩:=b8 _ _ hm;cases e1;exact e2
    ·obtain⟨j,bx,_,e1,_⟩:=vg _ _ hm;cases e1
  ·rcases lN hl with⟨n',iA,e1,rfl⟩|hl
   ·have:=ahz _ i hi
    rw[SH]at this
    have:=r4 i this
    exact .inr ⟨by omega,by rw[hki];exact this.2⟩
   ·rcases qm _ _ hl with hm|hm
    ·obtain⟨j,_,_,_,_,e2⟩:=b8 _ _ hm;rw[e2]at hi;cases hi
    ·obtain⟨j,bx,_,_,_,e2⟩:=vg _ _ hm;rw[e2]at hi;cases hi
  ·have:∀r:bN,(r=.x i∨r=.o i)->St.look (fW d o (tP (n_ k2.ct sg.rs).2.1)++((gg k2.ct ks).2.2++(tO (n_ k2.ct sg.rs).1.a bs).2)) r≠none->Mn M ct.i k'.ct.i i:=by
    intro r hr hl
    obtain⟨u,hu⟩:=Option.ne_none_iff_exists'.1 hl
    rcases lN hu with⟨n',iA,e1,rfl⟩|hl
    ·rcases hr with rfl|rfl<;>cases e1
    ·rcases qm _ _ hl with hm|hm
     ·obtain⟨j,e1,g1,g2,_⟩:=b8 _ _ hm
      rcases hr with rfl|rfl
      ·cases e1
      ·cases e1;exact .inr ⟨g1,g2⟩
     ·obtain⟨j,bx,hj,e1,_⟩:=vg _ _ hm
      rcases hr with rfl|rfl
      ·cases e1;exact .inl (hmb j _ hj)
      ·cases e1
   rcases hi with hi|hi
   ·exact this _ (.inl rfl) hi
   ·exact this _ (.inr rfl) hi
  ·by_cases bC:b<w.heap.size
   ·rw[hold b bC]at hb
    have:=w2.rel.iP b l hb
    exact⟨.inl this.1,by have:=ib.size;omega⟩
   ·rw[BI b bC]at hb
    cases ol:G'.ω b with
    |none=>rw[ol]at hb;cases hb
    |some l'=>
     rw[ol]at hb
     cases l' with
     |f=>cases hb
     |x i=>cases hb
     |o i p=>
      simp only[Option.map_eq_some_iff]at hb
      obtain⟨j,hj,rfl⟩:=hb
      have jV:=yL hj
      rw[hrn]at jV
      exact⟨.inr ⟨by rw[<-kY];exact(ww jV).1,by rw[hki];exact r5 j _ jV⟩,ib.iP b _ ol⟩
structure Env (P:Program) (cx:Cx) (S:Nat->aA):Prop where
 ez:eZ P cx
 fns:∀g sg,cx.sg g=some sg->jK P g∧Fi P sg g (S g)
 dW:∀g fn,cx.fn g=some fn->P.funcs[g]?=some fn∧jK P g
theorem b_.quiet{W:St}(h:b_ P M B d up ρ a w s o W Q∧k'.ct.i=ct.i):b_ P (Mn M ct.i k'.ct.i) B d up ρ a w s o W Q:=h.1.mono λi hi=>.inl hi
theorem ahI(E:Env P cx S)(h:Rel M B d up s ρ G a w)(hn:∀n,o.dst=some n->n<a.tmps.size)
  (hk:jm cx df fP d o oi ⟨s.only R,[],ct,[]⟩=some k')(hd:k'.bT S ρ)(hM:∀i,ct.i<=i->i<k'.ct.i->¬M i):b_ P (Mn M ct.i k'.ct.i) B d up ρ a w s o k'.w Q:=by
 have hw:=dL.start h R ct
 cases fg:o.op with
 |move x=>exact b_.quiet (Ro h hn (.inl fg) hk)
 |assign x=>exact b_.quiet (Ro h hn (.inr fg) hk)
 |alloc t=>exact agc E.ez h hn fg hk hM
 |box t x=>exact agd E.ez h hn fg hk hM
 |build t ps=>exact b_.quiet (af9 E.ez h hn fg hk)
 |buildSlice t n ps=>exact aha E.ez h hn fg hk hd hM
 |makeSlice t x y=>exact agz E.ez h hn fg hk hd hM
 |load t x=>
  simp only[jm,fg,cU,bP]at hk
  obtain⟨⟨k1,v⟩,hv,hk⟩:=hk
  split at hv
  ·rename_i r hT
   cases tb:cx.fz df fP oi with
   |false=>rw[tb]at hT;cases hT
   |true=>rw[tb]at hT;cases hv;exact aho E.ez h hn fg hT hk hd hM
  ·exact b_.quiet (af1 E.ez h hn fg ⟨k1,v,hv,hk⟩ hd)
 |store t x y=>
  simp only[jm,fg,cU,bP]at hk
  obtain⟨k1,cn,hk⟩:=hk
  split at cn
  ·rename_i k2 hD
   cases cn
   cases tb:cx.fz df fP oi with
   |true=>rw[tb]at hD;cases hD
   |false=>rw[tb]at hD;exact b_.quiet (ahf E.ez h hn fg ⟨k1,hD,hk⟩ hd)
  ·exact b_.quiet (agp E.ez h hn fg ⟨k1,cn,hk⟩ hd)
 |nilCheck x=>exact b_.quiet (afW h hn fg hk)
 |binOp op t x y yt=>
  have SI:=hk
  simp only[jm,fg]at hk
  split at hk
  ·rename_i c e yv E0;exact b_.quiet (afK E.ez h hn fg yv E0 SI hd)
  ·rename_i es bs yv E0;exact b_.quiet (ahd E.ez h hn fg yv E0 SI hd)
  ·cases hk
 |unOp op t x=>exact b_.quiet (afN h hn fg hk hd)
 |slice t x lo hi mx=>
  cases hT:(bif mx.isSome then none else AO cx ⟨s.only R,[],ct,[]⟩ t (cB d (Wk.get ⟨s.only R,[],ct,[]⟩) x) (lo.map (cB d (Wk.get ⟨s.only R,[],ct,[]⟩))) (hi.map (cB d (Wk.get ⟨s.only R,[],ct,[]⟩))))with
  |none=>exact b_.quiet (agt E.ez h hn fg hT hk hd)
  |some kv=>
   refine ahk E.ez h hn fg hT ?_ hd hM
   simp only[jm,fg]at hk
   rw[hT]at hk
   exact Option.some.inj hk
 |fieldAddr t x f=>exact b_.quiet (afY E.ez h hn fg hk)
 |indexAddr t x y=>exact b_.quiet (af7 E.ez h hn fg hk hd)
 |index t x y=>
  simp only[jm,fg,cU]at hk
  obtain⟨ti,gn,⟨k1,y1⟩,h1,⟨k2,y2⟩,h2,hk⟩:=hk
  cases hc:Nat.beq ti.kd 2 with
  |false=>simp[hc]at hk
  |true=>
   simp only[hc,cond_true,bP]at hk
   have dh:cm d o (k2.em .idx [y1,y2]).1 (.v false [.p (k2.em .idx [y1,y2]).2])=k':=hk
   subst dh
   exact b_.quiet (afV h hn fg E.ez gn (ew hc) hw h1 h2 hd)
 |extract x i=>exact b_.quiet (afX h hn fg hk)
 |makeFunc f first yf=>exact b_.quiet (age h hn fg hk)
 |call c=>
  have SI:=hk
  simp only[jm,fg]at hk
  split at hk
  ·rename_i x hc fI
   simp only[cU]at hk
   obtain⟨ti,gn,⟨k1,y⟩,h1,hk⟩:=hk
   cases h3:Nat.beq ti.kd 3 with
   |true=>
    simp only[h3,cond_true,bP]at hk
    have dh:cm d o (k1.em .len [y]).1 (.v false [.p (k1.em .len [y]).2])=k':=hk
    subst dh
    exact b_.quiet (afT h hn E.ez fg hc fI (Option.bind_eq_some_iff.2 gn) (ew h3) hw h1 hd)
   |false=>
    simp only[h3,cond_false]at hk
    cases h2:Nat.beq ti.kd 2 with
    |false=>simp[h2]at hk
    |true=>
     simp only[h2,cond_true,bP]at hk
     have dh:cm d o (k1.em .lens [y]).1 (.v false [.p (k1.em .lens [y]).2])=k':=hk
     subst dh
     exact b_.quiet (afU h hn E.ez fg hc fI (Option.bind_eq_some_iff.2 gn) (ew h2) hw h1 hd)
  ·rename_i x y hc fI
   simp only[cU,bP]at hk
   obtain⟨⟨k1,y1⟩,h1,⟨k2,y2⟩,h2,hk⟩:=hk
   have dh:cm d o (k2.em .mx [y1,y2]).1 (.v false [.p (k2.em .mx [y1,y2]).2])=k':=hk
   subst dh
   exact b_.quiet (Rt h hn fg fI (.inl ⟨hc,rfl⟩) hw h1 h2 hd)
  ·rename_i x y hc fI
   simp only[cU,bP]at hk
   obtain⟨⟨k1,y1⟩,h1,⟨k2,y2⟩,h2,hk⟩:=hk
   have dh:cm d o (k2.em .mn [y1,y2]).1 (.v false [.p (k2.em .mn [y1,y2]).2])=k':=hk
   subst dh
   exact b_.quiet (Rt h hn fg fI (.inr ⟨hc,rfl⟩) hw h1 h2 hd)
  ·rename_i x y hc fI
   exact ag1 E.ez h hn fg hc fI SI hd hM
  ·rename_i x0 xs0 g hc
   simp only[cU]at hk
   obtain⟨sg,hsg,_⟩:=hk
   obtain⟨q1,q2⟩:=E.fns g sg hsg
   exact ahA h hn fg hc q1 hsg q2 SI hd hM
  ·cases hk
 |convert t1 t2 x=>exact b_.quiet (afR E.ez h hn fg hk hd)
 |_=>simp[jm,fg]at hk
end
theorem Lf.iB{ρ e:List T}{x:Lf}{t:T}(h:x.gh ρ=some t):x.gh (ρ++e)=some t:=by
 cases x with
 |k v=>exact h
 |a n=>simp only[Lf.gh]at h⊢;rw[List.getElem?_append_left (List.getElem?_eq_some_iff.1 h).1];exact h
 |e=>exact h
theorem Fo{ρ e:List T}{x:Lf}{i:Nat}(h:ma ρ x=some i):ma (ρ++e) x=some i:=by
 unfold ma at h⊢
 cases hx:x.gh ρ with
 |none=>simp[hx]at h
 |some t=>rw[Lf.iB hx];rw[hx]at h;exact h
theorem SJ{ρ e:List T}:∀{q:nh} {p:List (Nat×Nat)},hY ρ q=some p->hY (ρ++e) q=some p
 | [],p,h=>h
 |(x,w,j)::q,p,h=>by
  simp only[hY,cU,bP]at h⊢
  obtain⟨i,h1,p',h2,rfl⟩:=h
  exact⟨i,Fo h1,p',SJ h2,rfl⟩
theorem SK{ρ e:List T}{id:Nat}{q:nh}{p:List (Nat×Nat)}(h:lH ρ id q=some p):lH (ρ++e) id q=some p:=by
 cases q with
 |nil=>exact h
 |cons x q=>
  simp only[lH]at h⊢
  split at h
  ·rename_i hi;rw[if_pos hi];exact SJ h
  ·cases h
section
variable {G:Gh} {w:World} {ρ e:List T}
theorem gD.ext{c:Ce}{v:Value}(h:gD G w ρ c v):gD G w (ρ++e) c v:=by
 cases c with
 |p x=>obtain⟨t,h1,h2⟩:=h;exact⟨t,Lf.iB h1,h2⟩
 |o id q=>obtain⟨p,h1,h2⟩:=h;exact⟨p,SK h1,h2⟩
 |n=>exact h
 |d=>exact h
theorem bu.ext:∀{cs:List Ce} {vs:List Value},bu G w ρ cs vs->bu G w (ρ++e) cs vs
 | [],[],_=>trivial
 |_::_,_::_,h=>⟨h.1.ext,bu.ext h.2⟩
 | [],_::_,h=>h.elim
 |_::_,[],h=>h.elim
theorem fH.ext{ag:Bool}{cs:List Ce}{c:Value}(h:fH G w ρ ag cs c):fH G w (ρ++e) ag cs c:=by
 cases ag with
 |true=>obtain⟨vs,h1,h2⟩:=h;exact⟨vs,h1,h2.ext⟩
 |false=>obtain⟨x,rfl,h2,h3⟩:=h;exact⟨x,rfl,h2.ext,h3⟩
theorem gR.ext:∀{cs:List (Bool×List Ce)} {vs:List Value},gR G w ρ cs vs->gR G w (ρ++e) cs vs
 | [],[],_=>trivial
 |_::_,_::_,h=>⟨h.1.ext,gR.ext h.2⟩
 | [],_::_,h=>h.elim
 |_::_,[],h=>h.elim
theorem cR.ext{v:SV}{c:Value}(h:cR G w ρ v c):cR G w (ρ++e) v c:=by
 cases v with
 |un=>trivial
 |v ag cs=>exact fH.ext h
 |pt b off=>exact h
 |ep id q ix wd off=>obtain⟨p,b,n,cap,i,h1,h2,h3,h4⟩:=h;exact⟨p,b,n,cap,i,SK h1,h2,Fo h3,h4⟩
 |fp s ix wd off=>obtain⟨xs,i,r,b,base,h1,h2,h3⟩:=h;exact⟨xs,i,r,b,base,Lf.iB h1,Fo h2,h3⟩
 |tp vs=>obtain⟨us,h1,h2⟩:=h;exact⟨us,h1,h2.ext⟩
 |cl f bs=>exact h
 |ob dp x=>exact h
 |fz pv x=>exact h
 |tk x m=>exact h
 |fl x=>exact h
 |fr x=>exact h
theorem gy.ext{b:Nat}{v:SV}(h:gy G w ρ b v):gy G w (ρ++e) b v:=by
 cases v with
 |v ag cs=>obtain⟨h1,arr,elem,h2,h3⟩:=h;exact⟨h1,arr,elem,h2,h3.ext⟩
 |_=>exact h
theorem cS.ext{b:Nat}{v:SV}(h:cS G w ρ b v):cS G w (ρ++e) b v:=by
 cases v with
 |ob dp x=>obtain⟨t,h1,h2⟩:=h;exact⟨t,Lf.iB h1,h2⟩
 |fz pv x=>
  obtain⟨t,h1,h2,h3⟩:=h
  refine⟨t,Lf.iB h1,h2,?_⟩
  cases pv with
  |z=>trivial
  |w tk x0 lo=>obtain⟨g0,F,n,zs,g1,g2,g3⟩:=h3;exact⟨g0,F,n,zs,Lf.iB g1,Fo g2,g3⟩
 |tk x m=>obtain⟨h0,F,u,h1,h2,h3⟩:=h;exact⟨h0,F,u,Lf.iB h1,Lf.iB h2,h3⟩
 |fl x=>obtain⟨h0,t,h1,h2⟩:=h;exact⟨h0,t,Lf.iB h1,h2⟩
 |fr x=>obtain⟨h0,t,h1,h2⟩:=h;exact⟨h0,t,Lf.iB h1,h2⟩
 |_=>exact h
theorem Rel.ext{M:Nat->Prop}{B:ft}{d:Nat}{up:Nat->Nat->Value}{s:St}{a:Act}(h:Rel M B d up s ρ G a w):Rel M B d up s (ρ++e) G a w:=
 ⟨λx n hx=>(h.tm x n hx).ext,λb=>(h.bx b).ext,λi=>(h.ob i).ext,h.gA,h.key,h.iP,h.dn,h.base,h.bt⟩
end
theorem Lf.BJ{ρ e:List T}{x:Lf}(h:x.jF ρ.length=true):x.ev (ρ++e)=x.ev ρ:=by
 cases x with
 |k v=>rfl
 |a n=>
  have bC:n<ρ.length:=Nat.lt_of_succ_le (by simpa[Lf.jF,Nat.blt]using h)
  simp only[Lf.ev,List.getD_eq_getElem?_getD]
  rw[List.getElem?_append_left bC]
 |e=>rfl
theorem SL{ρ e:List T}{xs:List Lf}(h:xs.all (Lf.jF ρ.length)=true):xs.map (Lf.ev (ρ++e))=xs.map (Lf.ev ρ):=
 List.map_congr_left λx hx=>Lf.BJ (List.all_eq_true.1 h x hx)
theorem KD(ts:List T):∀(m i:Nat),(rS ts i m).length=m
 |0,_=>rfl
 |m+1,i=>by simp[rS,KD ts m]
theorem SM(ts:List T):∀(m i j:Nat),j<m->(rS ts i m)[j]?=some (ts.getD (i+j) T.bQ)
 |0,_,j,h=>by omega
 |m+1,i,0,_=>by simp[rS]
 |m+1,i,j+1,h=>by
  simp only[rS,List.getElem?_cons_succ]
  rw[SM ts m (i+1) j (by omega)]
  congr 2;omega
section
variable {S:Nat->aA} {R:Nat} {K:List aA} {out:List T}
theorem Fp:∀{is:List Ew} {p:PL} {ρ:List T},rV (ρ.length+qF is) is=true->(wrap is p).den S R K ρ=some out->
  ∃ts,ts.length=qF is∧p.den S R K (ρ++ts)=some out∧∀e,bT S (ρ++ts++e) (ρ.length+qF is) is
 | [],p,ρ,_,h=>⟨[],rfl,by rw[List.append_nil];exact h,λ_=>trivial⟩
 | .pr q xs::is,p,ρ,cV,h=>by
  simp only[rV,qF,bL]at cV
  have e0:ρ.length+(qF is+1)-1=ρ.length+qF is:=by omega
  rw[e0]at cV
  obtain⟨ts,h1,h2,h3⟩:=Fp (is:=is) cV.2 (show(wrap is (.ins (.pr q xs) p)).den S R K ρ=some out from h)
  simp only[PL.den,cU]at h2
  obtain⟨t,h4,h5⟩:=h2
  have hl:(ρ++ts).length=ρ.length+qF is:=by simp[h1]
  refine⟨ts++[t],by simp[qF,h1],by simpa using h5,λe=>⟨ρ.length+qF is,t,rfl,?_,?_,?_⟩⟩
  ·have:=SL (ρ:=ρ++ts) (e:=t::e) (xs:=xs) (by rw[hl];exact cV.1.2)
   simp only[List.append_assoc,List.cons_append,List.nil_append]at this⊢
   rw[this]
   simpa using h4
  ·rw[<-hl];simp
  ·have:=h3 (t::e)
   simpa using this
 | .cl g xs m::is,p,ρ,cV,h=>by
  simp only[rV,qF,bL]at cV
  have e0:ρ.length+(qF is+m)-m=ρ.length+qF is:=by omega
  rw[e0]at cV
  obtain⟨ts,h1,h2,h3⟩:=Fp (is:=is) cV.2 (show(wrap is (.ins (.cl g xs m) p)).den S R K ρ=some out from h)
  simp only[PL.den,cU]at h2
  obtain⟨us,h4,h5⟩:=h2
  have hl:(ρ++ts).length=ρ.length+qF is:=by simp[h1]
  refine⟨ts++rS us 0 m,by simp[qF,h1,KD],by simpa using h5,λe=>⟨ρ.length+qF is,us,by simp only[qF];omega,?_,λi hi=>?_,?_⟩⟩
  ·have:=SL (ρ:=ρ++ts) (e:=rS us 0 m++e) (xs:=xs) (by rw[hl];exact cV.1.2)
   simp only[List.append_assoc]at this⊢
   rw[this]
   simpa using h4
  ·rw[<-hl,List.append_assoc,List.append_assoc,<-List.append_assoc ρ ts,List.getElem?_append_right (by omega),show(ρ++ts).length+i-(ρ++ts).length=i by omega,
    List.getElem?_append_left (by rw[KD];exact hi),SM _ _ _ _ hi]
   simp
  ·have:=h3 (rS us 0 m++e)
   simpa using this
end
def dE(fs:kl)(ρ:List T):Prop:=∀n b,fact fs n=some b->ρ[n]?=some (.c (.bool b))
theorem dE.ext{fs:kl}{ρ e:List T}(h:dE fs ρ):dE fs (ρ++e):=λn b hn=>by
 have:=h n b hn
 rw[List.getElem?_append_left (List.getElem?_eq_some_iff.1 this).1];exact this
theorem dE.cons{fs:kl}{ρ:List T}{n:Nat}{b:Bool}(h:dE fs ρ)(hn:ρ[n]?=some (.c (.bool b))):dE ((n,b)::fs) ρ:=by
 intro m c hm
 simp only[fact]at hm
 cases hb:Nat.beq n m with
 |true=>simp[hb]at hm;subst hm;rw[<-ew hb];exact hn
 |false=>simp[hb]at hm;exact h m c hm
section
variable {G:Gh} {w:World} {ρ:List T} {fs:kl}
theorem Fq{sv:SV}{c:Value}{b:Bool}(h:qU fs sv=.is b)(hr:cR G w ρ sv c)(hf:dE fs ρ):c=.bool b:=by
 unfold qU at h
 split at h
 ·cases h
 ·split at h
  ·rename_i b' hb
   cases h
   unfold Jz at hb
   split at hb
   ·cases hb
    obtain⟨e,he,qJ,_⟩:=hr
    cases he
    obtain⟨t,h1,h2⟩:=qJ
    simp only[Lf.gh,kV,cond_true,bP]at h1
    subst h1
    exact h2.scalar.1
   ·cases hb
  ·rename_i n hb
   unfold Jz at hb
   split at hb
   ·cases hb
    split at h
    ·rename_i b' SN
     cases h
     obtain⟨e,he,qJ,_⟩:=hr
     cases he
     obtain⟨t,h1,h2⟩:=qJ
     have:=hf n b SN
     simp only[Lf.gh]at h1
     rw[this]at h1
     cases h1
     exact h2.scalar.1
    ·cases h
   ·cases hb
  ·cases h
theorem ahJ{sv:SV}{c:Value}(h:qU fs sv=.nil)(hr:cR G w ρ sv c):∃us,c=.tuple us:=by
 unfold qU at h
 split at h
 ·obtain⟨us,h1,_⟩:=hr;exact⟨_,h1⟩
 ·split at h
  ·cases h
  ·split at h<;>cases h
  ·cases h
end
section
variable {M:Nat->Prop} {B:ft} {d:Nat} {up:Nat->Nat->Value} {ρ:List T} {G:Gh} {a:Act} {w:World} {S:Nat->aA} {P:Program}
variable {cx:Cx} {df fP oi:Nat} {s:St} {R:Nat} {ct:Ct} {k':Wk} {o:Oper} {Q:Exit->Act->World->Prop} {ops:Array Oper} {nt:Nat} {fs:kl}
def gw(d:Nat)(ops:Array Oper)(o:Oper)(fs:kl)(s:St):Option Bool:=
 match o.guard with
 |none=>some true
 |some (j,want)=>match(ops[j]?).bind (·.dst)with
  |none=>none
  |some g=>match qU fs (s.get (.t d g))with
   | .nil=>some false
   | .is b=>some (b==want)
   |_=>none
theorem KF{s':St}(h:∀r∈z_ d ops o,s'.get r=s.get r):gw d ops o fs s'=gw d ops o fs s:=by
 unfold gw z_ at*
 cases hg:o.guard with
 |none=>rfl
 |some jw=>
  obtain⟨j,want⟩:=jw
  simp only[hg]at h
  cases hb:(ops[j]?).bind (·.dst)with
  |none=>simp only[hb]
  |some g=>
   simp only[hb]at h⊢
   simp only[h (.t d g) (by simp)]
theorem Ft{x:Bool}(h:gw d ops o fs s=some x)(hr:Rel M B d up s ρ G a w)(hf:dE fs ρ):Region.wanted o (yielded ops a.tmps)=x:=by
 unfold gw at h
 unfold Region.wanted
 cases hg:o.guard with
 |none=>simp[hg]at h;simp[h]
 |some jw=>
  obtain⟨j,want⟩:=jw
  simp only[hg]at h
  cases hb:(ops[j]?).bind (·.dst)with
  |none=>simp[hb]at h
  |some g=>
   simp only[hb]at h
   have ht:=hr.tm d g (Nat.le_refl _)
   simp only[oP,if_true]at ht
   cases hd:qU fs (s.get (.t d g))with
   |nil=>
    simp only[hd,bP]at h
    subst h
    obtain⟨us,hu⟩:=ahJ hd ht
    simp only[yielded,hb,Option.bind_some]
    rw[Array.getD_eq_getD_getElem?]at hu
    cases hx:a.tmps[g]? with
    |none=>simp
    |some v=>rw[hx]at hu;simp only[Option.getD_some]at hu;subst hu;simp
   |is b=>
    simp only[hd,bP]at h
    have hu:=Fq hd ht hf
    simp only[yielded,hb,Option.bind_some]
    rw[Array.getD_eq_getD_getElem?]at hu
    cases hx:a.tmps[g]? with
    |none=>rw[hx]at hu;simp[undef]at hu
    |some v=>
     rw[hx]at hu;simp only[Option.getD_some]at hu;subst hu
     rw[<-h]
     cases b<;>cases want<;>rfl
   |ask n=>simp[hd]at h
   |no=>simp[hd]at h
theorem Fu{sv:SV}{n:Nat}{b:Bool}(h:qU fs sv=.ask n):qU ((n,b)::fs) sv=.is b:=by
 unfold qU at h⊢
 split at h
 ·cases h
 ·split at h
  ·cases h
  ·rename_i m hm
   split at h
   ·cases h
   ·cases h
    simp only[fact]
    simp
  ·cases h
def yO(P:Program)(ops:Array Oper)(Q:Exit->Act->World->Prop)(B:ft)(d:Nat)(up:Nat->Nat->Value)(nt:Nat)(ρ:List T)(i:Nat)(rd:List bN)(wr:St)(lo hi:Nat)(sI:St):Prop:=
 ∀(M:Nat->Prop) (s:St) (G:Gh) (a:Act) (w:World) (Kn:Act->World->Prop),(∀r∈rd,s.get r=sI.get r)->Rel M B d up s ρ G a w->a.tmps.size=nt->(∀j,lo<=j->j<hi->¬M j)->
  (∀G' a' w',Rel (Mn M lo hi) B d up (s.fS wr) ρ G' a' w'->a'.tmps.size=nt->Kn a' w')->wpOp P ops Q i Kn a w
theorem SO{s':St}:∀{R:List bN},(∀r∈R,s'.get r=s.get r)->s'.only R=s.only R
 | [],_=>rfl
 |r::R,h=>by simp only[St.only];rw[h r (by simp),SO λr hr=>h r (by simp[hr])]
theorem ahK{i:Nat}{R:List bN}(E:Env P cx S)(ho:ops[i]?=some o)(hn:∀n,o.dst=some n->n<nt)(hg:gw d ops o fs s=some true)(hf:dE fs ρ)
  (hk:jm cx df fP d o oi ⟨s.only R,[],ct,[]⟩=some k')(hd:k'.bT S ρ):yO P ops Q B d up nt ρ i (z_ d ops o++R) k'.w ct.i k'.ct.i s:=by
 intro M s' G a w Kn nZ hr pM hM hK
 have SP:=KF (fs:=fs) (o:=o) (ops:=ops) (d:=d) (s:=s) (s':=s') λr hr=>nZ r (List.mem_append_left _ hr)
 have hw:=Ft (SP.trans hg) hr hf
 have mf:jm cx df fP d o oi ⟨s'.only R,[],ct,[]⟩=some k':=by rw[SO λr hr=>nZ r (List.mem_append_right _ hr)];exact hk
 have:=ahI (Q:=Q) E hr (λn h=>by rw[pM];exact hn n h) mf hd hM
 unfold wpOp
 simp only[ho,hw,if_true]
 exact .inl (Oper.wp_mono (λa' w' ⟨G',h1,h2⟩=>hK G' a' w' h1 (h2.trans pM)) this)
theorem SQ(s:St)(r:bN)(v:SV):s.fS [(r,v)]=s.set r v:=rfl
theorem ahL{i lo:Nat}(ho:ops[i]?=some o)(hn:∀n,o.dst=some n->n<nt)(hg:gw d ops o fs s=some false)(hf:dE fs ρ):
  yO P ops Q B d up nt ρ i (z_ d ops o) (fW d o (.tp [])) lo lo s:=by
 intro M s' G a w Kn nZ hr pM hM hK
 have SP:=KF (fs:=fs) (o:=o) (ops:=ops) (d:=d) (s:=s) (s':=s') nZ
 have hw:=Ft (SP.trans hg) hr hf
 unfold wpOp
 simp only[ho,hw,cE,if_false]
 have Ah:∀i,M i->Mn M lo lo i:=λi h=>.inl h
 cases hd:o.dst with
 |none=>
  refine hK G _ w ?_ (by simpa[Act.put]using pM)
  simp only[fW,hd,Act.put]
  exact hr.mono Ah
 |some n=>
  refine hK G _ w ?_ (by rw[A4];exact pM)
  simp only[fW,hd,SQ]
  exact(hr.EW (x:=.tp []) (v:=undef) (by rw[pM];exact hn n hd) ⟨[],rfl,trivial⟩ (λi hi=>by simp[dI,rY]at hi)).mono Ah
theorem ahM{x:Operand}{t:Tmp}(h:x∈o.op.operands)(hx:x=.tmp t):t∈vN o:=by
 subst hx
 exact List.mem_filterMap.2 ⟨.tmp t,by simpa using h,rfl⟩
theorem KG{s':St}{x:Operand}(hx:x∈o.op.operands)(h:∀r∈(vN o).map (bN.t d),s'.get r=s.get r):cB d s'.get x=cB d s.get x:=by
 cases x with
 |tmp t=>exact h _ (List.mem_map.2 ⟨t,ahM hx rfl,rfl⟩)
 |_=>rfl
theorem ahN{i lo n:Nat}{b:Bool}{va vb:SV}(ho:ops[i]?=some o)(ahO:o.dst=some n)(hn:n<nt)(hg:gw d ops o fs s=some true)(hf:dE fs ρ)(hp:vR d s o fs=some (.is b,va,vb)):
  yO P ops Q B d up nt ρ i (z_ d ops o++(vN o).map (bN.t d)) [(.t d n,bif b then va else vb)] lo lo s:=by
 intro M s' G a w Kn nZ hr pM hM hK
 have SP:=KF (fs:=fs) (o:=o) (ops:=ops) (d:=d) (s:=s) (s':=s') λr hr=>nZ r (List.mem_append_left _ hr)
 have hw:=Ft (SP.trans hg) hr hf
 have Ah:∀i,M i->Mn M lo lo i:=λi h=>.inl h
 unfold vR at hp
 split at hp
 ·rename_i c x y fg
  simp only[bP,Prod.mk.injEq]at hp
  obtain⟨h1,rfl,rfl⟩:=hp
  have hT:∀r∈(vN o).map (bN.t d),s'.get r=s.get r:=λr hr=>nZ r (List.mem_append_right _ hr)
  have oc:=KG (s':=s') (s:=s) (d:=d) (o:=o) (x:=c) (by rw[fg];simp[Op.operands]) hT
  have ox:=KG (s':=s') (s:=s) (d:=d) (o:=o) (x:=x) (by rw[fg];simp[Op.operands]) hT
  have oy:=KG (s':=s') (s:=s) (d:=d) (o:=o) (x:=y) (by rw[fg];simp[Op.operands]) hT
  have hc:=Fq (by rw[oc];exact h1) (DS hr c).1 hf
  unfold wpOp
  simp only[ho,hw,if_true]
  left
  have jc:(execOp a.eval o).run P w=.ok (.value (if b then a.eval x else a.eval y)) w:=by
   unfold execOp
   simp only[fg,hc,asBool,pure_bind]
   cases b<;>rfl
  simp only[Oper.wp,jc,Oper.upon,ahO]
  refine hK G _ w ?_ (by rw[A4];exact pM)
  rw[SQ]
  refine(hr.EW (by rw[pM];exact hn) ?_ ?_).mono Ah
  ·cases b
   ·simp only[cond_false,cE,if_false];rw[<-oy];exact(DS hr y).1
   ·simp only[cond_true,if_true];rw[<-ox];exact(DS hr x).1
  ·cases b
   ·simp only[cond_false];rw[<-oy];exact(DS hr y).2
   ·simp only[cond_true];rw[<-ox];exact(DS hr x).2
 ·cases hp
end
section
variable {B:ft} {d:Nat} {up:Nat->Nat->Value} {S:Nat->aA} {P:Program} {cx:Cx} {dW:pd} {df fP:Nat} {R:Nat} {o:Oper} {Q:Exit->Act->World->Prop} {ops:Array Oper} {nt:Nat} {draw:Bool}
variable {K:List aA} {out:List T} {i:Nat} {rc:Rec}
def BK(P:Program)(S:Nat->aA)(R:Nat)(K:List aA)(out:List T)(ops:Array Oper)(Q:Exit->Act->World->Prop)(B:ft)(d:Nat)(up:Nat->Nat->Value)(nt:Nat)(i:Nat)(rc:Rec)
  (tr:List Tr)(lv:Nat)(s:St)(ct:Ct)(ρ:List T):Prop:=
 ∃rd wr iM e jU p',(∀e',yO P ops Q B d up nt (ρ++e++e') i rd wr ct.i iM.i s)∧ct.i<=iM.i∧rc (tr++[⟨rd,wr.map (·.1)⟩]) lv (s.fS wr) iM jU=some p'∧p'.den S R K (ρ++e)=some out∧
  (ρ++e).length=iM.a∧dE jU (ρ++e)
def KH(S:Nat->aA)(R:Nat)(K:List aA)(out:List T)(cx:Cx)(dW:pd)(ops:Array Oper)(d:Nat)(o:Oper)(rc:Rec)(tr:List Tr)(lv:Nat)(s:St)(ct:Ct)(ρ:List T):Prop:=
 ∃g vs jU p',gw d ops o jU s=some true∧ED cx d s o=some (g,vs)∧dE jU ρ∧dW (d+1) g vs lv s ct jU (EF d o rc tr)=some p'∧p'.den S R K ρ=some out
theorem KI{n:Nat}{x y:PL}{ρ:List T}(h:(PL.ite n x y).den S R K ρ=some out):∃b,ρ[n]?=some (.c (.bool b))∧(bif b then x.den S R K ρ else y.den S R K ρ)=some out:=by
 simp only[PL.den]at h
 cases hn:ρ[n]? with
 |none=>rw[List.getD_eq_getElem?_getD,hn]at h;simp[T.bQ]at h
 |some t=>
  rw[List.getD_eq_getElem?_getD,hn]at h
  simp only[Option.getD_some]at h
  split at h
  ·exact⟨_,rfl,h⟩
  ·cases h
theorem SR{tr:List Tr}{lv:Nat}{s:St}{ct:Ct}{fs:kl}{ρ:List T}{p:PL}(ho:ops[i]?=some o)(hn:∀n,o.dst=some n->n<nt)(hg:gw d ops o fs s=some false)
  (h:EE d ops o rc tr lv s ct fs=some p)(hp:p.den S R K ρ=some out)(hl:ρ.length=ct.a)(hf:dE fs ρ):BK P S R K out ops Q B d up nt i rc tr lv s ct ρ:=by
 refine⟨z_ d ops o,fW d o (.tp []),ct,[],fs,p,λe'=>ahL ho hn hg (by rw[List.append_nil];exact hf.ext),Nat.le_refl _,?_,by rw[List.append_nil];exact hp,by rw[List.append_nil];exact hl,by rw[List.append_nil];exact hf⟩
 unfold EE at h
 unfold fW
 cases hd:o.dst with
 |none=>rw[hd]at h;exact h
 |some n=>rw[hd]at h;exact h
theorem Fv{tr:List Tr}{lv:Nat}{s:St}{ct:Ct}{fs:kl}{ρ:List T}{p:PL}{b:Bool}{va vb:SV}(ho:ops[i]?=some o)(hn:∀n,o.dst=some n->n<nt)(hg:gw d ops o fs s=some true)
  (jN:vR d s o fs=some (.is b,va,vb))(h:yg d ops o rc tr lv s ct fs (bif b then va else vb)=some p)(hp:p.den S R K ρ=some out)(hl:ρ.length=ct.a)(hf:dE fs ρ):BK P S R K out ops Q B d up nt i rc tr lv s ct ρ:=by
 unfold yg at h
 cases hd:o.dst with
 |none=>rw[hd]at h;cases h
 |some n=>
  rw[hd]at h
  exact⟨z_ d ops o++(vN o).map (bN.t d),[(.t d n,bif b then va else vb)],ct,[],fs,p,λe'=>ahN ho hd (hn n hd) hg (by rw[List.append_nil];exact hf.ext) jN,Nat.le_refl _,h,
   by rw[List.append_nil];exact hp,by rw[List.append_nil];exact hl,by rw[List.append_nil];exact hf⟩
theorem SS{fs:kl}{s:St}{x:Bool}{m:Nat}{b:Bool}(h:gw d ops o fs s=some x)(hm:fact fs m=none):gw d ops o ((m,b)::fs) s=some x:=by
 unfold gw at h⊢
 cases hg:o.guard with
 |none=>rw[hg]at h;exact h
 |some jw=>
  obtain⟨j,want⟩:=jw
  simp only[hg]at h⊢
  cases hb:(ops[j]?).bind (·.dst)with
  |none=>simp only[hb]at h;cases h
  |some g=>
   simp only[hb]at h⊢
   have key:∀dc,qU fs (s.get (.t d g))=dc->(∀n,dc≠.ask n)->dc≠.no->qU ((m,b)::fs) (s.get (.t d g))=dc:=by
    intro dc vm h1 h2
    unfold qU at vm⊢
    split at vm
    ·exact vm
    ·split at vm
     ·exact vm
     ·rename_i n hn
      split at vm
      ·rename_i b' km
       have dU:Nat.beq m n=false:=by
        cases hbq:Nat.beq m n with
        |false=>rfl
        |true=>rw[ew hbq,km]at hm;cases hm
       simp only[fact,dU,cond_false,km]
       exact vm
      ·exact absurd vm.symm (h1 _)
     ·exact absurd vm.symm h2
   cases vm:qU fs (s.get (.t d g))with
   |nil=>rw[key _ vm (by simp) (by simp)];rw[vm]at h;exact h
   |is b'=>rw[key _ vm (by simp) (by simp)];rw[vm]at h;exact h
   |ask n=>rw[vm]at h;cases h
   |no=>rw[vm]at h;cases h
theorem ahP{sv:SV}{fs:kl}{n:Nat}(h:qU fs sv=.ask n):fact fs n=none:=by
 unfold qU at h
 split at h
 ·cases h
 ·split at h
  ·cases h
  ·split at h
   ·cases h
   ·rename_i hn;cases h;exact hn
  ·cases h
theorem SU{tr:List Tr}{lv:Nat}{s:St}{ct:Ct}{fs:kl}{ρ:List T}{p:PL}(E:Env P cx S)(ho:ops[i]?=some o)(hn:∀n,o.dst=some n->n<nt)(hg:gw d ops o fs s=some true)
  (h:doO cx dW df fP d ops draw o i rc tr lv s ct fs=some p)(hp:p.den S R K ρ=some out)(hl:ρ.length=ct.a)(hf:dE fs ρ):
  BK P S R K out ops Q B d up nt i rc tr lv s ct ρ∨(draw=false∧KH S R K out cx dW ops d o rc tr lv s ct ρ):=by
 unfold doO at h
 split at h
 ·rename_i dc va vb jN
  left
  split at h
  ·exact Fv (b:=true) ho hn hg jN h hp hl hf
  ·exact Fv (b:=false) ho hn hg jN h hp hl hf
  ·rename_i n
   simp only[cU,bP]at h
   obtain⟨x,hx,y,hy,rfl⟩:=h
   obtain⟨b,hb,hp⟩:=KI hp
   have SW:∀b,vR d s o ((n,b)::fs)=some (.is b,va,vb):=by
    intro b
    unfold vR at jN⊢
    split at jN
    ·simp only[bP,Prod.mk.injEq]at jN⊢
     exact⟨Fu jN.1,jN.2⟩
    ·cases jN
   have eo:fact fs n=none:=by
    unfold vR at jN
    split at jN
    ·simp only[bP,Prod.mk.injEq]at jN;exact ahP jN.1
    ·cases jN
   cases b with
   |true=>exact Fv (b:=true) ho hn (SS hg eo) (SW true) hx hp hl (hf.cons hb)
   |false=>exact Fv (b:=false) ho hn (SS hg eo) (SW false) hy hp hl (hf.cons hb)
  ·cases h;cases hp
  ·cases h;cases hp
 ·split at h
  ·rename_i g vs hi
   cases hd:draw with
   |true=>rw[hd]at h;simp only[cond_true,bP]at h;subst h;cases hp
   |false=>
    rw[hd]at h
    simp only[cond_false]at h
    exact .inr ⟨rfl,g,vs,fs,p,hg,hi,hf,h,hp⟩
  ·left
   split at h
   ·cases h;cases hp
   ·rename_i k hk
    cases hc:(Nat.beq k.ct.a (ct.a+qF k.is)&&Nat.ble ct.i k.ct.i&&rV k.ct.a k.is)with
    |false=>rw[hc]at h;cases h
    |true=>
     rw[hc]at h
     simp only[cond_true,cU,bP]at h
     obtain⟨p',qL,rfl⟩:=h
     simp only[bL]at hc
     obtain⟨⟨c1,c2⟩,c3⟩:=hc
     have c1:=ew c1
     obtain⟨ts,w1,w2,w3⟩:=Fp (S:=S) (R:=R) (K:=K) (out:=out) (ρ:=ρ) (by rw[hl,<-c1];exact c3) hp
     refine⟨z_ d ops o++EA d s o,k.w,k.ct,ts,fs,p',λe'=>ahK E ho hn hg (by rw[List.append_assoc];exact hf.ext) hk ?_,Nat.le_of_ble_eq_true c2,qL,w2,by rw[List.length_append,w1,hl,c1],hf.ext⟩
     show bT S (ρ++ts++e') k.ct.a k.is
     rw[c1,<-hl]
     exact w3 e'
theorem SX{tr:List Tr}{lv:Nat}{s:St}{ct:Ct}{fs:kl}{ρ:List T}{p:PL}(E:Env P cx S)(ho:ops[i]?=some o)(hn:∀n,o.dst=some n->n<nt)
  (h:AP cx dW df fP d ops draw o i rc tr lv s ct fs=some p)(hp:p.den S R K ρ=some out)(hl:ρ.length=ct.a)(hf:dE fs ρ):
  BK P S R K out ops Q B d up nt i rc tr lv s ct ρ∨(draw=false∧KH S R K out cx dW ops d o rc tr lv s ct ρ):=by
 unfold AP at h
 simp only at h
 cases Ko:o.guard with
 |none=>
  rw[Ko]at h
  exact SU E ho hn (by unfold gw;rw[Ko]) h hp hl hf
 |some jw=>
  obtain⟨j,want⟩:=jw
  rw[Ko]at h
  simp only at h
  cases hb:(ops[j]?).bind (·.dst)with
  |none=>rw[hb]at h;cases h
  |some g=>
   rw[hb]at h
   simp only at h
   have hgw:∀fs x,(match qU fs (s.get (.t d g))with| .nil=>some false| .is b=>some (b==want)|_=>none)=some x->gw d ops o fs s=some x:=by
    intro fs x hx
    unfold gw
    simp only[Ko,hb]
    exact hx
   have both:∀(fs:kl) (b:Bool) (p:PL),qU fs (s.get (.t d g))=.is b->(bif b==want then doO cx dW df fP d ops draw o i rc tr lv s ct fs else EE d ops o rc tr lv s ct fs)=some p->p.den S R K ρ=some out->dE fs ρ->
     BK P S R K out ops Q B d up nt i rc tr lv s ct ρ∨(draw=false∧KH S R K out cx dW ops d o rc tr lv s ct ρ):=by
    intro fs b p hd h hp hf
    have hg:=hgw fs (b==want) (by rw[hd])
    cases hbw:(b==want)with
    |true=>rw[hbw]at h hg;exact SU E ho hn hg h hp hl hf
    |false=>rw[hbw]at h hg;exact .inl (SR ho hn hg h hp hl hf)
   cases hd:qU fs (s.get (.t d g))with
   |nil=>
    rw[hd]at h
    exact .inl (SR ho hn (hgw fs false (by rw[hd])) h hp hl hf)
   |is b=>rw[hd]at h;exact both fs b p hd h hp hf
   |ask n=>
    rw[hd]at h
    simp only[cU,bP]at h
    obtain⟨x,hx,y,hy,rfl⟩:=h
    obtain⟨b,km,hp⟩:=KI hp
    cases b with
    |true=>exact both _ true x (Fu hd) hx hp (hf.cons km)
    |false=>exact both _ false y (Fu hd) hy hp (hf.cons km)
   |no=>rw[hd]at h;cases h;cases hp
end
structure Fr where
 d:Nat
 up:Nat->Nat->Value
 nt:Nat
structure Zb where
 K:List aA
 ρ:List T
def At(S:Nat->aA)(R:Nat)(out:List T)(B:ft)(f:Fr)(K0:Zb)(X:Gh->World->List T->Prop)(p:PL)(lv:Nat)(s:St)(ct:Ct)(fs:kl)(a:Act)(w:World):Prop:=
 ∃K ρ G,p.den S R K ρ=some out∧K.length=lv∧(∃pre,K=pre++K0.K)∧(∃e,ρ=K0.ρ++e)∧ρ.length=ct.a∧dE fs ρ∧Rel (λi=>i<ct.i) B f.d f.up s ρ G a w∧a.tmps.size=f.nt∧X G w ρ
def XT:Gh->World->List T->Prop:=λ_ _ _=>True
def Ai(S:Nat->aA)(R:Nat)(out:List T)(B:ft)(f:Fr)(K0:Zb)(k:KP)(Ψ:Act->World->Prop):Prop:=
 ∀lv s ct fs p a w,k lv s ct fs=some p->At S R out B f K0 XT p lv s ct fs a w->Ψ a w
def nH(us:List Value):Value:=if h:us.length=1 then us[0]else .tuple us.toArray
def Fw(P:Program)(S:Nat->aA)(R:Nat)(out:List T)(B:ft)(dW:pd):Prop:=
 ∀(f:Fr) (g:Nat) (vs:List SV) (lv:Nat) (s:St) (ct:Ct) (fs:kl) (kk:List SV->KP) (p:PL) (K0:Zb) (a:Act) (w:World) (args:List Value) (Ψ:Value->World->Prop),
  dW (f.d+1) g vs lv s ct fs kk=some p->At S R out B f K0 (λG w ρ=>dt G w ρ vs args∧∀v∈vs,∀i∈dI v,i<ct.i) p lv s ct fs a w->
   (∀rs qM s' iM jU p' w' us,kk rs qM s' iM jU=some p'->At S R out B f K0 (λG w ρ=>dt G w ρ rs us∧∀v∈rs,∀i∈dI v,i<iM.i) p' qM s' iM jU a w'->Ψ (nH us) w')->
   jK P g∧Calls P g args.toArray w λe w'=>∃v,e=.returned v∧Ψ v w'
section
variable {B:ft} {f:Fr} {S:Nat->aA} {P:Program} {cx:Cx} {dW:pd} {df fP:Nat} {R:Nat} {Q:Exit->Act->World->Prop} {ops:Array Oper} {out:List T} {K0:Zb}
theorem ahQ{lo hi:Nat}(h:lo<=hi)(i:Nat)(hm:Mn (λi=>i<lo) lo hi i):i<hi:=by
 rcases hm with h1|h1
 ·omega
 ·exact h1.2
theorem dt.length{G:Gh}{w:World}{ρ:List T}:∀{vs:List SV} {us:List Value},dt G w ρ vs us->vs.length=us.length
 | [],[],_=>rfl
 |_::_,_::_,h=>by simp[dt.length h.2]
 | [],_::_,h=>h.elim
 |_::_,[],h=>h.elim
theorem SY{G:Gh}{w:World}{ρ:List T}:∀{rs:List SV} {vs:List (Bool×List Ce)} {us:List Value},u9 rs=some vs->dt G w ρ rs us->gR G w ρ vs us∧rY vs=rs.flatMap dI
 | [],vs,us,h,hr=>by
  simp[u9]at h
  subst h
  cases us with
  |nil=>exact⟨trivial,rfl⟩
  |cons _ _=>exact hr.elim
 | .v ag cs::rs,vs,us,h,hr=>by
  simp only[u9,cU,bP]at h
  obtain⟨l,hl,rfl⟩:=h
  cases us with
  |nil=>exact hr.elim
  |cons u us=>
   obtain⟨g1,g2⟩:=SY hl hr.2
   exact⟨⟨hr.1,g1⟩,by simp[rY,dI,g2]⟩
 | .un::rs,vs,us,h,hr=>by simp[u9]at h
 | .pt _ _::rs,vs,us,h,hr=>by simp[u9]at h
 | .ep _ _ _ _ _::rs,vs,us,h,hr=>by simp[u9]at h
 | .fp _ _ _ _::rs,vs,us,h,hr=>by simp[u9]at h
 | .tp _::rs,vs,us,h,hr=>by simp[u9]at h
 | .cl _ _::rs,vs,us,h,hr=>by simp[u9]at h
 | .ob _ _::rs,vs,us,h,hr=>by simp[u9]at h
 | .fz _ _::rs,vs,us,h,hr=>by simp[u9]at h
 | .tk _ _::rs,vs,us,h,hr=>by simp[u9]at h
 | .fl _::rs,vs,us,h,hr=>by simp[u9]at h
 | .fr _::rs,vs,us,h,hr=>by simp[u9]at h
theorem ahR{o:Oper}{rc:Rec}{tr:List Tr}{rs:List SV}{lv:Nat}{s:St}{ct:Ct}{fs:kl}{p:PL}{a:Act}{w:World}{us:List Value}{Ψ:Act->World->Prop}(hn:∀n,o.dst=some n->n<f.nt)
  (h:EF f.d o rc tr rs lv s ct fs=some p)(bR:At S R out B f K0 (λG w ρ=>dt G w ρ rs us∧∀v∈rs,∀i∈dI v,i<ct.i) p lv s ct fs a w)
  (rB:∀tr lv s ct fs p a w,rc tr lv s ct fs=some p->At S R out B f K0 XT p lv s ct fs a w->Ψ a w):Ψ (a.put o.dst (nH us)) w:=by
 obtain⟨K,ρ,G,h1,h2,h3,h0,h4,h5,h6,h7,h8,h9⟩:=bR
 unfold EF at h
 have key:∀(n:Nat) (v:SV),o.dst=some n->rc tr lv (s.set (.t f.d n) v) ct fs=some p->cR G w ρ v (nH us)->(∀i∈dI v,i<ct.i)->Ψ (a.put o.dst (nH us)) w:=by
  intro n v hd hk hr hm
  rw[hd]
  exact rB tr lv _ ct fs p _ w hk ⟨K,ρ,G,h1,h2,h3,h0,h4,h5,h6.EW (by rw[h7];exact hn n hd) hr hm,by rw[A4];exact h7,trivial⟩
 have hlen:=h8.length
 split at h
 ·rename_i hd
  rw[hd]
  exact rB tr lv s ct fs p _ w h ⟨K,ρ,G,h1,h2,h3,h0,h4,h5,by simpa[Act.put]using h6,by simpa[Act.put]using h7,trivial⟩
 ·rename_i n v hd
  match us,h8 with
  | [u],h8=>exact key n v hd h h8.1 (h9 v (by simp))
 ·rename_i n hd
  exact key n .un hd h trivial (λi hi=>by simp[dI]at hi)
 ·rename_i rs' _ _ n hd KJ ayg
  simp only[cU]at h
  obtain⟨vs,pg,h⟩:=h
  obtain⟨g1,g2⟩:=SY pg h8
  refine key n (.tp vs) hd h ⟨us,?_,g1⟩ λi hi=>?_
  ·unfold nH
   rw[dif_neg]
   intro he
   rw[<-hlen]at he
   match rs',KJ,he with
   | [v],KJ,_=>exact KJ v rfl
  ·rw[show dI (.tp vs)=rY vs from rfl,g2]at hi
   obtain⟨v,hv,hi⟩:=List.mem_flatMap.1 hi
   exact h9 v hv i hi
theorem ahS{d:Nat}{up:Nat->Nat->Value}{M:Nat->Prop}{s:St}{ρ:List T}{G:Gh}{a:Act}{w:World}{o:Oper}{g:Nat}{vs:List SV}(hr:Rel M B d up s ρ G a w)(hi:ED cx d s o=some (g,vs)):
  ∃args:List Value,(jK P g->(execOp a.eval o).run P w=.ok (.enter g args.toArray) w)∧dt G w ρ vs args∧∀v∈vs,∀i∈dI v,M i:=by
 unfold ED at hi
 split at hi
 ·rename_i c fg
  split at hi
  ·rename_i x ahT
   split at hi
   ·rename_i g' bs hx
    split at hi
    ·cases hi
    ·simp only[bP,Prod.mk.injEq]at hi
     obtain⟨rfl,rfl⟩:=hi
     obtain⟨h1,h2⟩:=DS hr x
     rw[hx]at h1 h2
     have hv:a.eval x=.func (.func g') #[] (bs.map λb=>Value.pointer (some ⟨G.β b,0,none⟩)).toArray:=h1
     refine⟨c.args.toList.map a.eval++bs.map λb=>Value.pointer (some ⟨G.β b,0,none⟩),?_,?_,?_⟩
     ·intro hg
      unfold execOp
      rw[fg]
      show Sem.run P (do let d <-resolve a.eval c o.type;invoke d.target d.args) w=_
      simp only[resolve,ahT,hv,Deferred.ofValue,pure_bind,invoke]
      rw[SC hg]
      congr 2
      exact Array.ext' (by simp)
     ·have k1:∀l:List Operand,dt G w ρ (l.map (cB d s.get)++bs.map λb=>SV.pt b 0) (l.map a.eval++bs.map λb=>Value.pointer (some ⟨G.β b,0,none⟩)):=by
       intro l
       induction l with
       |nil=>
        clear hx h1 h2 hv
        induction bs with
        |nil=>trivial
        |cons b bs ih=>exact⟨rfl,ih⟩
       |cons y l ih=>exact⟨(DS hr y).1,ih⟩
      exact k1 _
     ·intro v hv i hi
      rcases List.mem_append.1 hv with hv|hv
      ·obtain⟨y,_,rfl⟩:=List.mem_map.1 hv
       exact(DS hr y).2 i hi
      ·obtain⟨b,hb,rfl⟩:=List.mem_map.1 hv
       simp[dI]at hi
       subst hi
       exact h2 _ (by simpa[dI]using hb)
   ·cases hi
  ·cases hi
 ·cases hi
theorem SZ(E:Env P cx S)(hI:Fw P S R out B dW)(hn:∀o∈ops.toList,∀n,o.dst=some n->n<f.nt){fin:List Tr->KP}(lp:∀tr,Ai S R out B f K0 (fin tr) (Q .normal)):
  ∀(os:List Oper) (i:Nat) (tr:List Tr) (lv:Nat) (s:St) (ct:Ct) (fs:kl) (p:PL) (a:Act) (w:World),ops.toList.drop i=os->tQ cx dW df fP f.d ops false fin os i tr lv s ct fs=some p->
   At S R out B f K0 XT p lv s ct fs a w->wpOps P ops Q (List.range' i os.length) a w
 | [],i,tr,lv,s,ct,fs,p,a,w,_,h,bR=>lp tr lv s ct fs p a w h bR
 |o::os,i,tr,lv,s,ct,fs,p,a,w,KK,h,bR=>by
  have ho:ops[i]?=some o:=by
   rw[<-Array.getElem?_toList]
   have:=congrArg (·[0]?) KK
   simpa using this
  have iA:=hn o (List.mem_of_mem_drop (i:=i) (by rw[KK];simp))
  have Fx:ops.toList.drop (i+1)=os:=by
   rw[<-List.drop_drop,KK];rfl
  have ih:=SZ E hI hn lp os (i+1)
  obtain⟨K,ρ,G,h1,h2,h3,⟨e0,h0⟩,h4,h5,h6,h7,_⟩:=bR
  rw[List.length_cons,List.range'_succ,wpOps_cons]
  rcases SX (P:=P) (Q:=Q) (B:=B) (up:=f.up) (nt:=f.nt) (R:=R) (K:=K) (out:=out) E ho iA (show AP cx dW df fP f.d ops false o i (tQ cx dW df fP f.d ops false fin os (i+1)) tr lv s ct fs=some p from h) h1 h4 h5 with
   ⟨rd,wr,iM,e,jU,p',D5,hle,rB,qL,kW,Qr⟩|⟨_,g,vs,jU,p',hg,hi,Qr,jH,qL⟩
  ·have S0:=D5 []
   rw[List.append_nil]at S0
   refine S0 (λi=>i<ct.i) s G a w _ (λr hr=>rfl) h6.ext h7 (λj h1 h2=>by omega) λG' a' w' jG J4=>?_
   exact ih _ lv _ iM jU p' a' w' Fx rB ⟨K,ρ++e,G',qL,h2,h3,⟨e0++e,by rw[h0,List.append_assoc]⟩,kW,Qr,jG.mono (ahQ hle),J4,trivial⟩
  ·have hQ:=λ(args:List Value) hr=>hI f g vs lv s ct jU _ p' K0 a w args (λv w'=>wpOps P ops Q (List.range' (i+1) os.length) (a.put o.dst v) w') jH ⟨K,ρ,G,qL,h2,h3,⟨e0,h0⟩,h4,Qr,h6,h7,hr⟩ λrs qM s' iM fs2 p2 w' us hk lP=>
    ahR (Ψ:=λa w'=>wpOps P ops Q (List.range' (i+1) os.length) a w') iA hk lP λtr lv s ct fs p a w hk wx=>ih tr lv s ct fs p a w Fx hk wx
   obtain⟨args,hx,hr,hm⟩:=ahS (P:=P) h6 hi
   have hw:=Ft hg h6 Qr
   unfold wpOp
   simp only[ho,hw,if_true]
   left
   simp only[Oper.wp]
   obtain⟨hg0,BH⟩:=hQ args ⟨hr,hm⟩
   rw[hx hg0]
   refine BH.mono ?_
   rintro e w' ⟨v,rfl,hv⟩
   exact hv
end
structure Item where
 rd:List bN
 wr:St
 lo:Nat
 hi:Nat
def Item.tr(it:Item):Tr:=⟨it.rd,it.wr.map (·.1)⟩
inductive jd (Ok:Nat->Item->St->Prop):Nat->St->Nat->List Item->St->Nat->Prop
 |nil {i:Nat} {s:St} {c:Nat}:jd Ok i s c [] s c
 |cons {i:Nat} {s s':St} {c c':Nat} {it:Item} {its:List Item} (h:Ok i it s) (hl:it.lo=c) (hh:c<=it.hi) (ht:jd Ok (i+1) (s.fS it.wr) it.hi its s' c'):jd Ok i s c (it::its) s' c'
def nr(D:Nat->Bool):Nat->St->List Item->St
 |_,s,[]=>s
 |i,s,it::its=>nr D (i+1) (bif D i then s.fS it.wr else s) its
theorem jd.mono{Ok Ok':Nat->Item->St->Prop}(h:∀i it s,Ok i it s->Ok' i it s){i:Nat}{s s':St}{c c':Nat}{its:List Item}(hc:jd Ok i s c its s' c'):jd Ok' i s c its s' c':=by
 induction hc with
 |nil=>exact .nil
 |cons h1 h2 h3 _ ih=>exact .cons (h _ _ _ h1) h2 h3 ih
theorem jd.le{Ok:Nat->Item->St->Prop}{i:Nat}{s s':St}{c c':Nat}{its:List Item}(hc:jd Ok i s c its s' c'):c<=c':=by
 induction hc with
 |nil=>exact Nat.le_refl _
 |cons _ _ h3 _ ih=>exact Nat.le_trans h3 ih
theorem jd.get{Ok:Nat->Item->St->Prop}{i:Nat}{s s':St}{c c':Nat}{its:List Item}(hc:jd Ok i s c its s' c'):∀(m:Nat) (it:Item),its[m]?=some it->
  Ok (i+m) it (nr (λ_=>true) i s (its.take m))∧c<=it.lo∧it.lo<=it.hi∧it.hi<=c':=by
 induction hc with
 |nil=>intro m it h;simp at h
 | @cons i s s' c c' Qs its h1 h2 h3 h4 ih=>
  intro m it hm
  cases m with
  |zero=>
   simp at hm
   subst hm
   exact⟨h1,by omega,by omega,h4.le⟩
  |succ m=>
   obtain⟨g1,g2,g3,g4⟩:=ih m it (by simpa using hm)
   refine⟨?_,by omega,g3,g4⟩
   rw[show i+(m+1)=i+1+m by omega]
   simpa[nr]using g1
theorem jd.apart{Ok:Nat->Item->St->Prop}{i:Nat}{s s':St}{c c':Nat}{its:List Item}(hc:jd Ok i s c its s' c'):∀(m m':Nat) (it jr:Item),its[m]?=some it->its[m']?=some jr->m<m'->it.hi<=jr.lo:=by
 induction hc with
 |nil=>intro m m' it jr h;simp at h
 | @cons i s s' c c' Qs its h1 h2 h3 h4 ih=>
  intro m m' it jr hm Aa bC
  cases m' with
  |zero=>omega
  |succ m'=>
   cases m with
   |zero=>
    simp at hm
    subst hm
    exact(h4.get m' jr (by simpa using Aa)).2.1
   |succ m=>exact ih m m' it jr (by simpa using hm) (by simpa using Aa) (by omega)
theorem jd.last{Ok:Nat->Item->St->Prop}{i:Nat}{s s':St}{c c':Nat}{its:List Item}(hc:jd Ok i s c its s' c'){D:Nat->Bool}:(∀m,m<its.length->D (i+m)=true)->nr D i s its=s':=by
 induction hc with
 |nil=>intro _;rfl
 | @cons i s s' c c' Qs its h1 h2 h3 h4 ih=>
  intro h
  simp only[nr]
  rw[show D i=true from h 0 (by simp)]
  exact ih λm hm=>by rw[show i+1+m=i+(m+1) by omega];exact h (m+1) (by simpa using hm)
theorem S1{D:Nat->Bool}:∀{its:List Item} {i:Nat} {s:St},(∀m,m<its.length->D (i+m)=false)->nr D i s its=s
 | [],i,s,_=>rfl
 |it::its,i,s,h=>by
  simp only[nr]
  rw[show D i=false from h 0 (by simp)]
  exact S1 λm hm=>by rw[show i+1+m=i+(m+1) by omega];exact h (m+1) (by simpa using hm)
theorem S2{D:Nat->Bool}:∀{its:List Item} {i:Nat} {s s2:St},(∀r,s.get r=s2.get r)->∀r,(nr D i s its).get r=(nr D i s2 its).get r
 | [],i,s,s2,h,r=>h r
 |it::its,i,s,s2,h,r=>by
  simp only[nr]
  refine S2 (λr=>?_) r
  cases D i with
  |true=>simp only[cond_true];rw[St.bn,St.bn,h]
  |false=>exact h r
theorem S3{D D':Nat->Bool}:∀{its:List Item} {i:Nat} {s:St},(∀m,m<its.length->D (i+m)=D' (i+m))->nr D i s its=nr D' i s its
 | [],i,s,_=>rfl
 |it::its,i,s,h=>by
  simp only[nr]
  rw[show D i=D' i from h 0 (by simp)]
  exact S3 λm hm=>by rw[show i+1+m=i+(m+1) by omega];exact h (m+1) (by simpa using hm)
theorem S4{D:Nat->Bool}{r:bN}:∀{its:List Item} {i:Nat} {s:St},(∀m it,its[m]?=some it->D (i+m)=true->it.wr.look r=none)->(nr D i s its).get r=s.get r
 | [],i,s,_=>rfl
 |it::its,i,s,h=>by
  simp only[nr]
  rw[S4 λm jr hm hd=>h (m+1) jr (by simpa using hm) (by rw[show i+(m+1)=i+1+m by omega];exact hd)]
  cases hD:D i with
  |false=>rfl
  |true=>
   simp only[cond_true]
   rw[St.bn,h 0 it rfl (by simpa using hD)]
   rfl
theorem S5{D:Nat->Bool}{W:St}:∀{its:List Item} {i:Nat} {s:St},(∀m it,its[m]?=some it->D (i+m)=true->∀r,it.wr.look r=none∨W.look r=none)->
  ∀r,((nr D i s its).fS W).get r=(nr D i (s.fS W) its).get r
 | [],i,s,_,r=>rfl
 |it::its,i,s,h,r=>by
  simp only[nr]
  rw[S5 λm jr hm hd=>h (m+1) jr (by simpa using hm) (by rw[show i+(m+1)=i+1+m by omega];exact hd)]
  refine S2 (λr=>?_) r
  cases hD:D i with
  |false=>rfl
  |true=>
   simp only[cond_true]
   rw[St.bn,St.bn,St.bn,St.bn]
   rcases h 0 it rfl (by simpa using hD) r with h1|h1
   ·rw[h1];rfl
   ·rw[h1];rfl
def qn(D:Nat->Bool)(k:Nat):Nat->Bool:=λj=>if j=k then true else D j
theorem S6{D:Nat->Bool}:∀{its:List Item} {i m:Nat} {s:St} {it:Item},its[m]?=some it->D (i+m)=false->
  (∀m' jr,its[m']?=some jr->m<m'->D (i+m')=true->∀r,jr.wr.look r=none∨it.wr.look r=none)->∀r,((nr D i s its).fS it.wr).get r=(nr (qn D (i+m)) i s its).get r
 | [],i,m,s,it,h,_,_,r=>by simp at h
 |Qs::its,i,0,s,it,h,hd,hc,r=>by
  simp at h
  subst h
  simp only[nr,Nat.add_zero]at hd⊢
  rw[hd,show qn D i i=true by simp[qn]]
  simp only[cond_false,cond_true]
  rw[S5 λm jr hm kX=>hc (m+1) jr (by simpa using hm) (by omega) (by rw[show i+(m+1)=i+1+m by omega];exact kX)]
  exact congrArg (λx=>St.get x r) (S3 λm hm=>by
   have:¬(i+1+m=i):=by omega
   simp[qn,this])
 |Qs::its,i,m+1,s,it,h,hd,hc,r=>by
  simp only[nr]
  have e:qn D (i+(m+1)) i=D i:=by
   have:¬(i=i+(m+1)):=by omega
   simp[qn]
  rw[e,show i+(m+1)=i+1+m by omega]
  exact S6 (by simpa using h) (by rw[show i+1+m=i+(m+1) by omega];exact hd) (λm' jr hm bC kX=>hc (m'+1) jr (by simpa using hm) (by omega) (by rw[show i+(m'+1)=i+1+m' by omega];exact kX)) r
theorem S7{D:Nat->Bool}{r:bN}:∀{its:List Item} {i m:Nat} {s s2:St},s.get r=s2.get r->m<=its.length->(∀m' jr,its[m']?=some jr->m'<m->D (i+m')=false->jr.wr.look r=none)->
  (∀m' jr,its[m']?=some jr->m<=m'->D (i+m')=true->jr.wr.look r=none)->(nr D i s its).get r=(nr (λ_=>true) i s2 (its.take m)).get r
 |its,i,0,s,s2,h,_,h1,h2=>by
  rw[List.take_zero]
  show _=s2.get r
  rw[S4 λm it hm hd=>h2 m it hm (by omega) hd,h]
 | [],i,m+1,s,s2,h,hl,_,_=>by simp at hl
 |Qs::its,i,m+1,s,s2,h,hl,h1,h2=>by
  simp only[nr,List.take_succ_cons,cond_true]
  refine S7 ?_ (by simpa using hl) (λm' jr hm bC hd=>h1 (m'+1) jr (by simpa using hm) (by omega) (by rw[show i+(m'+1)=i+1+m' by omega];exact hd))
   (λm' jr hm bC hd=>h2 (m'+1) jr (by simpa using hm) (by omega) (by rw[show i+(m'+1)=i+1+m' by omega];exact hd))
  cases hD:D i with
  |true=>simp only[cond_true];rw[St.bn,St.bn,h]
  |false=>
   simp only[cond_false]
   rw[St.bn,h1 0 Qs rfl (by omega) (by simpa using hD)]
   exact h
theorem KL{xs ys:List bN}(h:EB xs ys=false):∀r,r∈xs->r∈ys->False:=by
 intro r h1 h2
 have h3:ys.any r.beq=false:=by have:=List.any_eq_false.1 h r h1;rw[Bool.not_eq_true]at this;exact this
 have:=List.any_eq_false.1 h3 r h2
 exact this (bN.beq_iff.2 rfl)
theorem Fy{W:St}{r:bN}(h:r∉W.map (·.1)):W.look r=none:=by
 cases hl:W.look r with
 |none=>rfl
 |some u=>exact absurd (List.mem_map.2 ⟨(r,u),Fj hl,rfl⟩) h
theorem KM{a b:Item}(h:vO a.tr b.tr=true):(∀r∈b.rd,a.wr.look r=none)∧(∀r,a.wr.look r=none∨b.wr.look r=none)∧(∀r∈a.rd,b.wr.look r=none):=by
 simp only[vO,bL,Bool.not_eq_true']at h
 obtain⟨⟨h1,h2⟩,h3⟩:=h
 refine⟨λr hr=>Fy λhm=>KL h1 r hm hr,λr=>?_,λr hr=>Fy λhm=>KL h3 r hr hm⟩
 by_cases hm:r∈a.wr.map (·.1)
 ·exact .inr (Fy λAa=>KL h2 r hm Aa)
 ·exact .inl (Fy hm)
theorem S8{bj:Nat}{t:Tr}:∀{us:List Tr} {i:Nat},EC bj t i us=true->∀j u,us[j]?=some u->Nat.testBit bj (i+j)=true∨vO u t=true
 | [],i,_,j,u,h=>by simp at h
 |v::us,i,h,j,u,hj=>by
  simp only[EC,bL,Bool.or_eq_true]at h
  cases j with
  |zero=>simp at hj;subst hj;exact h.1
  |succ j=>
   have:=S8 h.2 j u (by simpa using hj)
   rw[show i+1+j=i+(j+1) by omega]at this
   exact this
theorem KN:∀{ts:List Tr} {bs:List Nat} {done:List Tr},vQ done ts bs=true->∀(m u:Nat) (t tu:Tr) (b:Nat),ts[m]?=some t->bs[m]?=some b->u<done.length+m->(done++ts)[u]?=some tu->
  Nat.testBit b u=true∨vO tu t=true
 | [],bs,done,_,m,u,t,tu,b,h,_,_,_=>by simp at h
 |_::_,[],done,_,m,u,t,tu,b,_,h,_,_=>by simp at h
 |t0::ts,b0::bs,done,h,m,u,t,tu,b,hm,hb,hu,hg=>by
  simp only[vQ,bL]at h
  cases m with
  |zero=>
   simp at hm hb
   subst hm hb
   have:=S8 h.1 u tu (by rw[List.getElem?_append_left (by omega)]at hg;exact hg)
   simpa using this
  |succ m=>
   exact KN h.2 m u t tu b (by simpa using hm) (by simpa using hb) (by simp;omega) (by simpa using hg)
def wy(n:Nat)(e:Edge):Bool:=Region.binds .any e&&Nat.blt e.on n
theorem S9(acc:List Nat)(n:Nat):∀(es:List Edge) (s u:Nat),Nat.testBit (es.foldl (λs e=>bif wy n e then s|||(2^e.on)|||(acc.getD e.on 0)else s) s) u=true->
  Nat.testBit s u=true∨∃e∈es,wy n e=true∧(u=e.on∨Nat.testBit (acc.getD e.on 0) u=true)
 | [],s,u,h=>.inl h
 |e::es,s,u,h=>by
  rw[List.foldl_cons]at h
  rcases S9 acc n es _ u h with h1|⟨e',he',h1⟩
  ·cases hc:wy n e with
   |false=>rw[hc]at h1;exact .inl h1
   |true=>
    rw[hc]at h1
    simp only[cond_true,Nat.testBit_or,Bool.or_eq_true]at h1
    rcases h1 with(h1|h1)|h1
    ·exact .inl h1
    ·rw[Nat.testBit_two_pow]at h1
     simp at h1
     exact .inr ⟨e,by simp,hc,.inl h1.symm⟩
    ·exact .inr ⟨e,by simp,hc,.inr h1⟩
  ·exact .inr ⟨e',by simp[he'],h1⟩
theorem KO:∀(os:List Oper) (acc:List Nat) (j:Nat),j<acc.length->(ru acc os)[j]?=acc[j]?
 | [],acc,j,_=>rfl
 |o::os,acc,j,h=>by
  simp only[ru]
  rw[KO os _ j (by simp;omega),List.getElem?_append_left h]
theorem S_:∀(os:List Oper) (acc:List Nat),(ru acc os).length=acc.length+os.length
 | [],acc=>rfl
 |o::os,acc=>by simp only[ru];rw[S_];simp;omega
theorem KQ:∀(os:List Oper) (acc:List Nat) (k b:Nat),acc.length<=k->(ru acc os)[k]?=some b->∃o,os[k-acc.length]?=some o∧
  ∀u,Nat.testBit b u=true->∃e∈o.after.toList,wy k e=true∧(u=e.on∨Nat.testBit ((ru acc os).getD e.on 0) u=true)
 | [],acc,k,b,hk,h=>by
  simp only[ru]at h
  have:=(List.getElem?_eq_some_iff.1 h).1
  omega
 |o::os,acc,k,b,hk,h=>by
  simp only[ru]at h⊢
  by_cases he:k=acc.length
  ·subst he
   rw[KO os _ _ (by simp),List.getElem?_append_right (Nat.le_refl _)]at h
   simp only[Nat.sub_self,List.getElem?_cons_zero,bP]at h
   refine⟨o,by simp,λu hu=>?_⟩
   rw[<-h]at hu
   rcases S9 acc acc.length o.after.toList 0 u hu with h1|⟨e,he,h1,h2⟩
   ·simp at h1
   ·refine⟨e,he,h1,h2.imp_right λh2=>?_⟩
    have bC:e.on<acc.length:=by
     simp only[wy,bL]at h1
     exact Nat.lt_of_succ_le (by simpa[Nat.blt]using h1.2)
    rw[List.getD_eq_getElem?_getD,KO os _ _ (by simp;omega),List.getElem?_append_left bC,<-List.getD_eq_getElem?_getD]
    exact h2
  ·obtain⟨o',h1,h2⟩:=KQ os _ k b (by simp;omega) h
   refine⟨o',?_,h2⟩
   rw[<-h1,show k-acc.length=(k-(acc.length+1))+1 by omega]
   simp
theorem S':∀{os:List Oper} {i:Nat},vP i os=true->∀m o,os[m]?=some o->∀e∈o.after.toList,Region.binds .any e=true->e.on<i+m
 | [],i,_,m,o,h,_,_,_=>by simp at h
 |o0::os,i,h,m,o,hm,e,he,hb=>by
  simp only[vP,bL]at h
  cases m with
  |zero=>
   simp at hm
   subst hm
   have:=List.all_eq_true.1 h.1 e he
   simp only[hb,Bool.not_true,Bool.false_or]at this
   exact Nat.lt_of_succ_le (by simpa[Nat.blt]using this)
  |succ m=>
   have:=S' h.2 m o (by simpa using hm) e he hb
   omega
def KR(ops:Array Oper)(D:Nat->Bool):Prop:=∀(j:Nat) (o:Oper),D j=true->ops[j]?=some o->∀e∈o.after.toList,Region.binds .any e=true->D e.on=true
theorem Ta{ops:Array Oper}{D:Nat->Bool}(hc:KR ops D):∀(j b u:Nat),D j=true->(ru [] ops.toList)[j]?=some b->Nat.testBit b u=true->D u=true:=by
 intro j
 induction j using Nat.strongRecOn with
 |_ j ih=>
  intro b u hj hb hu
  obtain⟨o,ho,h⟩:=KQ ops.toList [] j b (by simp) hb
  obtain⟨e,he,h1,h2⟩:=h u hu
  simp only[wy,bL]at h1
  have bC:e.on<j:=Nat.lt_of_succ_le (by simpa[Nat.blt]using h1.2)
  have hd:=hc j o hj (by simpa using ho) e he h1.1
  rcases h2 with rfl|h2
  ·exact hd
  ·have hlen:e.on<(ru [] ops.toList).length:=by
    have:=(List.getElem?_eq_some_iff.1 hb).1
    omega
   rw[List.getD_eq_getElem?_getD,List.getElem?_eq_getElem hlen]at h2
   exact ih e.on bC _ u hd (List.getElem?_eq_getElem hlen) h2
theorem ahV{ops:Array Oper}{D:Nat->Bool}(hc:KR ops D){k b u:Nat}{o:Oper}(ho:ops[k]?=some o)(hr:∀e∈o.after.toList,Region.binds .any e=true->D e.on=true)
  (hb:(ru [] ops.toList)[k]?=some b)(hu:Nat.testBit b u=true):D u=true:=by
 obtain⟨o',ID,h⟩:=KQ ops.toList [] k b (by simp) hb
 simp only[List.length_nil,Nat.sub_zero,Array.getElem?_toList,ho,bP]at ID
 subst ID
 obtain⟨e,he,h1,h2⟩:=h u hu
 simp only[wy,bL]at h1
 have hd:=hr e he h1.1
 have bC:e.on<k:=Nat.lt_of_succ_le (by simpa[Nat.blt]using h1.2)
 rcases h2 with rfl|h2
 ·exact hd
 ·have hlen:e.on<(ru [] ops.toList).length:=by
   have:=(List.getElem?_eq_some_iff.1 hb).1
   omega
  rw[List.getD_eq_getElem?_getD,List.getElem?_eq_getElem hlen]at h2
  exact Ta hc e.on _ u hd (List.getElem?_eq_getElem hlen) h2
def Aj:List Bool->Nat
 | []=>0
 |true::l=>Aj l
 |false::l=>Aj l+1
theorem KS:∀(l:List Bool) (i:Nat),l[i]?=some false->Aj (l.set i true)+1=Aj l
 | [],i,h=>by simp at h
 |b::l,0,h=>by simp at h;subst h;simp[Aj]
 |true::l,i+1,h=>by simp only[List.set_cons_succ,Aj];exact KS l i (by simpa using h)
 |false::l,i+1,h=>by simp only[List.set_cons_succ,Aj];rw[<-KS l i (by simpa using h)]
theorem Tb:∀(l:List Bool),Aj l=0->∀i,i<l.length->l[i]?=some true
 | [],_,i,h=>by simp at h
 |true::l,h,0,_=>rfl
 |true::l,h,i+1,hi=>by simpa using Tb l h i (by simpa using hi)
 |false::l,h,_,_=>by simp[Aj]at h
theorem Tc:∀n,Aj (List.replicate n false)=n
 |0=>rfl
 |n+1=>by simp[List.replicate_succ,Aj,Tc n]
section
variable {B:ft} {d:Nat} {up:Nat->Nat->Value} {S:Nat->aA} {P:Program} {cx:Cx} {dW:pd} {df fP:Nat} {R:Nat} {Q:Exit->Act->World->Prop} {ops:Array Oper} {nt:Nat} {ρ:List T}
variable {its:List Item} {s0 s1:St} {c0 c1:Nat}
def MD(c0:Nat)(its:List Item)(D:Nat->Bool)(j:Nat):Prop:=j<c0∨∃m it,its[m]?=some it∧D m=true∧it.lo<=j∧j<it.hi
def om(listed:Array Bool)(j:Nat):Bool:=listed.getD j false
theorem ahW{listed:Array Bool}{i:Nat}(h:i<listed.size):om (listed.setIfInBounds i true)=qn (om listed) i:=by
 funext j
 unfold om qn
 by_cases hj:j=i
 ·subst hj
  simp[Array.getD_eq_getD_getElem?,h]
 ·rw[if_neg hj,getD_set_ne _ (Ne.symm hj)]
theorem ahX(hc:jd (λi it s=>yO P ops Q B d up nt ρ i it.rd it.wr it.lo it.hi s) 0 s0 c0 its s1 c1)(hlen:its.length=ops.size)(cV:vQ [] (its.map Item.tr) (ru [] ops.toList)=true)(hfw:vP 0 ops.toList=true)
  (hQ:∀G a w,Rel (λi=>i<c1) B d up s1 ρ G a w->a.tmps.size=nt->Q .normal a w):
  ∀(BL:Nat) (listed:Array Bool) (a:Act) (w:World),listed.size=ops.size->Aj listed.toList<=BL->KR ops (om listed)->
   (∃G,Rel (MD c0 its (om listed)) B d up (nr (om listed) 0 s0 its) ρ G a w)->a.tmps.size=nt->wpAny P .any ops Q BL listed a w:=by
 have awV:(ru [] ops.toList).length=ops.size:=by rw[S_];simp
 have gone:∀(listed:Array Bool),listed.size=ops.size->Region.ready .any ops listed=[]->∀j,j<ops.size->om listed j=true:=by
  intro listed hs hr j
  induction j using Nat.strongRecOn with
  |_ j ih=>
   intro hj
   cases hd:om listed j with
   |true=>rfl
   |false=>
    exfalso
    have ho:ops[j]?=some ops[j]:=Array.getElem?_eq_getElem hj
    have:j∈Region.ready .any ops listed:=by
     rw[mem_ready]
     refine⟨?_,ops[j],ho,λe he hb=>?_⟩
     ·unfold om at hd
      rw[Array.getD_eq_getD_getElem?]at hd⊢
      rw[Array.getElem?_eq_getElem (by omega)]at hd⊢
      simpa using hd
     ·have bC:=S' hfw j ops[j] (by simp) e (by simpa using he) hb
      have bC:e.on<j:=by omega
      exact ih e.on bC (by omega)
    rw[hr]at this
    cases this
 have fin:∀(listed:Array Bool) (a:Act) (w:World),listed.size=ops.size->Region.ready .any ops listed=[]->(∃G,Rel (MD c0 its (om listed)) B d up (nr (om listed) 0 s0 its) ρ G a w)->a.tmps.size=nt->Q .normal a w:=by
  rintro listed a w hs hr ⟨G,oq⟩ pM
  have qZ:=gone listed hs hr
  rw[hc.last λm hm=>by rw[Nat.zero_add];exact qZ m (by omega)]at oq
  refine hQ G a w (oq.mono λj hj=>?_) pM
  rcases hj with h1|⟨m,it,hm,_,_,h3⟩
  ·exact Nat.lt_of_lt_of_le h1 hc.le
  ·exact Nat.lt_of_lt_of_le h3 (hc.get m it hm).2.2.2
 intro BL
 induction BL with
 |zero=>
  intro listed a w hs hf _ hr pM
  have h0:∀j,j<ops.size->om listed j=true:=by
   intro j hj
   have:=Tb listed.toList (by omega) j (by simp;omega)
   unfold om
   rw[Array.getD_eq_getD_getElem?,<-Array.getElem?_toList,this]
   rfl
  have hre:Region.ready .any ops listed=[]:=by
   cases hl:Region.ready .any ops listed with
   |nil=>rfl
   |cons j l=>
    exfalso
    have hm:j∈Region.ready .any ops listed:=by rw[hl];simp
    obtain⟨h1,o,ho,_⟩:=mem_ready.1 hm
    have hj:j<ops.size:=(Array.getElem?_eq_some_iff.1 ho).1
    have:=h0 j hj
    unfold om at this
    rw[Array.getD_eq_getD_getElem?]at this h1
    rw[Array.getElem?_eq_getElem (by omega)]at this h1
    simp at this h1
    rw[this]at h1
    cases h1
  exact⟨hre,fin listed a w hs hre hr pM⟩
 |succ BL ih=>
  intro listed a w hs hf tg hr pM
  refine⟨λhre=>fin listed a w hs hre hr pM,λk hk=>?_⟩
  obtain⟨fV,o,ho,hed⟩:=mem_ready.1 hk
  obtain⟨G,oq⟩:=hr
  have ayj:k<ops.size:=(Array.getElem?_eq_some_iff.1 ho).1
  have Td:k<listed.size:=by omega
  have qH:om listed k=false:=by
   unfold om
   rw[Array.getD_eq_getD_getElem?]at fV⊢
   rw[Array.getElem?_eq_getElem Td]at fV⊢
   simpa using fV
  obtain⟨it,D5⟩:∃it,its[k]?=some it:=⟨its[k]'(by omega),List.getElem?_eq_getElem (by omega)⟩
  obtain⟨b,hb⟩:∃b,(ru [] ops.toList)[k]?=some b:=⟨_,List.getElem?_eq_getElem (by omega)⟩
  obtain⟨g1,g2,g3,g4⟩:=hc.get k it D5
  have Te:(its.map Item.tr)[k]?=some it.tr:=by rw[List.getElem?_map,D5];rfl
  have Tf:∀e∈o.after.toList,Region.binds .any e=true->om listed e.on=true:=λe he hbd=>hed e (by simpa using he) hbd
  have before:∀m' jr,its[m']?=some jr->m'<k->om listed m'=false->vO jr.tr it.tr=true:=by
   intro m' jr hm bC hd
   rcases KN cV k m' it.tr jr.tr b Te hb (by simpa using bC) (by rw[List.nil_append,List.getElem?_map,hm];rfl)with h1|h1
   ·rw[ahV tg ho Tf hb h1]at hd;cases hd
   ·exact h1
  have behind:∀m' jr,its[m']?=some jr->k<m'->om listed m'=true->vO it.tr jr.tr=true:=by
   intro m' jr hm bC hd
   have hml:m'<ops.size:=by rw[<-hlen];exact(List.getElem?_eq_some_iff.1 hm).1
   obtain⟨b',km⟩:∃b',(ru [] ops.toList)[m']?=some b':=⟨_,List.getElem?_eq_getElem (by omega)⟩
   rcases KN cV m' k jr.tr it.tr b' (by rw[List.getElem?_map,hm];rfl) km (by simpa using bC) (by rw[List.nil_append];exact Te)with h1|h1
   ·rw[Ta tg m' b' k hd km h1]at qH;cases qH
   ·exact h1
  have uq:∀r∈it.rd,(nr (om listed) 0 s0 its).get r=(nr (λ_=>true) 0 s0 (its.take k)).get r:=by
   intro r hr
   refine S7 rfl (by omega) (λm' jr hm bC hd=>?_) (λm' jr hm hle hd=>?_)
   ·rw[Nat.zero_add]at hd;exact(KM (before m' jr hm bC hd)).1 r hr
   ·rw[Nat.zero_add]at hd
    by_cases he:m'=k
    ·subst he;rw[qH]at hd;cases hd
    ·exact(KM (behind m' jr hm (by omega) hd)).2.2 r hr
  have KT:∀j,it.lo<=j->j<it.hi->¬MD c0 its (om listed) j:=by
   rintro j h1 h2 (h3|⟨m,jr,hm,hd,h3,h4⟩)
   ·omega
   ·rcases Nat.lt_trichotomy m k with bC|heq|RJ
    ·have:=hc.apart m k jr it hm D5 bC;omega
    ·subst heq;rw[qH]at hd;cases hd
    ·have:=hc.apart k m it jr D5 hm RJ;omega
  rw[Nat.zero_add]at g1
  refine g1 (MD c0 its (om listed)) (nr (om listed) 0 s0 its) G a w _ uq oq pM KT λG' a' w' jG J4=>?_
  have Fz:=ahW (i:=k) Td
  refine ih (listed.setIfInBounds k true) a' w' (by simp[hs]) ?_ ?_ ?_ J4
  ·have:=KS listed.toList k (by
    unfold om at qH
    rw[Array.getD_eq_getD_getElem?,<-Array.getElem?_toList]at qH
    rw[List.getElem?_eq_getElem (by simpa using Td)]at qH⊢
    simpa using qH)
   rw[Array.toList_setIfInBounds]
   omega
  ·rw[Fz]
   intro j oj hj hoj e he hbd
   unfold qn at hj⊢
   by_cases hjk:j=k
   ·subst hjk
    rw[ho]at hoj
    cases hoj
    by_cases II:e.on=j
    ·simp[II]
    ·rw[if_neg II];exact Tf e he hbd
   ·rw[if_neg hjk]at hj
    by_cases II:e.on=k
    ·simp[II]
    ·rw[if_neg II];exact tg j oj hj hoj e he hbd
  ·refine⟨G',?_⟩
   rw[Fz]
   refine(jG.mono ?_).congr λr=>?_
   ·rintro j (h1|⟨h1,h2⟩)
    ·rcases h1 with h1|⟨m,jr,hm,hd,h3⟩
     ·exact .inl h1
     ·exact .inr ⟨m,jr,hm,by unfold qn;split<;>simp_all,h3⟩
    ·exact .inr ⟨k,it,D5,by simp[qn],h1,h2⟩
   ·have:=S6 (D:=om listed) (i:=0) D5 (by rw[Nat.zero_add];exact qH) (s:=s0) (λm' jr hm bC hd r=>by
     rw[Nat.zero_add]at hd
     rcases(KM (behind m' jr hm bC hd)).2.1 r with h1|h1
     ·exact .inr h1
     ·exact .inl h1) r
    rw[Nat.zero_add]at this
    exact this.symm
end
section
variable {B:ft} {f:Fr} {S:Nat->aA} {P:Program} {cx:Cx} {dW:pd} {df fP:Nat} {R:Nat} {Q:Exit->Act->World->Prop} {ops:Array Oper} {out:List T} {K0:Zb}
theorem Tg(E:Env P cx S)(hn:∀o∈ops.toList,∀n,o.dst=some n->n<f.nt){fin:List Tr->KP}{K:List aA}:
  ∀(os:List Oper) (i:Nat) (tr:List Tr) (lv:Nat) (s:St) (ct:Ct) (fs:kl) (p:PL) (ρ:List T),ops.toList.drop i=os->tQ cx dW df fP f.d ops true fin os i tr lv s ct fs=some p->
   p.den S R K ρ=some out->ρ.length=ct.a->dE fs ρ->∃its iM e s' jU p',its.length=os.length∧
    (∀e',jd (λi it s=>yO P ops Q B f.d f.up f.nt (ρ++e++e') i it.rd it.wr it.lo it.hi s) i s ct.i its s' iM.i)∧
    fin (tr++its.map Item.tr) lv s' iM jU=some p'∧p'.den S R K (ρ++e)=some out∧(ρ++e).length=iM.a∧dE jU (ρ++e)
 | [],i,tr,lv,s,ct,fs,p,ρ,_,h,hp,hl,hf=>by
  refine⟨[],ct,[],s,fs,p,rfl,λe'=>.nil,?_,by rw[List.append_nil];exact hp,by rw[List.append_nil];exact hl,by rw[List.append_nil];exact hf⟩
  rw[List.map_nil,List.append_nil];exact h
 |o::os,i,tr,lv,s,ct,fs,p,ρ,KK,h,hp,hl,hf=>by
  have ho:ops[i]?=some o:=by
   rw[<-Array.getElem?_toList]
   have:=congrArg (·[0]?) KK
   simpa using this
  have iA:=hn o (List.mem_of_mem_drop (i:=i) (by rw[KK];simp))
  have Fx:ops.toList.drop (i+1)=os:=by
   rw[<-List.drop_drop,KK];rfl
  rcases SX (P:=P) (Q:=Q) (B:=B) (up:=f.up) (nt:=f.nt) (R:=R) (K:=K) (out:=out) E ho iA (show AP cx dW df fP f.d ops true o i (tQ cx dW df fP f.d ops true fin os (i+1)) tr lv s ct fs=some p from h) hp hl hf with
   ⟨rd,wr,iM,e,jU,p',D5,hle,rB,qL,kW,Qr⟩|⟨hd,_⟩
  ·obtain⟨its,ct2,e2,s2,fs2,p2,q1,q2,q3,q4,q5,q6⟩:=Tg E hn os (i+1) _ lv _ iM jU p' (ρ++e) Fx rB qL kW Qr
   refine⟨⟨rd,wr,ct.i,iM.i⟩::its,ct2,e++e2,s2,fs2,p2,by simp[q1],λe'=>.cons ?_ rfl hle ?_,?_,by rw[<-List.append_assoc];exact q4,by rw[<-List.append_assoc];exact q5,by rw[<-List.append_assoc];exact q6⟩
   ·have:=D5 (e2++e')
    simp only[List.append_assoc]at this⊢
    exact this
   ·have:=q2 e'
    simp only[List.append_assoc]at this⊢
    exact this
   ·simp only[List.map_cons,Item.tr]
    rw[List.append_assoc]at q3
    exact q3
  ·cases hd
theorem Rel.drew{M:Nat->Prop}{d:Nat}{up:Nat->Nat->Value}{s:St}{ρ:List T}{G:Gh}{a:Act}{w:World}(h:Rel M B d up s ρ G a w):Rel M B d up s ρ G a {w with drawn:=w.drawn+1}:=by
 have k:dM (λ_=>False) (λ_=>False) G w G {w with drawn:=w.drawn+1}:=⟨Nat.le_refl _,λ_ _ h=>⟨h,rfl⟩,λ_ _ h=>h,λ_ _ h _=>⟨h,rfl⟩,λ_ _=>⟨rfl,λ_ _=>rfl⟩⟩
 exact⟨λe n he=>(h.tm e n he).bw k λ_ _ hf=>hf,λb=>(h.bx b).bw k (λhf=>hf) (λhf=>hf) λ_ _ hf=>hf,λi=>(h.ob i).bw k (λ_ hf=>hf) (λhf=>hf) λ_ _ hf=>hf,h.gA,h.key,h.iP,h.dn,
  ⟨h.base.os,h.base.tape,h.base.output,h.base.size,h.base.free,h.base.DR,h.base.gl⟩,h.bt⟩
theorem Th(E:Env P cx S)(hI:Fw P S R out B dW)(xr:P.follows .mixedOrders=true)(hn:∀o∈ops.toList,∀n,o.dst=some n->n<f.nt){id:Nat}{draw:Bool}{k:KP}(hk:Ai S R out B f K0 k (Q .normal))
  {lv:Nat}{s:St}{ct:Ct}{fs:kl}{p:PL}{a:Act}{w:World}
  (h:tQ cx dW df fP f.d ops draw (λtr lv s ct fs=>bif draw then bif vQ [] tr (ru [] ops.toList)&&vP 0 ops.toList then k lv s ct fs else some (.rQ (df*100000000+100000+id) [])else k lv s ct fs) ops.toList 0 [] lv s ct fs=some p)
  (bR:At S R out B f K0 XT p lv s ct fs a w):(Code.region id ops draw).wp P Q a w:=by
 cases draw with
 |false=>
  refine wp_region ?_
  rw[List.range_eq_range',<-Array.length_toList]
  exact SZ E hI hn (fin:=λtr lv s ct fs=>k lv s ct fs) (λtr=>hk) ops.toList 0 [] lv s ct fs p a w rfl h bR
 |true=>
  refine wp_region_any xr ?_
  obtain⟨K,ρ,G,h1,h2,h3,⟨e0,h0⟩,h4,h5,h6,h7,_⟩:=bR
  obtain⟨its,iM,e,s',jU,p',q1,q2,q3,q4,q5,q6⟩:=Tg (Q:=Q) (B:=B) E hn ops.toList 0 [] lv s ct fs p ρ rfl h h1 h4 h5
  simp only[List.nil_append,cond_true]at q3
  cases hc:(vQ [] (its.map Item.tr) (ru [] ops.toList)&&vP 0 ops.toList)with
  |false=>
   rw[hc]at q3
   simp only[cond_false,bP]at q3
   subst q3
   cases q4
  |true=>
   rw[hc]at q3
   simp only[cond_true]at q3
   simp only[bL]at hc
   have hch:=q2 []
   rw[List.append_nil]at hch
   have eo:∀j,om (Array.replicate ops.size false) j=false:=by
    intro j
    unfold om
    rw[Array.getD_eq_getD_getElem?,Array.getElem?_replicate]
    split<;>rfl
   refine ahX (B:=B) hch (by rw[q1];simp) hc.1 hc.2 (λG a w hr hs=>hk lv s' iM jU p' a w q3 ⟨K,ρ++e,G,q4,h2,h3,⟨e0++e,by rw[h0,List.append_assoc]⟩,q5,q6,hr,hs,trivial⟩) ops.size _ a _ (by simp)
    (by rw[Array.toList_replicate,Tc];exact Nat.le_refl _) (λj o hj=>by rw[eo j]at hj;cases hj) ⟨G,?_⟩ h7
   rw[S1 λm _=>eo _]
   exact(h6.ext.drew).mono λi hi=>.inl hi
end
theorem KU:∀{p q:nh},vS p q=true->p=q
 | [],[],_=>rfl
 |(x,w,j)::p,(x',w',j')::q,h=>by
  simp only[vS,bL]at h
  obtain⟨⟨⟨h1,h2⟩,h3⟩,h4⟩:=h
  rw[Lf.beq_eq h1,ew h2,ew h3,KU h4]
 | [],_::_,h=>by simp[vS]at h
 |_::_,[],h=>by simp[vS]at h
theorem Ce.beq_eq{c e:Ce}(h:c.beq e=true):c=e:=by
 cases c<;>cases e<;>simp only[Ce.beq,bL]at h<;>try cases h
 ·rw[Lf.beq_eq h]
 ·rename_i h1 h2;rw[ew h1,KU h2]
 ·rfl
 ·rfl
theorem KV:∀{cs es:List Ce},vT cs es=true->cs=es
 | [],[],_=>rfl
 |c::cs,e::es,h=>by simp only[vT,bL]at h;rw[Ce.beq_eq h.1,KV h.2]
 | [],_::_,h=>by simp[vT]at h
 |_::_,[],h=>by simp[vT]at h
theorem Ti:∀{cs es:List Nat},yh cs es=true->cs=es
 | [],[],_=>rfl
 |c::cs,e::es,h=>by simp only[yh,bL]at h;rw[ew h.1,Ti h.2]
 | [],_::_,h=>by simp[yh]at h
 |_::_,[],h=>by simp[yh]at h
theorem Tj:∀{cs es:List (Bool×List Ce)},yi cs es=true->cs=es
 | [],[],_=>rfl
 |(a,c)::cs,(b,e)::es,h=>by
  simp only[yi,bL,beq_iff_eq]at h
  rw[h.1.1,KV h.1.2,Tj h.2]
 | [],_::_,h=>by simp[yi]at h
 |_::_,[],h=>by simp[yi]at h
theorem SV.beq_eq{v u:SV}(h:v.beq u=true):v=.un∨v=u:=by
 cases v with
 |un=>exact .inl rfl
 |v a cs=>
  cases u with
  |v b es=>simp only[SV.beq,bL,beq_iff_eq]at h;rw[h.1,KV h.2];exact .inr rfl
  |_=>simp[SV.beq]at h
 |pt b o=>
  cases u with
  |pt b o=>simp only[SV.beq,bL]at h;rw[ew h.1,ew h.2];exact .inr rfl
  |_=>simp[SV.beq]at h
 |ep i q x w o=>
  cases u with
  |ep i q x w o=>
   simp only[SV.beq,bL]at h
   obtain⟨⟨⟨⟨h1,h2⟩,h3⟩,h4⟩,h5⟩:=h
   rw[ew h1,KU h2,Lf.beq_eq h3,ew h4,ew h5];exact .inr rfl
  |_=>simp[SV.beq]at h
 |fp s x w o=>
  cases u with
  |fp s x w o=>
   simp only[SV.beq,bL]at h
   obtain⟨⟨⟨h1,h2⟩,h3⟩,h4⟩:=h
   rw[Lf.beq_eq h1,Lf.beq_eq h2,ew h3,ew h4];exact .inr rfl
  |_=>simp[SV.beq]at h
 |tp vs=>
  cases u with
  |tp us=>simp only[SV.beq]at h;rw[Tj h];exact .inr rfl
  |_=>simp[SV.beq]at h
 |cl f bs=>
  cases u with
  |cl f bs=>simp only[SV.beq,bL]at h;rw[ew h.1,Ti h.2];exact .inr rfl
  |_=>simp[SV.beq]at h
 |ob d x=>
  cases u with
  |ob d x=>simp only[SV.beq,bL,beq_iff_eq]at h;rw[h.1,Lf.beq_eq h.2];exact .inr rfl
  |_=>simp[SV.beq]at h
 |fz p x=>
  cases u with
  |fz q y=>
   simp only[SV.beq,bL]at h
   have e2:=Lf.beq_eq h.2
   subst e2
   have h1:=h.1
   cases p with
   |z=>
    cases q with
    |z=>exact .inr rfl
    |w=>simp[Pv.beq]at h1
   |w t x0 l=>
    cases q with
    |z=>simp[Pv.beq]at h1
    |w t' x0' l'=>
     simp only[Pv.beq,bL]at h1
     rw[ew h1.1.1,Lf.beq_eq h1.1.2,Lf.beq_eq h1.2];exact .inr rfl
  |_=>simp[SV.beq]at h
 |tk x m=>
  cases u with
  |tk y n=>simp only[SV.beq,bL]at h;rw[Lf.beq_eq h.1,Lf.beq_eq h.2];exact .inr rfl
  |_=>simp[SV.beq]at h
 |fl x=>
  cases u with
  |fl x=>simp only[SV.beq]at h;rw[Lf.beq_eq h];exact .inr rfl
  |_=>simp[SV.beq]at h
 |fr x=>
  cases u with
  |fr x=>simp only[SV.beq]at h;rw[Lf.beq_eq h];exact .inr rfl
  |_=>simp[SV.beq]at h
def yP(n:Nat)(ρ pN:List T):Prop:=∀m,m<n->ρ[m]?=pN[m]?
theorem xv{a b:Nat}(h:Nat.blt a b=true):a<b:=Nat.lt_of_succ_le (by simpa[Nat.blt]using h)
section
variable {G:Gh} {w:World} {ρ pN:List T} {n i:Nat}
theorem Lf.gS(ha:yP n ρ pN){x:Lf}(h:x.jF n=true):x.gh ρ=x.gh pN:=by
 cases x with
 |k v=>rfl
 |a m=>exact ha m (xv h)
 |e=>rfl
theorem FA(ha:yP n ρ pN){x:Lf}(h:x.jF n=true):ma ρ x=ma pN x:=by unfold ma;rw[Lf.gS ha h]
theorem Tk(ha:yP n ρ pN):∀{q:nh},yj n q=true->hY ρ q=hY pN q
 | [],_=>rfl
 |(x,w,j)::q,h=>by
  simp only[yj,bL]at h
  simp only[hY,FA ha h.1,Tk ha h.2]
theorem Tl(ha:yP n ρ pN){id:Nat}{q:nh}(h:yj n q=true):lH ρ id q=lH pN id q:=by
 cases q with
 |nil=>rfl
 |cons x q=>simp only[lH];rw[Tk ha h]
theorem gD.sB(ha:yP n ρ pN){c:Ce}{v:Value}(hb:c.jF n i=true)(h:gD G w ρ c v):gD G w pN c v:=by
 cases c with
 |p x=>obtain⟨t,h1,h2⟩:=h;exact⟨t,by rw[<-Lf.gS ha hb];exact h1,h2⟩
 |o id q=>
  simp only[Ce.jF,bL]at hb
  obtain⟨p,h1,h2⟩:=h
  exact⟨p,by rw[<-Tl ha hb.2];exact h1,h2⟩
 |n=>exact h
 |d=>exact h
theorem bu.sB(ha:yP n ρ pN):∀{cs:List Ce} {vs:List Value},pX n i cs=true->bu G w ρ cs vs->bu G w pN cs vs
 | [],[],_,_=>trivial
 |c::cs,v::vs,hb,h=>by
  simp only[pX,bL]at hb
  exact⟨h.1.sB ha hb.1,bu.sB ha hb.2 h.2⟩
 | [],_::_,_,h=>h.elim
 |_::_,[],_,h=>h.elim
theorem fH.sB(ha:yP n ρ pN){ag:Bool}{cs:List Ce}{c:Value}(hb:pX n i cs=true)(h:fH G w ρ ag cs c):fH G w pN ag cs c:=by
 cases ag with
 |true=>obtain⟨vs,h1,h2⟩:=h;exact⟨vs,h1,h2.sB ha hb⟩
 |false=>
  obtain⟨x,rfl,h2,h3⟩:=h
  simp only[pX,Bool.and_true]at hb
  exact⟨x,rfl,h2.sB ha hb,h3⟩
theorem gR.sB(ha:yP n ρ pN):∀{cs:List (Bool×List Ce)} {vs:List Value},yk n i cs=true->gR G w ρ cs vs->gR G w pN cs vs
 | [],[],_,_=>trivial
 |c::cs,v::vs,hb,h=>by
  simp only[yk,bL]at hb
  exact⟨h.1.sB ha hb.1,gR.sB ha hb.2 h.2⟩
 | [],_::_,_,h=>h.elim
 |_::_,[],_,h=>h.elim
theorem cR.sB(ha:yP n ρ pN){v:SV}{c:Value}(hb:v.jF n i=true)(h:cR G w ρ v c):cR G w pN v c:=by
 cases v with
 |un=>trivial
 |v ag cs=>exact fH.sB ha hb h
 |pt b off=>exact h
 |ep id q ix wd off=>
  simp only[SV.jF,bL]at hb
  obtain⟨p,b,m,cap,j,h1,h2,h3,h4⟩:=h
  exact⟨p,b,m,cap,j,by rw[<-Tl ha hb.1.2];exact h1,h2,by rw[<-FA ha hb.2];exact h3,h4⟩
 |fp s ix wd off=>
  simp only[SV.jF,bL]at hb
  obtain⟨xs,j,r,b,base,h1,h2,h3⟩:=h
  exact⟨xs,j,r,b,base,by rw[<-Lf.gS ha hb.1];exact h1,by rw[<-FA ha hb.2];exact h2,h3⟩
 |tp vs=>obtain⟨us,h1,h2⟩:=h;exact⟨us,h1,h2.sB ha hb⟩
 |cl f bs=>exact h
 |ob dp x=>exact h
 |fz pv x=>exact h
 |tk x m=>exact h
 |fl x=>exact h
 |fr x=>exact h
theorem gy.sB(ha:yP n ρ pN){b:Nat}{v:SV}(hb:v.jF n i=true)(h:gy G w ρ b v):gy G w pN b v:=by
 cases v with
 |v ag cs=>obtain⟨h1,arr,elem,h2,h3⟩:=h;exact⟨h1,arr,elem,h2,h3.sB ha hb⟩
 |_=>exact h
theorem cS.sB(ha:yP n ρ pN){b:Nat}{v:SV}(hb:v.jF n i=true)(h:cS G w ρ b v):cS G w pN b v:=by
 cases v with
 |ob dp x=>obtain⟨t,h1,h2⟩:=h;exact⟨t,by rw[<-Lf.gS ha hb];exact h1,h2⟩
 |fz pv x=>
  simp only[SV.jF,bL]at hb
  obtain⟨t,h1,h2,h3⟩:=h
  refine⟨t,by rw[<-Lf.gS ha hb.2];exact h1,h2,?_⟩
  have mM:=hb.1
  cases pv with
  |z=>trivial
  |w tk x0 lo=>
   simp only[Pv.jF,bL]at mM
   obtain⟨g0,F,n,zs,g1,g2,g3⟩:=h3
   exact⟨g0,F,n,zs,by rw[<-Lf.gS ha mM.1.2];exact g1,by rw[<-FA ha mM.2];exact g2,g3⟩
 |tk x m=>
  simp only[SV.jF,bL]at hb
  obtain⟨h0,F,u,h1,h2,h3⟩:=h
  exact⟨h0,F,u,by rw[<-Lf.gS ha hb.1];exact h1,by rw[<-Lf.gS ha hb.2];exact h2,h3⟩
 |fl x=>obtain⟨h0,t,h1,h2⟩:=h;exact⟨h0,t,by rw[<-Lf.gS ha hb];exact h1,h2⟩
 |fr x=>obtain⟨h0,t,h1,h2⟩:=h;exact⟨h0,t,by rw[<-Lf.gS ha hb];exact h1,h2⟩
 |_=>exact h
theorem IJ:∀{cs:List Ce},pX n i cs=true->∀j∈dZ cs,j<i
 | [],_,j,hj=>by simp[dZ]at hj
 |c::cs,h,j,hj=>by
  simp only[pX,bL]at h
  cases c with
  |o id q=>
   simp only[Ce.jF,bL]at h
   simp only[dZ,List.mem_cons]at hj
   rcases hj with rfl|hj
   ·exact xv h.1.1
   ·exact IJ h.2 j hj
  |p x=>exact IJ h.2 j hj
  |n=>exact IJ h.2 j hj
  |d=>exact IJ h.2 j hj
theorem Tm:∀{vs:List (Bool×List Ce)},yk n i vs=true->∀j∈rY vs,j<i
 | [],_,j,hj=>by simp[rY]at hj
 |v::vs,h,j,hj=>by
  simp only[yk,bL]at h
  simp only[rY,List.mem_append]at hj
  rcases hj with hj|hj
  ·exact IJ h.1 j hj
  ·exact Tm h.2 j hj
theorem SV.pO{v:SV}(h:v.jF n i=true):∀j∈dI v,j<i:=by
 intro j hj
 cases v with
 |un=>simp[dI]at hj
 |v ag cs=>exact IJ h j hj
 |pt b off=>simp[dI]at hj;subst hj;exact xv h
 |ep id q ix wd off=>simp[dI]at hj;subst hj;simp only[SV.jF,bL]at h;exact xv h.1.1
 |fp s ix wd off=>simp[dI]at hj
 |tp vs=>exact Tm h j hj
 |cl f bs=>simp only[SV.jF,List.all_eq_true]at h;exact xv (h j (by simpa[dI]using hj))
 |ob dp x=>simp[dI]at hj
 |fz pv x=>
  cases pv with
  |z=>simp[dI]at hj
  |w tk x0 lo=>simp[dI]at hj;subst hj;simp only[SV.jF,Pv.jF,bL]at h;exact xv h.1.1.1
 |tk x m=>simp[dI]at hj
 |fl x=>simp[dI]at hj
 |fr x=>simp[dI]at hj
end
theorem Tn{i0 i1:Nat}{all:Ren}:∀{rn:Ren},tS i0 i1 all rn=true->∀j x,(j,x)∈rn->i0<=j∧j<i1∧∀id,x=some id->nw all id=some j
 | [],_,j,x,h=>by simp at h
 |(j0,x0)::rn,h,j,x,hm=>by
  simp only[tS,bL]at h
  obtain⟨⟨⟨⟨h1,h2⟩,_⟩,h3⟩,h4⟩:=h
  rcases List.mem_cons.1 hm with hm|hm
  ·cases hm
   refine⟨Nat.le_of_ble_eq_true h1,xv h2,λid he=>?_⟩
   subst he
   simp only[bL]at h3
   have h3:=h3.2
   split at h3
   ·rename_i k hk;rw[hk,ew h3]
   ·cases h3
  ·exact Tn h4 j x hm
theorem To{i0 i1:Nat}{all:Ren}:∀{rn:Ren},tS i0 i1 all rn=true->∀j x,(j,x)∈rn->j%2=0
 | [],_,j,x,h=>by simp at h
 |(j0,x0)::rn,h,j,x,hm=>by
  simp only[tS,bL]at h
  obtain⟨⟨⟨⟨h1,h2⟩,h0⟩,h3⟩,h4⟩:=h
  rcases List.mem_cons.1 hm with hm|hm
  ·cases hm;exact ew h0
  ·exact To h4 j x hm
theorem Tp{i0 i1:Nat}{all:Ren}:∀{rn:Ren},tS i0 i1 all rn=true->∀j id,(j,some id)∈rn->id%4≠2
 | [],_,j,x,h=>by simp at h
 |(j0,x0)::rn,h,j,id,hm=>by
  simp only[tS,bL]at h
  obtain⟨⟨⟨⟨h1,h2⟩,h0⟩,h3⟩,h4⟩:=h
  rcases List.mem_cons.1 hm with hm|hm
  ·cases hm
   simp only[bL,Bool.not_eq_true']at h3
   intro e
   have:=h3.1
   rw[e]at this
   cases this
  ·exact Tp h4 j id hm
theorem Tq{s:St}{a0 i0:Nat}{rn:Ren}:∀{h:St},EL s a0 i0 rn h=true->∀r v,(r,v)∈h->v=.un∨(v=s.get r∧v.jF a0 i0=true∧(∀id,r=.o id->id<i0∧nw rn id=none)∧∀b,r=.x b->b<i0)
 | [],_,r,v,hm=>by simp at hm
 |(r0,v0)::h,hc,r,v,hm=>by
  simp only[EL,bL]at hc
  rcases List.mem_cons.1 hm with hm|hm
  ·obtain⟨rfl,rfl⟩:=Prod.mk.inj hm
   have oS:=hc.1
   rw[Bool.or_eq_true]at oS
   rcases oS with hu|h4
   ·cases v<;>first|exact .inl rfl|cases hu
   ·simp only[bL]at h4
    obtain⟨⟨h1,h2⟩,h3⟩:=h4
    rcases SV.beq_eq h1 with hu|he
    ·exact .inl hu
    ·refine .inr ⟨he,h2,λid he=>?_,λb he=>?_⟩
     ·subst he
      simp only[Rb,bL]at h3
      refine⟨xv h3.1,?_⟩
      have h4:=h3.2
      split at h4
      ·rename_i hn;exact hn
      ·cases h4
     ·subst he;exact xv h3
  ·exact Tq hc.2 r v hm
theorem wC{a0:Nat}{xs:List Lf}{n:Nat}{x:Lf}(h:oa a0 xs n x=true){oZ ρ:List T}(hl:oZ.length=a0):(oZ++xs.map (Lf.ev ρ))[n]?=some (x.ev ρ):=by
 simp only[oa,bL]at h
 have h1:=Nat.le_of_ble_eq_true h.1
 have h2:=h.2
 split at h2
 ·rename_i y hy
  rw[List.getElem?_append_right (by omega),hl,List.getElem?_map,hy,Lf.beq_eq h2]
  rfl
 ·cases h2
theorem Ts{s:St}{a0 i0:Nat}{xs:List Lf}{rn:Ren}:∀{h:St},vV s a0 i0 xs rn h=true->∀r v,(r,v)∈h->(∃j dp n,r=.o j∧v=.ob dp (.a n)∧
  ((∃id x,nW rn j=some (some id)∧s.get (.o id)=.ob dp x∧oa a0 xs n x=true)∨(nW rn j=some none∧oa a0 xs n .e=true)∨
   (∃x,nW rn j=none∧j<i0∧nw rn j=none∧s.get (.o j)=.ob dp x∧oa a0 xs n x=true)))∨
  ∃j x n m,r=.o j∧v=.tk x (.a n)∧j<i0∧nw rn j=none∧x.jF a0=true∧s.get (.o j)=.tk x m∧oa a0 xs n m=true
 | [],_,r,v,hm=>by simp at hm
 |(r0,v0)::h,hc,r,v,hm=>by
  have j1:vV s a0 i0 xs rn h=true:=by
   unfold vV at hc
   split at hc
   ·rename_i he;cases he
   ·rename_i j dp n ps he;cases he;simp only[bL]at hc;exact hc.2
   ·rename_i j x n ps he;cases he;rw[bL]at hc;exact hc.2
   ·cases hc
  rcases List.mem_cons.1 hm with hm|hm
  ·cases hm
   unfold vV at hc
   split at hc
   ·rename_i he;cases he
   ·rename_i j dp n ps he
    cases he
    simp only[bL]at hc
    refine .inl ⟨j,dp,n,rfl,rfl,?_⟩
    have h1:=hc.1
    split at h1
    ·rename_i id hid
     simp only[bL]at h1
     have h2:=h1.2
     split at h2
     ·rename_i uZ x hx
      simp only[bL,beq_iff_eq]at h2
      exact .inl ⟨id,x,hid,by rw[h2.1];exact hx,h2.2⟩
     ·cases h2
    ·rename_i hid
     simp only[bL]at h1
     exact .inr (.inl ⟨hid,h1.2⟩)
    ·rename_i hid
     simp only[bL]at h1
     obtain⟨⟨h2,h3⟩,h4⟩:=h1
     have FB:nw rn j=none:=by
      split at h3
      ·rename_i hn;exact hn
      ·cases h3
     split at h4
     ·rename_i uZ x hx
      simp only[bL,beq_iff_eq]at h4
      exact .inr (.inr ⟨x,hid,xv h2,FB,by rw[h4.1];exact hx,h4.2⟩)
     ·cases h4
   ·rename_i j x n ps he
    cases he
    rw[bL]at hc
    have h1:=hc.1
    simp only[bL]at h1
    obtain⟨⟨⟨h2,h3⟩,h4⟩,h5⟩:=h1
    have FB:nw rn j=none:=by
     split at h3
     ·rename_i hn;exact hn
     ·cases h3
    split at h5
    ·rename_i y m hx
     simp only[bL]at h5
     exact .inr ⟨j,x,n,m,rfl,rfl,xv h2,FB,h4,by rw[Lf.beq_eq h5.1];exact hx,h5.2⟩
    ·cases h5
   ·cases hc
  ·exact Ts j1 r v hm
theorem Tt{s:St}{a0 i0:Nat}{xs:List Lf}{rn:Ren}:∀{h:St},ym s a0 i0 xs rn h=true->∀r v,(r,v)∈h->∃ag hs cs,v=.v ag hs∧s.get r=.v ag cs∧pY s a0 i0 xs rn cs hs=true∧(∀j,r≠.o j)∧∀b,r=.x b->b<i0
 | [],_,r,v,hm=>by simp at hm
 |(r0,v0)::h,hc,r,v,hm=>by
  have j1:ym s a0 i0 xs rn h=true:=by
   unfold ym at hc
   split at hc
   ·rename_i he;cases he
   ·rename_i he;cases he;simp only[bL]at hc;exact hc.2
   ·cases hc
  rcases List.mem_cons.1 hm with hm|hm
  ·cases hm
   unfold ym at hc
   split at hc
   ·rename_i he;cases he
   ·rename_i r' ag hs ps he
    cases he
    simp only[bL]at hc
    obtain⟨⟨h1,h2⟩,_⟩:=hc
    split at h2
    ·rename_i xb cs kZ
     simp only[bL,beq_iff_eq]at h2
     refine⟨ag,hs,cs,rfl,by rw[h2.1];exact kZ,h2.2,(λj he=>by subst he;cases h1),λb he=>by subst he;exact xv h1⟩
    ·cases h2
   ·cases hc
  ·exact Tt j1 r v hm
def Gh.hX(G:Gh)(i0:Nat)(rn:Ren):Gh where
 ω:=λb=>match G.ω b with
  |some .f=>some .f
  |some (.x j)=>if j<i0 then some (.x j)else none
  |some (.o j p)=>match nw rn j with
   |some k=>some (.o k p)
   |none=>if j<i0 then some (.o j p)else none
  |none=>none
 β:=G.β
 H:=λj=>match nW rn j with
  |some (some id)=>G.H id
  |some none=>λ_=>.slice none 0 0
  |none=>G.H j
 hs:=λj p=>by
  rcases hr:nW rn j with _|(_|id)
  ·exact G.hs j p
  ·exact⟨_,_,_,rfl⟩
  ·exact G.hs _ p
section
variable {M:Nat->Prop} {B:ft} {d:Nat} {up:Nat->Nat->Value} {ρ:List T} {G:Gh} {a:Act} {w:World} {s:St}
def Gh.rD(G:Gh)(id tk:Nat):Gh where
 ω:=λb=>match G.ω b with
  |some (.o i p)=>if i=id then(match p with| []=>none|x::p=>some (.o tk (x::p)))else some (.o i p)
  |l=>l
 β:=G.β
 H:=λi=>if i=tk then G.H id else G.H i
 hs:=λi p=>by
  by_cases h:i=tk
  ·simp only[h,if_true];exact G.hs id p
  ·simp only[h,if_false];exact G.hs i p
theorem ahZ{id tk:Nat}(ht:tk%4=2){I:Lb->Prop}(hI:∀p,I (.o id p)):dM I (λi=>i=tk) G w (G.rD id tk) w:=by
 refine⟨Nat.le_refl _,λb _ hb=>⟨tT hb (λh0=>by simp[Gh.rD,h0]) λl hl hq=>?_,rfl⟩,λb _ hb=>by simp[Gh.rD,hb],λb l hl hn=>⟨?_,rfl⟩,λi hi=>⟨rfl,λp _=>by simp[Gh.rD,hi]⟩⟩
 ·cases l with
  |o i p=>
   simp only[Gh.rD,hl]
   split
   ·cases p with
    |nil=>exact .inl rfl
    |cons x p=>exact .inr ⟨_,rfl,JI ht⟩
   ·exact .inr ⟨_,rfl,hq⟩
  |_=>simp[qt]at hq
 ·cases l with
  |o i p=>
   have:i≠id:=λe=>hn (e▸hI p)
   simp[Gh.rD,hl,this]
  |_=>simp[Gh.rD,hl]
theorem Rel.ah0(h:Rel M B d up s ρ G a w){id tk:Nat}{x:Lf}(hx:s.get (.o id)=.ob true x)(ht:tk%4=2)(hM:¬M tk){M':Nat->Prop}(Ah:∀i,M i∨i=tk->M' i):
  ∃G',Rel M' B d up ((s.set (.o id) (.fz (.w tk x (.k (.int .i64 0))) x)).set (.o tk) (.tk x x)) ρ G' a w:=by
 have ui:M id:=h.key id (.inr (by rw[hx];simp))
 have dU:id≠tk:=λe=>hM (e▸ui)
 obtain⟨t,jJ,b8⟩:=(by simpa only[hx]using h.ob id:cS G w ρ id (.ob true x))
 obtain⟨xs,rfl⟩:∃ys,t=.l ys:=by cases b8<;>exact⟨_,rfl⟩
 have mF:∀i j ys,eg xs i j=some (.l ys)->fG (G.rD id tk) w tk true [(i,j)] (.l ys):=by
  intro i j ys bR
  refine(b8.rows i j ys bR).move rfl (λb q hb=>⟨?_,rfl⟩) λq=>?_
  ·simp only[List.cons_append,List.nil_append]at hb⊢
   simp[Gh.rD,hb]
  ·simp[Gh.rD]
 have jW:∀p,oQ [(bN.o tk,SV.tk x x),(bN.o id,SV.fz (.w tk x (.k (.int .i64 0))) x)] (.o id p):=by
  intro p
  show St.look _ (bN.o id)≠none
  simp only[St.look]
  cases(bN.o tk).beq (.o id)<;>simp[(bN.beq_iff (r:=bN.o id)).2 rfl]
 have KW:(G.rD id tk).H id []=G.H id []:=by simp[Gh.rD,dU]
 refine⟨G.rD id tk,(h.R9 (M':=M') (N:=λi=>i=tk) (W:=[(.o tk,.tk x x),(.o id,.fz (.w tk x (.k (.int .i64 0))) x)]) (ahZ ht jW) (λi hi=>by subst hi;exact hM) (λi hi=>Ah i (.inl hi)) (λr u hl=>?_) λb l hb=>?_).congr λr=>?_⟩
 ·rcases j9 hl with⟨e1,e2⟩|hl
  ·subst e1 e2
   refine⟨tk,rfl,⟨ht,xs,xs,jJ,jJ,rfl,λi r hr _=>⟨hr,λj ys hy=>mF i j ys (by simp[eg,hr,hy])⟩⟩,Ah tk (.inr rfl),λi hi=>by simp[dI]at hi⟩
  ·rcases j9 hl with⟨e1,e2⟩|hl
   ·subst e1 e2
    refine⟨id,rfl,⟨.l xs,jJ,?_,ht,xs,0,xs,jJ,by simp[ma,Lf.gh,kV],rfl,λi r hr=>by rw[Nat.zero_add];exact hr,?_,λ_ b off k c hv=>?_⟩,Ah id (.inl ui),λi hi=>by simp[dI]at hi;subst hi;exact Ah _ (.inr rfl)⟩
    ·rw[KW]
     cases b8 with
     |nil hH=>rw[hH];exact .nil
     | @l _ _ _ b wd cap arr elem cv g1 g2 g3 g4 g5 g6 g7 g8 g9 g10 g11=>
      rw[g1]
      refine .l (cv:=cv) g6 g2.1 (AY (by simp[Gh.rD,g3])) (Qe g4) (λi j t ht=>by rw[yq g4,Nat.zero_add];exact g7 i j t ht) λi j t jZ=>?_
      cases t with
      |c v=>obtain⟨hv,hs⟩:=g8 i j v jZ;rw[hv];exact .c hs
      |l ys=>
       have e:=g10 i j ys jZ rfl
       simp only[List.nil_append]at e
       rw[e]
       have:=(mF i j ys jZ).Rk (.inl ht) rfl
       rwa[show(G.rD id tk).H tk=G.H id by simp[Gh.rD]]at this
    ·rw[KW]
     intro b off k c hv
     cases b8 with
     |nil hH=>rw[hH]at hv;cases hv
     | @l _ _ _ b0 wd cap arr elem cv g1 g2 g3 g4 g5 g6 g7 g8 g9 g10 g11=>
      rw[g1]at hv
      cases hv
      refine⟨wd,g6,λi j ys bR=>?_⟩
      rw[yq g4,Nat.zero_add,g7 i j _ bR,g10 i j ys bR rfl]
      simp[Gh.rD]
    ·rw[KW]at hv
     cases b8 with
     |nil hH=>rw[hH]at hv;cases hv
     |l g1=>rw[g1]at hv;cases hv;rfl
   ·cases hl
 ·cases hg:G.ω b with
  |none=>simp[Gh.rD,hg]at hb
  |some l0=>
   have ug:=h.iP b l0 hg
   refine⟨?_,ug.2⟩
   cases l0 with
   |o i p=>
    simp only[Gh.rD,hg]at hb
    split at hb
    ·cases p with
     |nil=>cases hb
     |cons x p=>cases hb;exact Ah tk (.inr rfl)
    ·cases hb;exact Ah _ (.inl ug.1)
   |_=>simp[Gh.rD,hg]at hb;subst hb;exact Ah _ (.inl ug.1)
 ·simp only[St.fS]
theorem Rel.iZ:∀{js:List (Nat×Bool)} {cs:List Ce} {s:St} {ct:Ct} {G:Gh},Rel (λi=>i<ct.i) B d up s ρ G a w->
  (∃G',Rel (λi=>i<(Go.Proofs.YtjimmglpkndemaaGreatC.iZ s ct cs js).2.i) B d up (Go.Proofs.YtjimmglpkndemaaGreatC.iZ s ct cs js).1 ρ G' a w)∧(Go.Proofs.YtjimmglpkndemaaGreatC.iZ s ct cs js).2.a=ct.a∧ct.i<=(Go.Proofs.YtjimmglpkndemaaGreatC.iZ s ct cs js).2.i
 | [],cs,s,ct,G,h=>⟨⟨G,h⟩,rfl,Nat.le_refl _⟩
 |(j,b)::js,cs,s,ct,G,h=>by
  unfold Go.Proofs.YtjimmglpkndemaaGreatC.iZ
  split
  ·rename_i id _
   split
   ·rename_i x hx
    cases he:Nat.beq (id%2) 0 with
    |false=>exact Rel.iZ h
    |true=>
     simp only[cond_true]
     have hle:=Q7 ct.i
     obtain⟨G',h'⟩:=h.ah0 hx (Q8 ct.i) (by omega) (M':=λi=>i<nj ct.i+1) (λi hi=>by rcases hi with hi|hi<;>omega)
     obtain⟨g1,g2,g3⟩:=Rel.iZ (js:=js) (cs:=cs) (ct:=⟨ct.a,nj ct.i+1⟩) h'
     exact⟨g1,g2,Nat.le_trans (by show ct.i<=nj ct.i+1;omega) g3⟩
   ·exact Rel.iZ h
  ·exact Rel.iZ h
theorem Rel.j7{d':Nat}:∀{js:Js} {s:St} {ct:Ct} {G:Gh},Rel (λi=>i<ct.i) B d up s ρ G a w->
  (∃G',Rel (λi=>i<(Go.Proofs.YtjimmglpkndemaaGreatC.j7 d' s ct js).2.i) B d up (Go.Proofs.YtjimmglpkndemaaGreatC.j7 d' s ct js).1 ρ G' a w)∧(Go.Proofs.YtjimmglpkndemaaGreatC.j7 d' s ct js).2.a=ct.a∧ct.i<=(Go.Proofs.YtjimmglpkndemaaGreatC.j7 d' s ct js).2.i
 | [],s,ct,G,h=>⟨⟨G,h⟩,rfl,Nat.le_refl _⟩
 |(n,bx,.rows rj)::l,s,ct,G,h=>by
  simp only[Go.Proofs.YtjimmglpkndemaaGreatC.j7]
  obtain⟨⟨G',h'⟩,g2,g3⟩:=h.iZ (js:=rj) (cs:=pe (s.get (pW d' s n bx)))
  obtain⟨f1,f2,f3⟩:=Rel.j7 (d':=d') (js:=l) h'
  exact⟨f1,f2.trans g2,Nat.le_trans g3 f3⟩
 |(n,bx,.drop)::l,s,ct,G,h=>Rel.j7 (js:=l) h
 |(n,bx,.aH _ _)::l,s,ct,G,h=>Rel.j7 (js:=l) h
theorem Rel.BM:∀{l:List (Nat×Bool)} {s:St} {G:Gh},Rel M B d up s ρ G a w->∃G',Rel M B d up (tR s l) ρ G' a w∧iR G G'
 | [],s,G,h=>⟨G,h,.refl _⟩
 |(id,all)::l,s,G,h=>by
  simp only[tR]
  split
  ·rename_i dp x hx
   cases all with
   |true=>obtain⟨G',h1,h2⟩:=Rel.BM (l:=l) (h.mj hx);exact⟨G',h1,(G.og id true).trans h2⟩
   |false=>obtain⟨G',h1,h2⟩:=Rel.BM (l:=l) (h.flat hx);exact⟨G',h1,(G.og id false).trans h2⟩
  ·exact Rel.BM (l:=l) h
theorem Rel.iO:∀{js:List (Nat×Bool)} {cs:List Ce} {s:St} {G:Gh},Rel M B d up s ρ G a w->∃G',Rel M B d up (Go.Proofs.YtjimmglpkndemaaGreatC.iO s cs js) ρ G' a w
 | [],cs,s,G,h=>⟨G,h⟩
 |(j,all)::js,cs,s,G,h=>by
  simp only[Go.Proofs.YtjimmglpkndemaaGreatC.iO]
  split
  ·split
   ·rename_i dp x hx
    cases all with
    |true=>exact Rel.iO (js:=js) (h.mj hx)
    |false=>exact Rel.iO (js:=js) (h.flat hx)
   ·exact Rel.iO (js:=js) h
  ·exact Rel.iO (js:=js) h
theorem Rel.jT{d':Nat}:∀{js:Js} {s:St} {G:Gh},Rel M B d up s ρ G a w->∃G',Rel M B d up (Go.Proofs.YtjimmglpkndemaaGreatC.jT d' s js) ρ G' a w
 | [],s,G,h=>⟨G,h⟩
 |(n,bx,.rows js)::l,s,G,h=>by
  simp only[Go.Proofs.YtjimmglpkndemaaGreatC.jT]
  obtain⟨G',h'⟩:=h.iO (js:=js) (cs:=pe (s.get (pW d' s n bx)))
  exact Rel.jT (js:=l) h'
 |(n,bx,.drop)::l,s,G,h=>Rel.jT (js:=l) h
 |(n,bx,.aH _ _)::l,s,G,h=>Rel.jT (js:=l) h
theorem Tu{a0 i0 i1:Nat}{xs:List Lf}{rn:Ren}(hi:∀j x,nW rn j=some x->j<i1)(Tv:i0<=i1):∀{cs hs:List Ce},pY s a0 i0 xs rn cs hs=true->∀j∈dZ hs,j<i1
 | [],[],_,j,hj=>by simp[dZ]at hj
 |c::cs,h::hs,hc,j,hj=>by
  simp only[pY,bL]at hc
  rw[yo]at hj
  rcases List.mem_append.1 hj with hj|hj
  ·have h1:=hc.1
   unfold JC at h1
   rw[Bool.or_eq_true]at h1
   rcases h1 with h1|h1
   ·simp only[bL]at h1
    exact Nat.lt_of_lt_of_le (IJ (n:=a0) (i:=i0) (by simp[pX,h1.2]) j hj) Tv
   ·split at h1
    ·simp[dZ]at hj
    ·simp[dZ]at hj
    ·simp[dZ]at hj
    ·simp only[bL]at h1
     have h2:=h1.2
     split at h2
     ·rename_i sA;simp[dZ]at hj;subst hj;exact hi _ _ sA
     ·cases h2
    ·simp only[bL]at h1
     have h2:=h1.2
     split at h2
     ·rename_i sA;simp[dZ]at hj;subst hj;exact hi _ _ sA
     ·cases h2
    ·simp[dZ]at hj
    ·cases h1
  ·exact Tu hi Tv hc.2 j hj
 | [],_::_,hc,_,_=>by simp[pY]at hc
 |_::_,[],hc,_,_=>by simp[pY]at hc
theorem Tw{G':Gh}{a0 i0:Nat}{xs:List Lf}{rn:Ren}{oZ e:List T}(hr:Rel M B d up s (oZ++e) G a w)(hl:oZ.length=a0)(k:dM (λl=>True) (λj=>¬j<i0) G w G' w)
  (hH:∀j x,nW rn j=some x->G'.H j=match x with|some id=>G.H id|none=>λ_=>.slice none 0 0):
  ∀{cs hs:List Ce} {vs:List Value},pY s a0 i0 xs rn cs hs=true->bu G w (oZ++e) cs vs->bu G' w (oZ++xs.map (Lf.ev (oZ++e))) hs vs
 | [],[],[],_,_=>trivial
 |c::cs,h::hs,v::vs,hc,oq=>by
  simp only[pY,bL]at hc
  refine⟨?_,Tw hr hl k hH hc.2 oq.2⟩
  have yQ:yP a0 (oZ++e) (oZ++xs.map (Lf.ev (oZ++e))):=λm hm=>by
   rw[List.getElem?_append_left (by omega),List.getElem?_append_left (by omega)]
  have h1:=hc.1
  have rB:=oq.1
  clear hc oq
  unfold JC at h1
  rw[Bool.or_eq_true]at h1
  rcases h1 with h1|h1
  ·simp only[bL]at h1
   have:=Ce.beq_eq h1.1
   subst this
   have hb:∀j∈dZ [h],j<i0:=IJ (n:=a0) (by simp[pX,h1.2])
   exact(rB.sB yQ h1.2).bw k λj hj hn=>hn (hb j hj)
  ·split at h1
   ·rename_i n x
    obtain⟨t,ht,hd⟩:=rB
    exact⟨t,by rw[<-Lf.cb ht];exact wC h1 hl,hd.bw k.size k.free⟩
   ·rename_i n
    have hv:v=.slice none 0 0:=rB
    subst hv
    exact⟨.l [],wC h1 hl,.nil⟩
   ·rename_i n id
    split at h1
    ·rename_i x hx
     have eU:=hr.ob id
     rw[hx]at eU
     obtain⟨t,ht,hd,_⟩:=eU
     obtain⟨p,hp,hv⟩:=rB
     simp only[mB,bP]at hp
     subst hp
     rw[hv]
     exact⟨t,by rw[<-Lf.cb ht];exact wC h1 hl,hd.bw k.size k.free⟩
    ·cases h1
   ·rename_i j
    simp only[bL]at h1
    have h2:=h1.2
    split at h2
    ·rename_i sA
     have hv:v=.slice none 0 0:=rB
     subst hv
     exact⟨[],rfl,by rw[hH _ _ sA]⟩
    ·cases h2
   ·rename_i j id
    simp only[bL]at h1
    have h2:=h1.2
    split at h2
    ·rename_i id' sA
     have:=ew h2
     subst this
     obtain⟨p,hp,hv⟩:=rB
     simp only[mB,bP]at hp
     subst hp
     exact⟨[],rfl,by rw[hH _ _ sA];exact hv⟩
    ·cases h2
   ·exact rB.one
   ·cases h1
 | [],_::_,_,hc,_=>by simp[pY]at hc
 |_::_,[],_,hc,_=>by simp[pY]at hc
 | [],[],_::_,_,h=>h.elim
 |_::_,_::_,[],_,h=>h.elim
theorem Tx{h:Head}{xs:List Lf}{d':Nat}{oZ e:List T}(hm:Go.Proofs.YtjimmglpkndemaaGreatC.hX d' h s=some xs)(hr:Rel M B d up s (oZ++e) G a w)(hl:oZ.length=h.c0.a)(iS:∀i b,B.bt i=some b->i<h.c0.i):
  (oZ++xs.map (Lf.ev (oZ++e))).length=h.ct.a∧∃G',Rel (λi=>i<h.ct.i) B d up h.st (oZ++xs.map (Lf.ev (oZ++e))) G' a w:=by
 unfold Go.Proofs.YtjimmglpkndemaaGreatC.hX at hm
 simp only[cU]at hm
 obtain⟨⟨xs',rn⟩,_,hm⟩:=hm
 obtain⟨G1,hr,_⟩:=hr.BM (l:=vU d' h.s0 s h.js)
 generalize tR s (vU d' h.s0 s h.js)=s1 at hm hr
 cases hc:JD h s1 xs' rn with
 |false=>simp[hc]at hm
 |true=>
  simp only[hc,cond_true,bP]at hm
  subst hm
  unfold JD at hc
  simp only[bL]at hc
  obtain⟨⟨⟨⟨⟨⟨c1,c2⟩,c3⟩,c4⟩,c5⟩,c6⟩,c7⟩:=hc
  have hlen:=ew c1
  have IK:=Nat.le_of_ble_eq_true c3
  have ah1:=xv c2
  have BN:=Tn c4
  refine⟨by rw[List.length_append,List.length_map,hl,hlen],G1.hX h.c0.i rn,?_⟩
  have yQ:yP h.c0.a (oZ++e) (oZ++xs'.map (Lf.ev (oZ++e))):=λm hm=>by
   rw[List.getElem?_append_left (by omega),List.getElem?_append_left (by omega)]
  have wD:∀b,G1.ω b=none->(G1.hX h.c0.i rn).ω b=none:=λb hb=>by simp[Gh.hX,hb]
  have eo:∀b,G1.q b=none->(G1.hX h.c0.i rn).q b=none:=λb hb=>by
   refine tT hb (wD b) λl hl hq=>?_
   cases l with
   |o j p=>
    simp only[Gh.hX,hl]
    cases sA:nw rn j with
    |some k=>
     refine .inr ⟨.o k p,rfl,wb (To c4 _ _ (yL sA)) λe=>?_⟩
     subst e
     rw[rX (Tp c4 _ _ (yL sA))]at hq
     cases hq
    |none=>
     by_cases hj:j<h.c0.i
     ·exact .inr ⟨.o j p,by simp[hj],hq⟩
     ·exact .inl (by simp[hj])
   |_=>simp[qt]at hq
  have nA:∀j,j<h.c0.i->(G1.hX h.c0.i rn).H j=G1.H j:=by
   intro j hj
   have:nW rn j=none:=by
    cases sA:nW rn j with
    |none=>rfl
    |some x=>have:=(BN j x (yM sA)).1;omega
   simp[Gh.hX,this]
  have hHr:∀j x,nW rn j=some x->(G1.hX h.c0.i rn).H j=match x with|some id=>G1.H id|none=>λ_=>.slice none 0 0:=by
   intro j x hj
   show(match nW rn j with|some (some id)=>G1.H id|some none=>_|none=>G1.H j)=_
   rw[hj]
   cases x<;>rfl
  have kI:dM (λl=>match l with| .f=>False| .x j=>¬j<h.c0.i| .o j _=>nw rn j≠none∨¬j<h.c0.i) (λj=>¬j<h.c0.i) G1 w (G1.hX h.c0.i rn) w:=by
   refine⟨Nat.le_refl _,λb _ hb=>⟨eo b hb,rfl⟩,λb _ hb=>wD b hb,λb l hb hl=>⟨?_,rfl⟩,λj hj=>⟨rfl,λp _=>by rw[nA j (Decidable.not_not.1 hj)]⟩⟩
   cases l with
   |f=>simp[Gh.hX,hb]
   |x j=>simp only[Gh.hX,hb];rw[if_pos (Decidable.not_not.1 hl)]
   |o j p=>
    have h1:nw rn j=none:=by
     cases sA:nw rn j with
     |none=>rfl
     |some k=>exact absurd (.inl (by rw[sA];simp)) hl
    have h2:j<h.c0.i:=Decidable.not_not.1 λhn=>hl (.inr hn)
    simp only[Gh.hX,hb,h1];rw[if_pos h2]
  have kT:=kI.mono (I':=λ_=>True) (λ_ _=>trivial) λ_ hn=>hn
  have b8:∀r v,(r,v)∈h.own->∃j,r=.o j∧j<h.ct.i∧cS (G1.hX h.c0.i rn) w (oZ++xs'.map (Lf.ev (oZ++e))) j v∧dI v=[]:=by
   intro r v hm
   rcases Ts c6 r v hm with⟨j,dp,n,rfl,rfl,nF⟩|⟨j,x,n,m,rfl,rfl,h1,h2,h3,h4,h5⟩
   case inr=>
    refine⟨j,rfl,by omega,?_,rfl⟩
    have eU:=hr.ob j
    rw[h4]at eU
    obtain⟨g0,F,u,g1,g2,g3,g4⟩:=eU
    refine⟨g0,F,u,by rw[<-Lf.gS yQ h3];exact g1,by rw[<-Lf.cb g2];exact wC h5 hl,g3,λi r hi dU=>⟨(g4 i r hi dU).1,λc ys hy=>((g4 i r hi dU).2 c ys hy).bw kI (λp hp=>?_) λhn=>hn h1⟩⟩
    rcases hp with hp|hp
    ·exact hp h2
    ·exact hp h1
   rcases nF with⟨id,x,h1,h2,h3⟩|⟨h1,h3⟩|⟨x,h1,h2,h3,h4,h5⟩
   ·obtain⟨q1,q2,q3⟩:=BN j (some id) (yM h1)
    refine⟨j,rfl,q2,?_,rfl⟩
    have eU:=hr.ob id
    rw[h2]at eU
    obtain⟨t,ht,ho⟩:=eU
    refine⟨t,by rw[<-Lf.cb ht];exact wC h3 hl,?_⟩
    have n3:=q3 id rfl
    have iE:∀c p,G1.ω c=some (.o id p)->(G1.hX h.c0.i rn).ω c=some (.o j p):=λc p j3=>by simp[Gh.hX,j3,n3]
    have hHj:=hHr j _ h1
    cases dp with
    |true=>exact ho.move rfl (λc p j3=>⟨iE c p j3,rfl⟩) λp=>by rw[hHj]
    |false=>exact ho.ql (λc j3=>iE c [] j3) (by rw[hHj]) eo
   ·obtain⟨q1,q2,_⟩:=BN j none (yM h1)
    exact⟨j,rfl,q2,⟨.l [],wC h3 hl,.nil (by rw[hHr j _ h1])⟩,rfl⟩
   ·refine⟨j,rfl,by omega,?_,rfl⟩
    have eU:=hr.ob j
    rw[h4]at eU
    obtain⟨t,ht,ho⟩:=eU
    refine⟨t,by rw[<-Lf.cb ht];exact wC h5 hl,ho.bw kI (λp hp=>?_) λhn=>hn h2⟩
    rcases hp with hp|hp
    ·exact hp h3
    ·exact hp h2
  have ij:∀r v,(r,v)∈h.new->∃ag hs cs,v=.v ag hs∧s1.get r=.v ag cs∧(∀vs,bu G1 w (oZ++e) cs vs->bu (G1.hX h.c0.i rn) w (oZ++xs'.map (Lf.ev (oZ++e))) hs vs)∧(∀j∈dI v,j<h.ct.i)∧(∀j,r≠.o j)∧∀b,r=.x b->b<h.c0.i:=by
   intro r v hm
   obtain⟨ag,hs,cs,rfl,h1,h2,h3,h4⟩:=Tt c7 r v hm
   exact⟨ag,hs,cs,rfl,h1,λvs hv=>Tw hr hl kT hHr h2 hv,λj hj=>Tu (i1:=h.ct.i) (λj x hj=>(BN j x (yM hj)).2.1) IK h2 j hj,h3,h4⟩
  have cn:∀r,h.st.get r=.un∨(r,h.st.get r)∈h.kept∨(r,h.st.get r)∈h.own∨(r,h.st.get r)∈h.new:=by
   intro r
   rw[St.tV]
   cases Bi:h.st.look r with
   |none=>exact .inl rfl
   |some v=>
    have:=Fj Bi
    simp only[Head.st,List.mem_append]at this
    exact .inr (by simpa[or_assoc]using this)
  have ur:=Tq c5
  refine⟨λx n hx=>?_,λb=>?_,λi=>?_,λr i hi=>?_,λi hi=>?_,λb l hb=>?_,hr.dn,?_,λi b hb=>⟨Nat.lt_of_lt_of_le (iS i b hb) IK,(hr.bt i b hb).2⟩⟩
  ·rcases cn (.t x n)with hu|hm|hm|hm
   ·rw[hu];trivial
   ·rcases ur _ _ hm with hu|⟨he,hb,_,_⟩
    ·rw[hu];trivial
    ·rw[he]
     rw[he]at hb
     exact((hr.tm x n hx).sB yQ hb).bw kT λj hj hn=>hn (SV.pO hb j hj)
   ·obtain⟨j,e1,_⟩:=b8 _ _ hm;cases e1
   ·obtain⟨ag,hs,cs,e1,e2,e3,_⟩:=ij _ _ hm
    rw[e1]
    have:=hr.tm x n hx
    rw[e2]at this
    cases ag with
    |true=>obtain⟨vs,g1,g2⟩:=this;exact⟨vs,g1,e3 vs g2⟩
    |false=>
     obtain⟨c,rfl,g2,g3⟩:=this
     have:=e3 [oP up d a x n] ⟨g2,trivial⟩
     match hs,this with
     | [c'],this=>exact⟨c',rfl,this.1,g3⟩
  ·rcases cn (.x b)with hu|hm|hm|hm
   ·rw[hu];trivial
   ·rcases ur _ _ hm with hu|⟨he,hb,_,hxb⟩
    ·rw[hu];trivial
    ·rw[he]
     rw[he]at hb
     have bC:=hxb b rfl
     exact((hr.bx b).sB yQ hb).bw kI (λhf=>hf bC) (λhn=>hn bC) λj hj hn=>hn (SV.pO hb j hj)
   ·obtain⟨j,e1,_⟩:=b8 _ _ hm;cases e1
   ·obtain⟨ag,hs,cs,e1,e2,e3,_,_,e4⟩:=ij _ _ hm
    rw[e1]
    have:=hr.bx b
    rw[e2]at this
    obtain⟨g1,arr,elem,g2,g3⟩:=this
    refine⟨?_,arr,elem,g2,e3 _ g3⟩
    show(G1.hX h.c0.i rn).ω (G1.β b)=_
    simp only[Gh.hX,g1]
    rw[if_pos (e4 b rfl)]
  ·rcases cn (.o i)with hu|hm|hm|hm
   ·rw[hu];trivial
   ·rcases ur _ _ hm with hu|⟨he,hb,hoi,_⟩
    ·rw[hu];trivial
    ·rw[he]
     rw[he]at hb
     obtain⟨q1,q2⟩:=hoi i rfl
     refine((hr.ob i).sB yQ hb).bw kI (λp hp=>?_) (λhn=>hn q1) λj hj hn=>hn (SV.pO hb j hj)
     rcases hp with hp|hp
     ·exact hp q2
     ·exact hp q1
   ·obtain⟨j,e1,_,e2,_⟩:=b8 _ _ hm;cases e1;exact e2
   ·obtain⟨ag,hs,cs,e1,e2,e3,_,e4,_⟩:=ij _ _ hm;exact absurd rfl (e4 i)
  ·rcases cn r with hu|hm|hm|hm
   ·rw[hu]at hi;simp[dI]at hi
   ·rcases ur _ _ hm with hu|⟨he,hb,_,_⟩
    ·rw[hu]at hi;simp[dI]at hi
    ·exact Nat.lt_of_lt_of_le (SV.pO hb i hi) IK
   ·obtain⟨j,_,_,_,e2⟩:=b8 _ _ hm;rw[e2]at hi;cases hi
   ·obtain⟨ag,hs,cs,e1,e2,e3,e4,_⟩:=ij _ _ hm;exact e4 i hi
  ·have key:∀r:bN,(r=.x i∨r=.o i)->h.st.get r≠.un->i<h.ct.i:=by
    intro r Tz dU
    rcases cn r with hu|hm|hm|hm
    ·exact absurd hu dU
    ·rcases ur _ _ hm with hu|⟨he,hb,g1,g2⟩
     ·exact absurd hu dU
     ·rcases Tz with rfl|rfl
      ·exact Nat.lt_of_lt_of_le (g2 i rfl) IK
      ·exact Nat.lt_of_lt_of_le (g1 i rfl).1 IK
    ·obtain⟨j,e1,e2,_⟩:=b8 _ _ hm
     rcases Tz with rfl|rfl
     ·cases e1
     ·cases e1;exact e2
    ·obtain⟨ag,hs,cs,e1,e2,e3,_,e4,e5⟩:=ij _ _ hm
     rcases Tz with rfl|rfl
     ·exact Nat.lt_of_lt_of_le (e5 i rfl) IK
     ·exact absurd rfl (e4 i)
   rcases hi with hi|hi
   ·exact key _ (.inl rfl) hi
   ·exact key _ (.inr rfl) hi
  ·cases ol:G1.ω b with
   |none=>simp[Gh.hX,ol]at hb
   |some l'=>
    have bC:=(hr.iP b l' ol).2
    refine⟨?_,bC⟩
    cases l' with
    |f=>simp[Gh.hX,ol]at hb;subst hb;exact ah1
    |x j=>
     simp only[Gh.hX,ol]at hb
     split at hb
     ·rename_i hj;cases hb;exact Nat.lt_of_lt_of_le hj IK
     ·cases hb
    |o j p=>
     simp only[Gh.hX,ol]at hb
     split at hb
     ·rename_i k hk
      cases hb
      exact(BN k _ (yL hk)).2.1
     ·split at hb
      ·rename_i hj;cases hb;exact Nat.lt_of_lt_of_le hj IK
      ·cases hb
  ·obtain⟨b1,b2,b3,b4,b5,b6,b7⟩:=hr.base
   refine⟨b1,b2,b3,b4,λb hb h0=>⟨wD b (b5 b hb h0).1,(b5 b hb h0).2⟩,λb hb=>⟨by simp[Gh.hX,(b6 b hb).1],(b6 b hb).2⟩,b7⟩
end
def FC:Ex->Exit
 | .normal=>.normal
 | .exit id=>.exit id
 | .ret=>.ret
section
variable {B:ft} {f:Fr} {S:Nat->aA} {P:Program} {cx:Cx} {dW:pd} {df fP:Nat} {R:Nat} {out:List T}
theorem Ai.ext{Z Z':Zb}{k:KP}{Ψ:Act->World->Prop}(h:Ai S R out B f Z k Ψ)(hK:∃pre,Z'.K=pre++Z.K)(nq:∃e,Z'.ρ=Z.ρ++e):Ai S R out B f Z' k Ψ:=by
 rintro lv s ct fs p a w hk ⟨K,ρ,G,h1,h2,⟨pre,h3⟩,⟨e,h4⟩,h5⟩
 obtain⟨ah3,h6⟩:=hK
 obtain⟨e',h7⟩:=nq
 exact h lv s ct fs p a w hk ⟨K,ρ,G,h1,h2,⟨pre++ah3,by rw[h3,h6,List.append_assoc]⟩,⟨e'++e,by rw[h4,h7,List.append_assoc]⟩,h5⟩
theorem TA{K:List aA}{ρ:List T}{J:aA}{h:Head}{lv tag:Nat}{Ψ:Act->World->Prop}(hlv:K.length=lv)(hl:ρ.length=h.c0.a)(iS:∀i b,B.bt i=some b->i<h.c0.i)
  (hJ:∀ts a w G,J ts=some out->(ρ++ts).length=h.ct.a->Rel (λi=>i<h.ct.i) B f.d f.up h.st (ρ++ts) G a w->a.tmps.size=f.nt->Ψ a w):Ai S R out B f ⟨J::K,ρ⟩ (Rc f.d h lv tag) Ψ:=by
 rintro lv2 s' iM jU p a w hk ⟨K2,FD,G,h1,h2,⟨pre,h3⟩,⟨e,h4⟩,h5,h6,h7,h8,_⟩
 unfold Rc at hk
 split at hk
 ·rename_i xs hm
  cases hk
  simp only at h3 h4
  subst h4
  obtain⟨g1,G',g2⟩:=Tx hm h7 hl iS
  simp only[PL.den]at h1
  have ah4:K2[lv2-lv-1]?=some J:=by
   rw[h3]
   have:K2.length=pre.length+(K.length+1):=by rw[h3];simp
   rw[List.getElem?_append_right (by omega),show lv2-lv-1-pre.length=0 by omega]
   rfl
  rw[ah4]at h1
  exact hJ _ a w G' h1 g1 g2 h8
 ·cases hk;cases h1
theorem KX{Z:Zb}{K0:KP}{h:Head}{lv:Nat}{fs:kl}{k b:PL}{a:Act}{w:World}{s:St}{ct:Ct}{js:Js}{Ψ:Act->World->Prop}(hh:h=DQ f.d s ct js)(hk:K0 lv h.st h.ct fs=some k)(hS:Ai S R out B f Z K0 Ψ)
  (bR:At S R out B f Z XT (.join k b) lv s ct fs a w):∃Z',(∃pre,Z'.K=pre++Z.K)∧(∃e,Z'.ρ=Z.ρ++e)∧At S R out B f Z' XT b (lv+1) s ct fs a w∧∀tag,Ai S R out B f Z' (Rc f.d h lv tag) Ψ:=by
 obtain⟨K,ρ,G,h1,h2,⟨pre,h3⟩,⟨e,h4⟩,h5,h6,h7,h8,_⟩:=bR
 simp only[PL.den]at h1
 have Is:h.c0=ct:=by rw[hh];rfl
 refine⟨⟨(λts=>k.den S R K (ρ++ts))::K,ρ⟩,⟨_::pre,by simp[h3];rfl⟩,⟨e,h4⟩,⟨_,ρ,G,h1,by simp[h2],⟨[],rfl⟩,⟨[],by simp⟩,h5,h6,h7,h8,trivial⟩,λtag=>?_⟩
 refine TA h2 (by rw[Is];exact h5) (λi b hb=>by rw[Is];exact(h7.bt i b hb).1) λts a w G' hd hl hr hs=>?_
 exact hS lv h.st h.ct fs k a w hk ⟨K,ρ++ts,G',hd,h2,⟨pre,h3⟩,⟨e++ts,by rw[h4,List.append_assoc]⟩,hl,h6.ext,hr,hs,trivial⟩
theorem At.at{Z:Zb}{X:Gh->World->List T->Prop}{p:PL}{lv:Nat}{s:St}{ct:Ct}{fs:kl}{a:Act}{w:World}(h:At S R out B f Z X p lv s ct fs a w):True:=trivial
theorem TB{Z:Zb}{c:Operand}{x y:Code}{tag lv:Nat}{s:St}{ct:Ct}{fs:kl}{p:PL}{a:Act}{w:World}{Q:Exit->Act->World->Prop}{cx' cy':kl->Option PL}
  (h:EN tag (cB f.d s.get c) cx' cy' s fs=some p)(bR:At S R out B f Z XT p lv s ct fs a w)(hx:∀fs p,cx' fs=some p->At S R out B f Z XT p lv s ct fs a w->x.wp P Q a w)
  (hy:∀fs p,cy' fs=some p->At S R out B f Z XT p lv s ct fs a w->y.wp P Q a w):(Code.cond c x y).wp P Q a w:=by
 obtain⟨K,ρ,G,h1,h2,h3,h4,h5,h6,h7,h8,_⟩:=bR
 have oq:=(DS h7 c).1
 unfold EN at h
 split at h
 ·rename_i b hd
  have hc:=Fq hd oq h6
  refine wp_cond hc ?_
  cases b with
  |true=>exact hx fs p h ⟨K,ρ,G,h1,h2,h3,h4,h5,h6,h7,h8,trivial⟩
  |false=>exact hy fs p h ⟨K,ρ,G,h1,h2,h3,h4,h5,h6,h7,h8,trivial⟩
 ·rename_i n hd
  simp only[cU,bP]at h
  obtain⟨px,hpx,py,hpy,rfl⟩:=h
  obtain⟨b,hb,hp⟩:=KI h1
  have hc:=Fq (Fu (b:=b) hd) oq (h6.cons hb)
  refine wp_cond hc ?_
  cases b with
  |true=>exact hx _ px hpx ⟨K,ρ,G,hp,h2,h3,h4,h5,h6.cons hb,h7,h8,trivial⟩
  |false=>exact hy _ py hpy ⟨K,ρ,G,hp,h2,h3,h4,h5,h6.cons hb,h7,h8,trivial⟩
 ·cases h;cases h1
 ·cases h;cases h1
theorem TC(E:Env P cx S)(hI:Fw P S R out B dW)(xr:P.follows .mixedOrders=true):∀(c:Code) (vW lv:Nat) (s:St) (ct:Ct) (fs:kl) (KE:KE) (p:PL) (a:Act) (w:World) (Z:Zb) (Q:Exit->Act->World->Prop),
  xc f.nt c=true->comp cx dW df f.d c vW lv s ct fs KE=some p->At S R out B f Z XT p lv s ct fs a w->(∀e,Ai S R out B f Z (KE e) (Q (FC e)))->c.wp P Q a w:=by
 intro c
 induction c with
 |skip=>intro vW lv s ct fs KE p a w Z Q _ h bR hK;exact wp_skip (hK .normal lv s ct fs p a w h bR)
 |label l=>intro vW lv s ct fs KE p a w Z Q _ h bR hK;exact wp_label (hK .normal lv s ct fs p a w h bR)
 |seq x y ihx ihy=>
  intro vW lv s ct fs KE p a w Z Q hd h bR hK
  simp only[xc,bL]at hd
  refine wp_seq (ihx 0 lv s ct fs _ p a w Z _ hd.1 h bR λe=>?_)
  cases e with
  |normal=>exactλlv s ct fs p a w hk bR=>ihy 0 lv s ct fs KE p a w Z Q hd.2 hk bR hK
  |exit id=>exact hK (.exit id)
  |ret=>exact hK .ret
 |region id ops draw=>
  intro vW lv s ct fs KE p a w Z Q hd h bR hK
  have hn:∀o∈ops.toList,∀n,o.dst=some n->n<f.nt:=by
   intro o ho n hn
   have:=List.all_eq_true.1 hd o ho
   rw[hn]at this
   exact xv this
  have ah5:∀p,At S R out B f Z XT p lv s ct fs a w->At S R out B f Z XT p lv (JE cx df f.d id s) ct fs a w:=by
   rintro p ⟨K,ρ,G,h1,h2,h3,h4,h5,h6,h7,h8,_⟩
   unfold JE
   cases cx.rT df 4 id with
   |none=>exact⟨K,ρ,G,h1,h2,h3,h4,h5,h6,h7,h8,trivial⟩
   |some js=>
    obtain⟨G',h7'⟩:=h7.jT (js:=js) (d':=f.d)
    exact⟨K,ρ,G',h1,h2,h3,h4,h5,h6,h7',h8,trivial⟩
  have TD:∀(s0:St) p,At S R out B f Z XT p lv s0 ct fs a w->At S R out B f Z XT p lv (EO cx df f.d id s0 ct).1 (EO cx df f.d id s0 ct).2 fs a w:=by
   rintro s0 p ⟨K,ρ,G,h1,h2,h3,h4,h5,h6,h7,h8,_⟩
   unfold EO
   cases cx.rT df 5 id with
   |none=>exact⟨K,ρ,G,h1,h2,h3,h4,h5,h6,h7,h8,trivial⟩
   |some js=>
    obtain⟨⟨G',h7'⟩,g2,_⟩:=h7.j7 (js:=js) (d':=f.d)
    exact⟨K,ρ,G',h1,h2,h3,h4,h5.trans g2.symm,h6,h7',h8,trivial⟩
  have lP:=TD _ p (ah5 p bR)
  simp only[comp]at h
  split at h
  ·exact Th E hI xr hn (hK .normal) h lP
  ·rename_i js hj
   simp only[cU,bP]at h
   obtain⟨k,hk,b,hb,rfl⟩:=h
   obtain⟨Z',z1,z2,wx,hS⟩:=KX rfl hk (hK .normal) lP
   exact Th E hI xr hn (hS _) hb wx
 |cond c x y ihx ihy=>
  intro vW lv s ct fs KE p a w Z Q hd h bR hK
  simp only[xc,bL]at hd
  simp only[comp]at h
  split at h
  ·exact TB h bR (λfs p hp bR=>ihx 0 lv s ct fs KE p a w Z Q hd.1 hp bR hK) (λfs p hp bR=>ihy 0 lv s ct fs KE p a w Z Q hd.2 hp bR hK)
  ·rename_i js hj
   simp only[cU,bP]at h
   obtain⟨k,hk,b,hb,rfl⟩:=h
   obtain⟨Z',z1,z2,wx,hS⟩:=KX rfl hk (hK .normal) bR
   have hKE:∀tag e,Ai S R out B f Z' (AV f.d (DQ f.d s ct js) lv tag KE e) (Q (FC e)):=by
    intro tag e
    cases e with
    |normal=>exact hS tag
    |exit id=>exact(hK (.exit id)).ext z1 z2
    |ret=>exact(hK .ret).ext z1 z2
   exact TB hb wx (λfs p hp bR=>ihx 0 (lv+1) s ct fs _ p a w Z' Q hd.1 hp bR (hKE _)) (λfs p hp bR=>ihy 0 (lv+1) s ct fs _ p a w Z' Q hd.2 hp bR (hKE _))
 |block id body ih=>
  intro vW lv s ct fs KE p a w Z Q hd h bR hK
  have xw:∀(Z:Zb) (KE':Go.Proofs.YtjimmglpkndemaaGreatC.KE),(∀e,Ai S R out B f Z (KE' e) (Q (FC e)))->∀e,Ai S R out B f Z (EM id KE' e) (Exit.inBlock id Q (FC e)):=by
   intro Z KE' hK e
   cases e with
   |normal=>exact hK .normal
   |ret=>exact hK .ret
   |exit i=>
    intro lv s ct fs p a w hk bR
    simp only[EM]at hk
    show(if i=id then Q .normal a w else Q (.exit i) a w)
    cases hb:Nat.beq i id with
    |true=>
     rw[hb]at hk
     rw[if_pos (ew hb)]
     exact hK .normal lv s ct fs p a w hk bR
    |false=>
     rw[hb]at hk
     rw[if_neg (λe=>by subst e;simp at hb)]
     exact hK (.exit i) lv s ct fs p a w hk bR
  simp only[comp]at h
  split at h
  ·exact wp_block (ih id lv s ct fs _ p a w Z _ hd h bR (xw Z KE hK))
  ·rename_i js hj
   simp only[cU,bP]at h
   obtain⟨k,hk,b,hb,rfl⟩:=h
   obtain⟨Z',z1,z2,wx,hS⟩:=KX rfl hk (hK .normal) bR
   refine wp_block (ih id (lv+1) s ct fs _ b a w Z' _ hd hb wx (xw Z' _ λe=>?_))
   cases e with
   |normal=>exact hS _
   |exit id=>exact(hK (.exit id)).ext z1 z2
   |ret=>exact(hK .ret).ext z1 z2
 |loop body ih=>
  intro vW lv s ct fs KE p a w Z Q hd h bR hK
  simp only[comp]at h
  split at h
  ·cases h;obtain⟨K,ρ,G,h1,_⟩:=bR;cases h1
  ·rename_i js hj
   split at h
   ·cases h;obtain⟨K,ρ,G,h1,_⟩:=bR;cases h1
   ·rename_i xs hm
    simp only[cU,bP]at h
    obtain⟨b,hb,rfl⟩:=h
    obtain⟨K,ρ,G,h1,h2,⟨pre,h3⟩,⟨e,h4⟩,h5,h6,h7,h8,_⟩:=bR
    have iS:∀i b,B.bt i=some b->i<(DQ f.d s ct js).c0.i:=λi b hb=>(h7.bt i b hb).1
    have key:∀(n:Nat) (ts:List T) (a:Act) (w:World) (G:Gh),iter (λself ts=>b.den S R (self::K) (ρ++ts)) n ts=some out->(ρ++ts).length=(DQ f.d s ct js).ct.a->
      Rel (λi=>i<(DQ f.d s ct js).ct.i) B f.d f.up (DQ f.d s ct js).st (ρ++ts) G a w->a.tmps.size=f.nt->Code.rounds P body Q n a w:=by
     intro n
     induction n with
     |zero=>intro ts a w G hi;cases hi
     |succ n ihn=>
      intro ts a w G hi hl hr hs
      rw[rounds_succ]
      refine ih 0 (lv+1) _ _ fs _ b a w ⟨iter (λself ts=>b.den S R (self::K) (ρ++ts)) n::K,ρ⟩ _ hd hb ⟨_,ρ++ts,G,hi,by simp[h2],⟨[],rfl⟩,⟨ts,rfl⟩,hl,h6.ext,hr,hs,trivial⟩ λe'=>?_
      cases e' with
      |normal=>exact TA h2 h5 iS λts a w G hJ hl hr hs=>ihn ts a w G hJ hl hr hs
      |exit id=>exact(hK (.exit id)).ext ⟨_::pre,by simp[h3];rfl⟩ ⟨e,h4⟩
      |ret=>exact(hK .ret).ext ⟨_::pre,by simp[h3];rfl⟩ ⟨e,h4⟩
    simp only[PL.den]at h1
    obtain⟨g1,G',g2⟩:=Tx (e:=[]) hm (by rw[List.append_nil];exact h7) h5 iS
    rw[List.append_nil]at g1 g2
    exact wp_loop_rounds R (key R _ a w G' h1 g1 g2 h8)
 |exit id=>intro vW lv s ct fs KE p a w Z Q _ h bR hK;exact wp_exit (hK (.exit id) lv s ct fs p a w h bR)
 |ret=>intro vW lv s ct fs KE p a w Z Q _ h bR hK;exact wp_ret (hK .ret lv s ct fs p a w h bR)
 |_=>intros;rename_i h bR _;simp only[comp,bP]at h;subst h;obtain⟨K,ρ,G,h1,_⟩:=bR;cases h1
end
end Go.Proofs.YtjimmglpkndemaaGreatC

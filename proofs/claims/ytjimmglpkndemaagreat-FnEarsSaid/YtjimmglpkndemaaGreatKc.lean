/- The walk by reflection: a part of its laws, for any function. Conditions: none. -/
import Derived.Test.YtjimmglpkndemaaGreatKb
import Derived.LoopN
namespace Go.Proofs.YtjimmglpkndemaaGreatC
set_option linter.unusedVariables false
section
variable {M:Nat->Prop} {B:eT} {d:Nat} {up:Nat->Nat->Value} {ρ:List T} {G:Gh} {a:Act} {w:World} {S:Nat->aB} {P:Program}
variable {cx:Cx} {cV ft oi:Nat} {s:St} {R:List bD} {ct:Ct} {k':Wk} {o:Oper} {Q:Exit->Act->World->Prop}
theorem S'{k kw:Wk}{G1 G2:Gh}{j:Nat}{W1:St}{V:SV}{val:Value}(h:Rel M B d up s ρ G a w)(hk:dy M B d up ρ G a w k G1)(hn:∀n,o.dst=some n->n<a.tmps.size)(hM:¬M j)
  (K:dA (qC W1) (λi=>i=j) G1 w G2 w)(SC:∀r,kw.w.look r=(W1.look r).or (k.w.look r))
  (yV:∀r u,W1.look r=some u->∃i,r=.o i∧cM G2 w ρ i u∧(M i∨i=j)∧∀x∈dt u,M x∨x=j)
  (hV:cL G2 w ρ V val)(hid:∀i∈dt V,M i∨i=j)(nI:∀b l,G2.ω b=some l->(M l.id∨l.id=j)∧b<w.heap.size)
  (hx:(execOp a.eval o).run P w=.ok (.value val) w):bT P (Mn M j (j+1)) B d up ρ a w s o (b9 d o kw V).w Q:=by
 have mn:∀{i:Nat},(M i∨i=j)->Mn M j (j+1) i:=λh=>h.imp_right λe=>by subst e;exact⟨Nat.le_refl _,Nat.lt_succ_self _⟩
 have K2:dA (qC (fA d o V++W1)) (λi=>i=j) G1 w G2 w:=K.mono (λl hl=>by
  cases l with
  |f=>exact hl
  |x b=>
   exfalso
   obtain⟨u,hu⟩:=Option.ne_none_iff_exists'.1 hl
   obtain⟨i,e1,_⟩:=yV _ _ hu
   cases e1
  |o i p=>
   show St.look _ (bD.o i)≠none
   rw[nC]
   exactλe=>hl (Option.or_eq_none_iff.1 e).2) λ_ hi=>hi
 simp only[bT,Oper.wp,hx,Oper.upon]
 refine⟨G2,J' h hk (W2:=fA d o V++W1) (z8 (W2:=W1) SC) K2 (λi hi=>by subst hi;exact hM) (λi hi=>.inl hi) (λn qH=>Kb qH) ⟨rfl,rfl,rfl⟩ ?_,Cz _ _ _⟩
 refine⟨λe n u he hl=>?_,λb u hl=>?_,λi u hl=>?_,λr u hl i hi=>?_,λi hi=>?_,λb l hb=>⟨mn (nI b l hb).1,(nI b l hb).2⟩⟩
 ·rcases l7 hl with⟨n',gO,e1,rfl⟩|hl
  ·cases e1
   rw[gO,RZ (hn _ gO)]
   exact hV
  ·obtain⟨i,e1,_⟩:=yV _ _ hl;cases e1
 ·rcases l7 hl with⟨n',gO,e1,rfl⟩|hl
  ·cases e1
  ·obtain⟨i,e1,_⟩:=yV _ _ hl;cases e1
 ·rcases l7 hl with⟨n',gO,e1,rfl⟩|hl
  ·cases e1
  ·obtain⟨i',e1,e2,_⟩:=yV _ _ hl;cases e1;exact e2
 ·rcases l7 hl with⟨n',gO,e1,rfl⟩|hl
  ·exact mn (hid i hi)
  ·obtain⟨i',e1,_,_,e4⟩:=yV _ _ hl;exact mn (e4 i hi)
 ·have:∀r:bD,(r=.x i∨r=.o i)->St.look (fA d o V++W1) r≠none->Mn M j (j+1) i:=by
   intro r hr hl
   obtain⟨u,hu⟩:=Option.ne_none_iff_exists'.1 hl
   rcases l7 hu with⟨n',gO,e1,rfl⟩|hl
   ·rcases hr with rfl|rfl<;>cases e1
   ·obtain⟨i',e1,_,e3,_⟩:=yV _ _ hl
    rcases hr with rfl|rfl
    ·cases e1
    ·cases e1;exact mn e3
  rcases hi with hi|hi
  ·exact this _ (.inl rfl) hi
  ·exact this _ (.inr rfl) hi
def Gh.al(G:Gh)(j:Nat)(v:Value)(hv:∃a n c,v=.slice a n c):Gh where
 ω:=G.ω
 β:=G.β
 H:=λi=>if i=j thenλ_=>v else G.H i
 hs:=λi p=>by
  by_cases h:i=j
  ·simp only[h,if_true];exact hv
  ·simp only[h,if_false];exact G.hs i p
theorem acP{j:Nat}{v:Value}{hv:∃a n c,v=.slice a n c}{I:Lb->Prop}:dA I (λi=>i=j) G w (G.al j v hv) w:=
 ⟨Nat.le_refl _,λb _ hb=>⟨hb,rfl⟩,λb _ hb=>hb,λb l hl _=>⟨hl,rfl⟩,λi hi=>⟨rfl,λp _=>by simp[Gh.al,hi]⟩⟩
theorem acQ{ω:Nat->Option Lb}{H:List (Nat×Nat)->Value}{n l h sz:Nat}{ao:Option Addr}{len cap:Nat}{xs:List (List T)}(hd:eP ω w (.l xs) (.slice ao len cap))(hh:qA w H n (.slice ao len cap) xs)(vJ:l<=h)(hx:h<=xs.length)(qW:xs.length<=cap)(ez:okW sz xs=true):
  qA w H (n+l) (sliced ao l h cap sz) ((xs.take h).drop l):=by
 intro b off k c hv
 unfold sliced at hv
 by_cases he:l=h
 ·refine⟨0,λr hr=>?_,λi j ys bN=>?_⟩
  ·subst he;simp at hr
  ·subst he;simp[dP]at bN
 ·have dI:¬(cap=l):=by omega
  rw[if_neg dI]at hv
  cases hd with
  |nil=>simp at hx;omega
  | @l _ b0 C5 wd0 _ cv0 g1 g2 g3 g4 g5 g6=>
   simp only[Option.map_some,Addr.add_lit]at hv
   cases hv
   obtain⟨wd,h1,h2⟩:=hh b C5 _ _ rfl
   have sA:wd=sz:=by
    cases xs with
    |nil=>simp at hx;omega
    |cons r xs=>rw[<-h1 r (by simp)];exact dU ez
   subst sA
   refine⟨wd,λr hr=>h1 r (List.mem_of_mem_take (List.mem_of_mem_drop hr)),λi j ys bN=>?_⟩
   have:=h2 _ _ _ (Kj bN)
   rw[Nat.add_mul]at this
   rw[show C5+l*wd+(i*wd+j)=C5+(l*wd+i*wd+j) by omega,this,Nat.add_assoc]
theorem acR{k k1:Wk}{G1:Gh}(hk:dy M B d up ρ G a w k G1){x:Operand}{ls:List Lf}{f:Operand->SV}(hf:cL G1 w ρ (f x) (a.eval x))
  (h:qV k f (some x)=some (k1,ls))(hd:k1.bJ S ρ):∃y t,ls=[y]∧y.fN ρ=some t∧eP (er G1.ω) w t (a.eval x):=by
 simp only[qV,cN,bF,Prod.mk.injEq]at h
 obtain⟨⟨k2,y⟩,h1,rfl,rfl⟩:=h
 obtain⟨_,_,t,e3,e4⟩:=Wk.iB hk h1 hd hf
 exact⟨y,t,rfl,e3,e4⟩
theorem acS(dW:ew P cx)(h:Rel M B d up s ρ G a w)(hn:∀n,o.dst=some n->n<a.tmps.size){t:Nat}{x:Operand}{lo hi mx:Option Operand}(ho:o.op=.slice t x lo hi mx)
  {kv:Wk×SV}(h_:(bif mx.isSome then none else Ci cx ⟨s.only R,[],ct,[]⟩ t (cz d (Wk.get ⟨s.only R,[],ct,[]⟩) x) (lo.map (cz d (Wk.get ⟨s.only R,[],ct,[]⟩))) (hi.map (cz d (Wk.get ⟨s.only R,[],ct,[]⟩))))=some kv)
  (hk:b9 d o kv.1 kv.2=k')(hd:k'.bJ S ρ)(hM:∀i,ct.i<=i->i<k'.ct.i->¬M i):bT P (Mn M ct.i k'.ct.i) B d up ρ a w s o k'.w Q:=by
 have hw:=dy.start h R ct
 cases mx with
 |some m=>simp at h_
 |none=>
  simp only[Option.isSome_none,cond_false]at h_
  have Sy:=(hw.jc x).1
  have yY:=(hw.jc x).2
  unfold Ci at h_
  split at h_
  ·rename_i id eD
   rw[eD]at Sy yY
   split at h_
   ·rename_i tk x0 l0 y hid
    simp only[cN]at h_
    obtain⟨ti,fQ,te,tX,h_⟩:=h_
    cases hc:(Nat.beq ti.kd 3&&II l0)with
    |false=>simp[hc]at h_
    |true=>
     simp only[hc,cond_true,cN,bF]at h_
     simp only[bI]at hc
     obtain⟨⟨k3,ls⟩,h1,⟨k4,hs⟩,h2,Ab⟩:=h_
     have pJ:qV ⟨s.only R,[],ct,[]⟩ (cz d (Wk.get ⟨s.only R,[],ct,[]⟩)) lo=some (k3,ls):=by
      cases lo with
      |none=>exact h1
      |some l=>exact h1
     have xI:qV k3 (cz d (Wk.get ⟨s.only R,[],ct,[]⟩)) hi=some (k4,hs):=by
      cases hi with
      |none=>exact h2
      |some l=>exact h2
     subst Ab
     have cO:b9 d o {((k4.em (.sub te.sz lo.isSome hi.isSome) (y::(ls++hs))).1.set (.o (fe k4.ct.i)) (.fz (.w tk x0 (ls.headD (.k (.int .i64 0)))) (k4.em (.sub te.sz lo.isSome hi.isSome) (y::(ls++hs))).2))with
       ct:=⟨(k4.em (.sub te.sz lo.isSome hi.isSome) (y::(ls++hs))).1.ct.a,fe k4.ct.i+1⟩} (.v false [.o (fe k4.ct.i) []])=k':=by
      rw[<-hk]
      cases lo<;>cases hi<;>rfl
     have fI:(k4.em (.sub te.sz lo.isSome hi.isSome) (y::(ls++hs))).1.bJ S ρ:=by
      rw[<-cO]at hd
      have h2:=cX.1 hd
      exact h2
     obtain⟨IP,r,hr,m_⟩:=Wk.bV fI
     have jc:∀z,cL G w ρ (cz d (Wk.get ⟨s.only R,[],ct,[]⟩) z) (a.eval z):=λz=>(hw.jc z).1
     have I2:∀{ka kb:Wk} {b:Option Operand} {zs:List Lf},qV ka (cz d (Wk.get ⟨s.only R,[],ct,[]⟩)) b=some (kb,zs)->ka.e_ kb:=by
      intro ka kb b zs hb
      unfold qV at hb
      split at hb
      ·simp only[bF,Prod.mk.injEq]at hb;obtain⟨rfl,_⟩:=hb;exact .refl _
      ·simp only[cN,bF,Prod.mk.injEq]at hb
       obtain⟨⟨k5,y5⟩,h5,rfl,_⟩:=hb
       unfold Wk.one at h5
       split at h5
       ·exact Wk.dR h5
       ·cases h5
     have s3:=I2 pJ
     have s4:=I2 xI
     obtain⟨Bq,_,qS⟩:=FJ (hw.same s3) (f:=cz d (Wk.get ⟨s.only R,[],ct,[]⟩)) (λz _=>jc z) xI IP
     obtain⟨_,_,lR⟩:=FJ hw (f:=cz d (Wk.get ⟨s.only R,[],ct,[]⟩)) (λz _=>jc z) pJ Bq
     have ej:=hw.obj id
     rw[hid]at ej
     obtain⟨tz,hy,eb,EI,F,n0,zs,hF,vP,rfl,CP,vF,CG⟩:=ej
     have zZ:n0=0:=J5 hc.2 vP
     subst zZ
     simp only[List.map_cons,Lf.bU hy]at hr
     obtain⟨xs,hxs,ez,hr⟩:=Sw hr
     cases hxs
     obtain⟨l,hh,I3,qI,tc⟩:=Kk (F:=λl h=>if 0<=l then(if l<=h then(if h<=zs.length then some (T.l ((zs.take h.toNat).drop l.toNat))else none)else none)else none) lR qS hr
     split at I3
     ·rename_i h0
      split at I3
      ·rename_i vJ
       split at I3
       ·rename_i SA
        simp only[bF]at I3
        subst I3
        obtain⟨e,he,sD,_⟩:=Sy
        cases he
        obtain⟨p,hp,iD⟩:=sD
        simp only[nz,bF]at hp
        subst hp
        have CN:=eb
        rw[<-iD]at CN
        obtain⟨ao,cap,sP,qW⟩:=CN.rows
        have hT:=dW.ty _ _ fQ
        have hE:=dW.ty _ _ tX
        obtain⟨i,zz,wV,l_,_⟩:=hE.info
        have uf:zs.length<=cap:=by
         by_cases hz:zs=[]
         ·subst hz;simp
         ·exact qW hz
        have qJ:=Sv (P:=P) (w:=w) (hT.sl (dU hc.1)) ⟨i,wV,l_⟩ (ao:=ao) uf qI tc h0 vJ SA
        rw[<-sP]at qJ
        have iW:(execOp a.eval o).run P w=.ok (.value (sliced ao l.toNat hh.toNat cap te.sz)) w:=
         Ew (x:=Instr.sliceAt t (a.eval x) (lo.map a.eval) (hi.map a.eval) none) (by unfold execOp;rw[ho];rfl) qJ
        have hsv:∃a n c,sliced ao l.toNat hh.toNat cap te.sz=.slice a n c:=by unfold sliced;exact⟨_,_,_,rfl⟩
        rw[sP]at CN
        have lY:=CN.sub (l:=l.toNat) (h:=hh.toNat) (sz:=te.sz) (by omega) (by omega) ez
        have lA:k4.ct.i=ct.i:=by rw[s4.i,s3.i]
        have qU:k'.ct.i=fe ct.i+1:=by rw[<-cO,oL,<-lA]
        have jS:=Cg ct.i
        rw[qU,<-cO,<-lA]
        refine bT.mono (M:=Mn M (fe k4.ct.i) (fe k4.ct.i+1)) ?_ (λi hi=>hi.imp_right λhi=>by rw[lA]at hi⊢;exact⟨by omega,hi.2⟩)
        have vR:M id:=yY id (by simp[dt,dN])
        have C6:M tk:=hw.rel.fZ (.o id) tk (by rw[<-Wk.a_,hid];simp[dt])
        have KF:¬M (fe k4.ct.i):=hM _ (by rw[lA];exact jS) (by rw[qU,lA];omega)
        have dI:tk≠fe k4.ct.i:=λe=>KF (e▸C6)
        refine S' (j:=fe k4.ct.i) (G2:=G.al (fe k4.ct.i) (sliced ao l.toNat hh.toNat cap te.sz) hsv) (W1:=[(.o (fe k4.ct.i),.fz (.w tk x0 (ls.headD (.k (.int .i64 0)))) (k4.em (.sub te.sz lo.isSome hi.isSome) (y::(ls++hs))).2)])
         h (hw.same (s3.trans (s4.trans (Wk.bM k4 (.sub te.sz lo.isSome hi.isSome) (y::(ls++hs)))))) hn KF acP (λr=>by rw[wS];exact wT (k:=(k4.em (.sub te.sz lo.isSome hi.isSome) (y::(ls++hs))).1) r▸(by rw[wS])) (λr u hl=>?_) ?_ (λi hi=>by simp[dt,dN]at hi;exact .inr hi) (λb l hb=>⟨.inl (hw.rel.iO b l hb).1,(hw.rel.iO b l hb).2⟩) iW
        ·rcases j8 hl with⟨e1,e2⟩|hl
         ·subst e1 e2
          refine⟨_,rfl,⟨_,m_,?_,EI,F,l.toNat,_,hF,?_,rfl,λi r hg=>?_,?_,λvP b off k c hv=>?_⟩,.inr rfl,λi hi=>by simp[dt]at hi;subst hi;exact .inl C6⟩
          ·simpa[Gh.al,Gh.q]using lY
          ·rcases qI with⟨e1,rfl⟩|⟨kk,e1⟩
           ·rcases lR with⟨rfl,rfl⟩|⟨z,yy,tt,rfl,_⟩
            ·simp[mY,Lf.fN,lr]
            ·simp at e1
           ·cases lo with
            |none=>simp at e1
            |some z=>
             obtain⟨yy,tt,e5,ht,nA⟩:=acR hw (jc z) pJ Bq
             subst e5
             simp only[Option.map_some,bF]at e1
             rw[e1]at nA
             have htt:tt=.c (.int kk l):=by
              generalize hq:Value.int kk l=q at nA
              cases nA with
              |c _=>rfl
              |nil=>cases hq
              |l=>cases hq
             rw[htt]at ht
             simp only[List.headD_cons]
             exact Se ht h0
          ·rw[List.getElem?_drop,List.getElem?_take]at hg
           split at hg
           ·have:=CP _ _ hg
            rw[Nat.zero_add]at this
            exact this
           ·cases hg
          ·have h3:qA w (G.H tk) 0 (.slice ao zs.length cap) zs:=by rw[<-sP,iD];exact vF
           have h4:=acQ CN h3 (l:=l.toNat) (h:=hh.toNat) (sz:=te.sz) (by omega) (by omega) uf ez
           rw[Nat.zero_add]at h4
           simpa[Gh.al,dI]using h4
          ·simp only[Gh.al,if_true]at hv
           have hl:l.toNat=0:=vP
           unfold sliced at hv
           rw[hl]at hv
           split at hv
           ·cases hv
            exact CG rfl b off _ _ (by rw[<-iD];exact sP)
           ·generalize uR:Value.slice ao zs.length cap=vv at CN
            cases CN with
            |nil=>
             cases uR
             rename_i aa _
             cases ao with
             |none=>simp at hv
             |some ad=>
              obtain⟨b0,C5,r0⟩:=ad
              cases r0 with
              |none=>
               simp only[Option.map_some,Addr.add_lit,Nat.zero_mul,Nat.add_zero]at hv
               cases hv
               exact CG rfl b off _ _ (by rw[<-iD];exact sP)
              |some sp=>simp[Addr.add]at hv
            | @l _ b0 C5 wd0 _ cv0 g1 g2 g3 g4 g5 g6=>
             cases uR
             simp only[Option.map_some,Addr.add_lit,Nat.zero_mul,Nat.add_zero]at hv
             cases hv
             exact CG rfl b off _ _ (by rw[<-iD];exact sP)
         ·cases hl
        ·exact⟨_,rfl,⟨[],rfl,by simp[Gh.al]⟩,λz hz=>by unfold sliced at hz;cases hz⟩
       ·cases I3
      ·cases I3
     ·cases I3
   ·cases h_
  ·cases h_
theorem Wk.pL:∀(zs:List Ce) (k:Wk) (y ix:Lf) (j wd off:Nat),k.e_ (k.nG y ix j wd off zs).1
 | [],k,_,_,_,_,_=>.refl k
 |z::zs,k,y,ix,j,wd,off=>by
  unfold Wk.nG
  cases fJ z with
  |true=>exact(Wk.bM k _ _).trans (Wk.pL zs _ y ix j wd (off+1))
  |false=>exact(Wk.bM k _ _).trans (Wk.pL zs _ y ix j wd (off+1))
theorem Wk.o4:∀(zs:List Ce) (k:Wk) (y ix:Lf) (j wd off:Nat),(k.nG y ix j wd off zs).1.bJ S ρ->k.bJ S ρ
 | [],_,_,_,_,_,_,h=>h
 |z::zs,k,y,ix,j,wd,off,h=>by
  unfold Wk.nG at h
  cases hz:fJ z with
  |true=>rw[hz]at h;exact(Wk.bV (Wk.o4 zs _ y ix j wd (off+1) h)).1
  |false=>rw[hz]at h;exact(Wk.bV (Wk.o4 zs _ y ix j wd (off+1) h)).1
theorem Wk.rS{y ix:Lf}{xs:List (List T)}{i wd j b base:Nat}{Hd:Nat->Value}(hx:y.fN ρ=some (.l xs))(hi:mY ρ ix=some i)
  (gR:∀r,xs[i]?=some r->r.length=wd->∀c t,r[c]?=some t->∃u,w.cell? ⟨b,base+c,none⟩=some u∧(∀v,t=.c v->u=v∧lr v=true)∧∀ys,t=.l ys->u=Hd c):
  ∀(zs:List Ce) (k:Wk) (off:Nat),(k.nG y ix j wd off zs).1.bJ S ρ->
   ∃vs:List Value,vs.length=zs.length∧(∀c v,vs[c]?=some v->w.cell? ⟨b,base+off+c,none⟩=some v)∧(∀i∈dN (k.nG y ix j wd off zs).2.1,i=j)∧
    ((zs.filter fJ).length=0->∀G1:Gh,bn G1 w ρ (k.nG y ix j wd off zs).2.1 vs)∧
    ((zs.filter fJ).length=1->∃r c0 ys,xs[i]?=some r∧r.length=wd∧r[c0]?=some (.l ys)∧(k.nG y ix j wd off zs).2.2.fN ρ=some (.l ys)∧∀G1:Gh,G1.H j []=Hd c0->bn G1 w ρ (k.nG y ix j wd off zs).2.1 vs)
 | [],k,off,_=>⟨[],rfl,λc v hc=>by simp at hc,λi hi=>by simp[Wk.nG,dN]at hi,λ_ _=>trivial,λh=>by simp at h⟩
 |z::zs,k,off,hd=>by
  unfold Wk.nG at hd⊢
  cases hz:fJ z with
  |true=>
   rw[hz]at hd
   simp only[cond_true]at hd⊢
   obtain⟨_,t,ht,Ez⟩:=Wk.bV (Wk.o4 zs _ _ _ _ _ (off+1) hd)
   obtain⟨ys,rfl,bN,r,h1,h2⟩:=Fy hx hi ht
   have h3:r[off]?=some (.l ys):=by simpa[dP,h1]using bN
   obtain⟨u,h5,_,h6⟩:=gR r h1 h2 off _ h3
   obtain⟨vs,g1,g2,g3,g4,g5⟩:=Wk.rS hx hi gR zs _ (off+1) hd
   refine⟨u::vs,by simp[g1],λc v hc=>?_,λi hi=>?_,λh0=>by simp[hz]at h0,λh1'=>⟨r,off,ys,h1,h2,h3,Ez,λG1 hG=>⟨⟨[],rfl,by rw[h6 ys rfl,hG]⟩,g4 (by simpa[hz]using h1') G1⟩⟩⟩
   ·cases c with
    |zero=>simp at hc;subst hc;simpa using h5
    |succ c=>
     have:=g2 c v (by simpa using hc)
     rwa[show base+(off+1)+c=base+off+(c+1) by omega]at this
   ·simp only[dN,List.mem_cons]at hi
    rcases hi with hi|hi
    ·exact hi
    ·exact g3 i hi
  |false=>
   rw[hz]at hd
   simp only[cond_false]at hd⊢
   obtain⟨_,t,ht,Ez⟩:=Wk.bV (Wk.o4 zs _ _ _ _ _ (off+1) hd)
   obtain⟨r,h1,h2,h3,h4⟩:=J3 (sc:=true) hx hi ht
   obtain⟨c,rfl⟩:=zX (h4 rfl)
   obtain⟨u,h5,h6,_⟩:=gR r h1 h2 off _ h3
   obtain⟨rfl,hs⟩:=h6 c rfl
   obtain⟨vs,g1,g2,g3,g4,g5⟩:=Wk.rS hx hi gR zs _ (off+1) hd
   refine⟨u::vs,by simp[g1],λc v hc=>?_,λi hi=>g3 i (by simpa[dN]using hi),λh0 G1=>⟨⟨.c u,Ez,.c hs⟩,g4 (by simpa[hz]using h0) G1⟩,λh1'=>?_⟩
   ·cases c with
    |zero=>simp at hc;subst hc;simpa using h5
    |succ c=>
     have:=g2 c v (by simpa using hc)
     rwa[show base+(off+1)+c=base+off+(c+1) by omega]at this
   ·obtain⟨r',c0,ys,e1,e2,e3,e4,e5⟩:=g5 (by simpa[hz]using h1')
    exact⟨r',c0,ys,e1,e2,e3,e4,λG1 hG=>⟨⟨.c u,Ez,.c hs⟩,e5 G1 hG⟩⟩
theorem acU{m i r:T}(h:Prim.ev .yI [m,i]=some r):∃us kk n,m=.l us∧i=.c (.int kk n)∧0<=n∧n.toNat+1<=us.length∧tL us n.toNat 1=true∧r=.l (Bl us n.toNat 1):=by
 cases m with
 |c v=>simp[Prim.ev]at h
 |l us=>
  cases i with
  |l _=>simp[Prim.ev]at h
  |c v=>
   cases v with
   |int kk n=>
    simp only[Prim.ev]at h
    split at h
    ·split at h
     ·split at h
      ·cases h
       exact⟨us,kk,n,rfl,rfl,by assumption,by assumption,by assumption,rfl⟩
      ·cases h
     ·cases h
    ·cases h
   |_=>simp[Prim.ev]at h
def Gh.ko(G:Gh)(tk j i c0:Nat):Gh where
 ω:=λb=>match G.ω b with
  |some (.o n ((r,c)::p))=>if n=tk∧r=i∧c=c0 then some (.o j p)else some (.o n ((r,c)::p))
  |l=>l
 β:=G.β
 H:=λn=>if n=j thenλp=>G.H tk ((i,c0)::p)else G.H n
 hs:=λn p=>by
  by_cases h:n=j
  ·simp only[h,if_true];exact G.hs tk _
  ·simp only[h,if_false];exact G.hs n p
theorem acV{tk j i c0:Nat}(h4:j%4=2){I:Lb->Prop}(hI:∀p,I (.o tk p)):dA I (λn=>n=j) G w (G.ko tk j i c0) w:=by
 refine⟨Nat.le_refl _,λb _ hb=>⟨vA hb (λh0=>by simp[Gh.ko,h0]) λl hl hq=>?_,rfl⟩,λb _ hb=>by simp[Gh.ko,hb],λb l hl hn=>⟨?_,rfl⟩,λn hn=>⟨rfl,λp _=>by simp[Gh.ko,hn]⟩⟩
 ·cases l with
  |o n p=>
   cases p with
   |nil=>exact .inr ⟨_,by simp[Gh.ko,hl],hq⟩
   |cons x p=>
    obtain⟨r,c⟩:=x
    simp only[Gh.ko,hl]
    split
    ·exact .inr ⟨_,rfl,JU h4⟩
    ·exact .inr ⟨_,rfl,hq⟩
  |_=>simp[qt]at hq
 ·cases l with
  |o n p=>
   cases p with
   |nil=>simp[Gh.ko,hl]
   |cons x p=>
    obtain⟨r,c⟩:=x
    have:n≠tk:=λe=>hn (e▸hI _)
    simp[Gh.ko,hl,this]
  |_=>simp[Gh.ko,hl]
theorem acW(dW:ew P cx)(h:Rel M B d up s ρ G a w)(hn:∀n,o.dst=some n->n<a.tmps.size){x:Operand}{t:Nat}(ho:o.op=.load t x){kv:Wk×SV}
  (h_:JH cx ⟨s.only R,[],ct,[]⟩ t (cz d (Wk.get ⟨s.only R,[],ct,[]⟩) x)=some kv)(hk:b9 d o kv.1 kv.2=k')(hd:k'.bJ S ρ)(hM:∀i,ct.i<=i->i<k'.ct.i->¬M i):
  bT P (Mn M ct.i k'.ct.i) B d up ρ a w s o k'.w Q:=by
 have hw:=dy.start h R ct
 obtain⟨hr,hm⟩:=hw.jc x
 unfold JH at h_
 split at h_
 ·rename_i id ix wd off eD
  rw[eD]at hr hm
  simp only[cN]at h_
  obtain⟨ti,fQ,h_⟩:=h_
  split at h_
  ·rename_i tk x0 lo y hid
   split at h_
   ·rename_i y0 m EI
    cases hc:(II lo&&x0.beq y0&&Nat.beq (ti.zero.filter fJ).length 1&&Nat.beq ti.zero.length ti.sz)with
    |false=>simp[hc]at h_
    |true=>
     simp only[hc,cond_true,bF]at h_
     simp only[bI]at hc
     obtain⟨⟨⟨c1,c2⟩,c3⟩,c4⟩:=hc
     have Kx:=Lf.beq_eq c2
     subst Kx
     have rQ:=dU c3
     have t_:=dU c4
     subst h_
     obtain⟨kr,Z6⟩:∃kr,(Wk.nG ⟨s.only R,[],ct,[]⟩ y ix (oK ct.i) wd off ti.zero)=kr:=⟨_,rfl⟩
     have cO:b9 d o {(((kr.1.em .yI [m,ix]).1.set (.o tk) (.tk x0 (kr.1.em .yI [m,ix]).2)).set (.o (oK ct.i)) (.fl kr.2.2))with ct:=⟨(kr.1.em .yI [m,ix]).1.ct.a,oK ct.i+1⟩} (.v ti.ag kr.2.1)=k':=by
      rw[<-hk,<-Z6]
     have fI:(kr.1.em .yI [m,ix]).1.bJ S ρ:=by
      rw[<-cO]at hd
      have h2:=cX.1 hd
      exact h2
     obtain⟨FO,r1,qF,m_⟩:=Wk.bV fI
     rw[<-Z6]at FO
     obtain⟨p,b,n,cap,i,e1,e2,e3,e4,e5⟩:=hr
     simp only[nz,bF]at e1
     subst e1
     have obj:=hw.obj id
     have SQ:=hw.obj tk
     rw[hid]at obj
     rw[EI]at SQ
     obtain⟨tt,ht,eb,acX,F,n0,zs,hF,pJ,rfl,CP,vF,_⟩:=obj
     have zZ:n0=0:=J5 c1 pJ
     subst zZ
     obtain⟨_,F',u,SR,hu,hlen,nD⟩:=SQ
     rw[hF]at SR
     cases SR
     rw[e2]at eb
     obtain⟨EB,w1,w2⟩:=vF b 0 n cap e2
     obtain⟨vs,g1,g2,g3,_,g5⟩:=Wk.rS (S:=S) (w:=w) (b:=b) (base:=i*wd) (j:=oK ct.i) (Hd:=λc=>G.H tk [(i,c)]) (wd:=wd) ht e3 (λr km hl c t' j1=>by
      obtain⟨v',hc,qH⟩:=(eb.row km hl).2.2 c t' j1
      rw[Nat.zero_add]at hc
      refine⟨v',hc,λv he=>by subst he;exact qH.scalar,λys he=>?_⟩
      subst he
      have sA:EB=wd:=by rw[<-w1 r (List.mem_of_getElem? km),hl]
      have bN:dP zs i c=some (.l ys):=by simp[dP,km,j1]
      have:=w2 i c ys bN
      rw[Nat.zero_add,Nat.zero_add,sA,hc]at this
      exact Option.some.inj this) ti.zero _ off FO
     rw[Z6]at g3 g5
     obtain⟨row,c0,ys,q1,q2,q3,q4,q5⟩:=g5 rQ
     have hT:=dW.ty _ _ fQ
     have eV:=CB (P:=P) (w:=w) hT (b:=b) (off:=i*wd+off) (vs:=vs) (by rw[g1,t_]) g2
     have iW:(execOp a.eval o).run P w=.ok (.value (if ti.ag then .agg vs.toArray else vs.getD 0 undef)) w:=by
      refine Ew (x:=Instr.loadAt t (a.eval x)) (by unfold execOp;rw[ho]) ?_
      rw[e5];exact eV
     obtain⟨kk,hix⟩:=zO e3
     simp only[List.map_cons,List.map_nil,Lf.bU hu,hix]at qF
     obtain⟨us,kk2,n2,f1,f2,f3,f4,f5,rfl⟩:=acU qF
     cases f1
     cases f2
     have l_:((i:Int)).toNat=i:=Int.toNat_natCast i
     rw[l_]at f4 f5 m_
     have s1:Wk.e_ ⟨s.only R,[],ct,[]⟩ kr.1:=by rw[<-Z6];exact Wk.pL _ _ _ _ _ _ _
     have qU:k'.ct.i=oK ct.i+1:=by rw[<-cO,oL]
     have hle:=RN ct.i
     rw[qU,<-cO]
     refine bT.mono (M:=Mn M (oK ct.i) (oK ct.i+1)) ?_ (λi hi=>hi.imp_right λhi=>⟨by omega,hi.2⟩)
     have C6:M tk:=hw.rel.fZ (.o id) tk (by rw[<-Wk.a_,hid];simp[dt])
     have KF:¬M (oK ct.i):=hM _ hle (by rw[qU];omega)
     have dI:tk≠oK ct.i:=λe=>KF (e▸C6)
     have zY:=RO ct.i
     have free:=SO f4 f5 (i:=0) (by omega)
     obtain⟨r',acY,acZ⟩:=free
     obtain⟨o1,o2⟩:=nD _ _ acY acZ
     have I4:=CP _ _ q1
     rw[Nat.zero_add]at I4
     rw[Nat.add_zero,I4]at o1
     cases o1
     have bQ:=o2 c0 ys q3
     rw[Nat.add_zero]at bQ
     have jT:∀q,qC [(bD.o (oK ct.i),SV.fl kr.2.2),(bD.o tk,SV.tk x0 (kr.1.em .yI [m,ix]).2)] (.o tk q):=by
      intro q
      show St.look _ (bD.o tk)≠none
      simp only[St.look]
      cases(bD.o (oK ct.i)).beq (.o tk)<;>simp[(bD.beq_iff (r:=bD.o tk)).2 rfl]
     refine S' (j:=oK ct.i) (G2:=G.ko tk (oK ct.i) i c0) (W1:=[(.o (oK ct.i),.fl kr.2.2),(.o tk,.tk x0 (kr.1.em .yI [m,ix]).2)])
      h (hw.same (s1.trans (Wk.bM kr.1 .yI [m,ix]))) hn KF (acV zY jT) (λr=>?_) (λr u' hl=>?_) ?_ (λi hi=>.inr (g3 i hi)) (λb l hb=>?_) iW
     ·show(((kr.1.em .yI [m,ix]).1.w.set (.o tk) _).set (.o (oK ct.i)) _).look r=_
      simp only[St.look]
      by_cases h1:bD.o (oK ct.i)=r
      ·subst h1;rw[St.bB];simp[(bD.beq_iff (r:=bD.o (oK ct.i))).2 rfl]
      ·have b1:(bD.o (oK ct.i)).beq r=false:=by
        cases hb:(bD.o (oK ct.i)).beq r with
        |false=>rfl
        |true=>exact absurd (bD.beq_iff.1 hb) h1
       rw[St.cG _ _ h1,b1]
       by_cases h2:bD.o tk=r
       ·subst h2;rw[St.bB];simp[(bD.beq_iff (r:=bD.o tk)).2 rfl]
       ·have b2:(bD.o tk).beq r=false:=by
         cases hb:(bD.o tk).beq r with
         |false=>rfl
         |true=>exact absurd (bD.beq_iff.1 hb) h2
        rw[St.cG _ _ h2,b2];simp
     ·rcases j8 hl with⟨e1,e2⟩|hl
      ·subst e1 e2
       refine⟨_,rfl,⟨zY,_,q4,?_⟩,.inr rfl,λi hi=>by simp[dt]at hi⟩
       refine bQ.move rfl (λb q hb=>⟨?_,rfl⟩) λq=>?_
       ·simp only[List.cons_append,List.nil_append]at hb⊢
        simp only[Gh.ko,hb]
        rw[if_pos (by refine⟨?_,?_,?_⟩<;>trivial)]
       ·simp[Gh.ko]
      ·rcases j8 hl with⟨e1,e2⟩|hl
       ·subst e1 e2
        refine⟨tk,rfl,⟨acX,F,_,hF,m_,by rw[SM f4];exact hlen,λi' r hg Ta=>?_⟩,.inl C6,λi hi=>by simp[dt]at hi⟩
        obtain⟨g1,g2⟩:=SN f4 hg Ta
        obtain⟨g3,g4⟩:=nD i' r g1 Ta
        refine⟨g3,λc l' tv=>(g4 c l' tv).move rfl (λb q hb=>⟨?_,rfl⟩) λq=>?_⟩
        ·simp only[List.cons_append,List.nil_append]at hb⊢
         simp only[Gh.ko,hb]
         rw[if_neg (by omega)]
        ·simp[Gh.ko,dI]
       ·cases hl
     ·exact CC hT (q5 _ (by simp[Gh.ko])) (by rw[g1,t_])
     ·cases hg:G.ω b with
      |none=>simp[Gh.ko,hg]at hb
      |some l0=>
       have vP:=hw.rel.iO b l0 hg
       refine⟨?_,vP.2⟩
       cases l0 with
       |o n' p=>
        cases p with
        |nil=>simp[Gh.ko,hg]at hb;subst hb;exact .inl vP.1
        |cons x p=>
         obtain⟨r,c⟩:=x
         simp only[Gh.ko,hg]at hb
         split at hb
         ·cases hb;exact .inr rfl
         ·cases hb;exact .inl vP.1
       |_=>simp[Gh.ko,hg]at hb;subst hb;exact .inl vP.1
   ·cases h_
  ·cases h_
 ·cases h_
end
def bZ(G:Gh)(w:World):List Ck->List Value->List T->List (Option Nat)->Prop
 | [],[],[],[]=>True
 | .s::ks,v::vs,t::ts,x::is=>x=none∧eP G.q w t v∧dX t=true∧bZ G w ks vs ts is
 | .p::ks,v::vs,t::ts,x::is=>x=none∧eP G.q w t v∧bZ G w ks vs ts is
 | .o dp::ks,v::vs,t::ts,none::is=>v=.slice none 0 0∧t=.l []∧bZ G w ks vs ts is
 | .o dp::ks,v::vs,t::ts,some id::is=>v=G.H id []∧fg G w id dp [] t∧bZ G w ks vs ts is
 |_,_,_,_=>False
def Tb(G:Gh)(w:World)(r:Bool×List Ck)(c:Value)(ts:List T)(is:List (Option Nat)):Prop:=
 match r.1 with
 |true=>∃vs:List Value,c=.agg vs.toArray∧bZ G w r.2 vs ts is
 |false=>bZ G w r.2 [c] ts is∧∀x,c≠.agg x
def ju(G:Gh)(w:World):List (Bool×List Ck)->List Value->List T->List (Option Nat)->Prop
 | [],[],[],[]=>True
 |r::rs,v::vs,ts,is=>∃t1 t2 i1 i2,ts=t1++t2∧is=i1++i2∧Tb G w r v t1 i1∧ju G w rs vs t2 i2
 |_,_,_,_=>False
def KJ(G:Gh)(w:World)(rs:List (Bool×List Ck))(v:Value)(ts:List T)(is:List (Option Nat)):Prop:=
 match rs with
 | []=>ts=[]∧is=[]
 | [r]=>ju G w [r] [v] ts is
 |rs=>∃vs:List Value,v=.tuple vs.toArray∧ju G w rs vs ts is
section
variable {w:World}
def iP(G:Gh)(w:World)(bl:Nat->Option Nat):Nat->List PS->List T->Prop
 |_,[],ts=>ts=[]
 |i,.v _ _::ps,ts=>iP G w bl (i+1) ps ts
 |i,.x n::ps,ts=>∃b arr elem t1 t2,bl i=some b∧G.ω b=some (.x i)∧w.heap[b]?=some (.cells arr elem (0,0))∧ts=t1++t2∧t1.length=n∧eB G.q w t1 arr.toList∧
   iP G w bl (i+1) ps t2
def Ac(ω:Nat->Option Lb)(w:World)(bl:Nat->Option Nat):Nat->List PS->List Value->List T->Prop
 |_,[],args,ts=>args=[]∧ts=[]
 |i,.v ag n::ps,args,ts=>∃c fb vs t1 t2,args=c::fb∧ts=t1++t2∧t1.length=n∧(match ag with|true=>c=.agg vs.toArray|false=>vs=[c]∧∀x,c≠.agg x)∧eB ω w t1 vs∧
   Ac ω w bl (i+1) ps fb t2
 |i,.x n::ps,args,ts=>∃c fb b arr elem t1 t2,args=c::fb∧c=.pointer (some ⟨b,0,none⟩)∧bl i=some b∧ω b=some (.x i)∧w.heap[b]?=some (.cells arr elem (0,0))∧ts=t1++t2∧t1.length=n∧eB ω w t1 arr.toList∧
   Ac ω w bl (i+1) ps fb t2
structure yZ (sg:pG) (po:Nat->Option Lb) (bl:Nat->Option Nat) (w:World):Prop where
 iO:∀b l,po b=some l->b<w.heap.size∧(l=.f∨∃i,l=.x i∧bl i=some b)
 bl:∀i b,bl i=some b->i<sg.ps.length∧po b=some (.x i)
 gl:Fw po w
structure qX (sg:pG) (w:World) (po:Nat->Option Lb) (bl:Nat->Option Nat) (outs:List T) (v:Value) (w':World) (G:Gh) (is:List (Option Nat)) (o1 o2:List T):Prop where
 so:jK w w'
 size:w.heap.size<=w'.heap.size
 free:∀b,b<w.heap.size->po b=none->G.ω b=none∧w'.heap[b]?=w.heap[b]?
 Eu:∀b,po b=some .f->G.ω b=some .f∧w'.heap[b]?=w.heap[b]?
 iO:∀b l,G.ω b=some l->b<w'.heap.size
 qq:rF sg=true->∀b,G.q b=none->G.ω b=none
 outs:outs=o1++o2
 nodup:(is.filterMap id).Nodup
 ret:KJ G w' sg.rs v o1 is
 box:iP G w' bl 0 sg.ps o2
def FU(P:Program)(sg:pG)(f:FuncId)(F:aB):Prop:=
 ∀(w:World) (po:Nat->Option Lb) (bl:Nat->Option Nat) (args:List Value) (ts outs:List T),F ts=some outs->yZ sg po bl w->Ac po w bl 0 sg.ps args ts->
  Calls P f args.toArray w λe w'=>∃v G is o1 o2,e=.returned v∧qX sg w po bl outs v w' G is o1 o2
structure iQ (G G':Gh):Prop where
 o:∀b,G'.ω b=G.ω b∨(G'.ω b=none∧∃i p,G.ω b=some (.o i p))
 β:G'.β=G.β
 H:G'.H=G.H
theorem iQ.refl(G:Gh):iQ G G:=⟨λ_=>.inl rfl,rfl,rfl⟩
theorem iQ.trans{G1 G2 G3:Gh}(h:iQ G1 G2)(h':iQ G2 G3):iQ G1 G3:=by
 refine⟨λb=>?_,h'.β.trans h.β,h'.H.trans h.H⟩
 rcases h'.o b with h1|⟨h1,i,p,h2⟩
 ·rcases h.o b with h3|⟨h3,h4⟩
  ·exact .inl (h1.trans h3)
  ·exact .inr ⟨h1.trans h3,h4⟩
 ·rcases h.o b with h3|⟨h3,h4⟩
  ·exact .inr ⟨h1,i,p,by rw[<-h3];exact h2⟩
  ·rw[h3]at h2;cases h2
theorem iQ.non{G G':Gh}(h:iQ G G'){b:Nat}(hb:G.ω b=none):G'.ω b=none:=by
 rcases h.o b with h1|⟨h1,_⟩
 ·rw[h1,hb]
 ·exact h1
theorem iQ.q{G G':Gh}(h:iQ G G'){b:Nat}(hb:G.q b=none):G'.q b=none:=by
 refine vA hb h.non λl hl hq=>?_
 rcases h.o b with h1|⟨h1,_⟩
 ·exact .inr ⟨l,by rw[h1,hl],hq⟩
 ·exact .inl h1
theorem iQ.x{G G':Gh}(h:iQ G G'){b:Nat}{l:Lb}(hb:G.ω b=some l)(hl:∀i p,l≠.o i p):G'.ω b=some l:=by
 rcases h.o b with h1|⟨_,i,p,h1⟩
 ·rw[h1,hb]
 ·rw[hb]at h1;cases h1;exact absurd rfl (hl i p)
theorem iQ.er{G G':Gh}(h:iQ G G'){b:Nat}(hb:er G.ω b=none):er G'.ω b=none:=by
 unfold Go.Proofs.YtjimmglpkndemaaGreatC.er at hb⊢
 cases hg:G.ω b with
 |none=>rw[h.non hg]
 |some l=>
  rw[hg]at hb
  cases l with
  |f=>cases hb
  |x i=>cases hb
  |o i p=>
   rcases h.o b with h1|⟨h1,_⟩
   ·rw[h1,hg]
   ·rw[h1]
theorem iQ.bp{G G':Gh}(h:iQ G G')(w:World):dA (λl=>∃i p,l=.o i p) (λ_=>False) G w G' w:=
 ⟨Nat.le_refl _,λb _ hb=>⟨h.q hb,rfl⟩,λb _ hb=>h.non hb,λb l hb hl=>⟨h.x hb λi p e=>hl ⟨i,p,e⟩,rfl⟩,λ_ _=>⟨by rw[h.β],λ_ _=>by rw[h.H]⟩⟩
theorem Gh.pM(G:Gh)(id:Nat)(all:Bool):iQ G (G.free id all):=by
 refine⟨λb=>?_,rfl,rfl⟩
 cases hg:G.ω b with
 |none=>exact .inl (Gh.j7 hg)
 |some l=>
  cases l with
  |f=>exact .inl (by simp[Gh.free,hg])
  |x i=>exact .inl (by simp[Gh.free,hg])
  |o i p=>
   simp only[Gh.free,hg]
   split
   ·exact .inr ⟨rfl,i,p,rfl⟩
   ·exact .inl rfl
variable {M:Nat->Prop} {B:eT} {d:Nat} {up:Nat->Nat->Value} {ρ:List T} {G:Gh} {a:Act} {S:Nat->aB} {P:Program}
theorem dy.Tc{k k':Wk}{G1:Gh}(h:dy M B d up ρ G a w k G1){id:Nat}(hk:k.nl id=some k'):∃G2,dy M B d up ρ G a w k' G2∧iQ G1 G2:=by
 unfold Wk.nl at hk
 split at hk
 ·rename_i dp x hx
  cases hk
  rw[Wk.a_]at hx
  refine⟨_,⟨(h.rel.nl hx).congr (IK _ _ _ _),(h.bp.mono (λl hl=>IJ hl) λ_ hn=>hn).trans ((G1.fy id true w).mono ?_ λ_ hn=>hn)⟩,G1.pM id true⟩
  rintro l ⟨p,rfl⟩
  show(k.w.set _ _).look (.o id)≠none
  rw[St.bB];simp
 ·cases hk;exact⟨G1,h,.refl _⟩
 ·cases hk
theorem dy.pN:∀{cs:List Ce} {k k1:Wk} {G1:Gh},dy M B d up ρ G a w k G1->k.eu cs=some k1->∃G2,dy M B d up ρ G a w k1 G2∧iQ G1 G2
 | [],k,k1,G1,h,hk=>by
  simp[Wk.eu]at hk
  subst hk
  exact⟨G1,h,.refl _⟩
 |c::cs,k,k1,G1,h,hk=>by
  cases c with
  |o id q=>
   simp only[Wk.eu,cN]at hk
   obtain⟨k2,h1,h2⟩:=hk
   obtain⟨G2,g1,g2⟩:=h.Tc h1
   obtain⟨G3,f1,f2⟩:=dy.pN g1 h2
   exact⟨G3,f1,g2.trans f2⟩
  |p x=>exact dy.pN h (show k.eu cs=some k1 from hk)
  |n=>exact dy.pN h (show k.eu cs=some k1 from hk)
  |d=>exact dy.pN h (show k.eu cs=some k1 from hk)
def c_(G:Gh)(w:World)(ρ:List T):List SV->List Value->Prop
 | [],[]=>True
 |v::vs,c::cs=>cL G w ρ v c∧c_ G w ρ vs cs
 |_,_=>False
theorem c_.bp{I:Lb->Prop}{G G':Gh}{w w':World}(k:dA I (λ_=>False) G w G' w'):∀{vs:List SV} {cs:List Value},c_ G w ρ vs cs->c_ G' w' ρ vs cs
 | [],[],_=>trivial
 |_::_,_::_,h=>⟨h.1.bp k λ_ _ hf=>hf,c_.bp k h.2⟩
 | [],_::_,h=>h.elim
 |_::_,[],h=>h.elim
def vS(G:Gh)(w:World)(ρ:List T)(pl:Bool):List PS->List Value->List Lf->List (Nat×Bool×Nat)->Prop
 | [],args,xs,bs=>args=[]∧xs=[]∧bs=[]
 | .v ag n::ps,args,xs,bs=>∃c fb vs x1 x2,args=c::fb∧xs=x1++x2∧x1.length=n∧(match ag with|true=>c=.agg vs.toArray|false=>vs=[c]∧∀x,c≠.agg x)∧eB (er G.ω) w (x1.map (Lf.ev ρ)) vs∧
   (pl=true->eB G.q w (x1.map (Lf.ev ρ)) vs)∧vS G w ρ pl ps fb x2 bs
 | .x n::ps,args,xs,bs=>∃c fb bx ag z_ arr elem x1 x2,args=c::fb∧bs=(bx,ag,n)::z_∧c=.pointer (some ⟨G.β bx,0,none⟩)∧G.ω (G.β bx)=some (.x bx)∧w.heap[G.β bx]?=some (.cells arr elem (0,0))∧
   xs=x1++x2∧x1.length=n∧eB G.q w (x1.map (Lf.ev ρ)) arr.toList∧vS G w ρ pl ps fb x2 z_
theorem KK{pl:Bool}:∀{ps:List PS} {vs:List SV} {cs:List Value} {k k1:Wk} {xs:List Lf} {bs:List (Nat×Bool×Nat)} {G1:Gh},dy M B d up ρ G a w k G1->c_ G1 w ρ vs cs->(pl=true->CJ k (xj vs))->
  k.args vs ps=some (k1,xs,bs)->k1.bJ S ρ->k.bJ S ρ∧k1.ct.i=k.ct.i∧∃G2,dy M B d up ρ G a w k1 G2∧iQ G1 G2∧
   ∀G3,iQ G2 G3->vS G3 w ρ pl ps cs xs bs
 | [],[],cs,k,k1,xs,bs,G1,hk,hr,hf,h,hd=>by
  simp only[Wk.args,bF,Prod.mk.injEq]at h
  obtain⟨rfl,rfl,rfl⟩:=h
  cases cs with
  |nil=>exact⟨hd,rfl,G1,hk,.refl _,λ_ _=>⟨rfl,rfl,rfl⟩⟩
  |cons _ _=>exact hr.elim
 | .v yK n::ps,.v ag es::vs,cs,k,k1,xs,bs,G1,hk,hr,hf,h,hd=>by
  cases cs with
  |nil=>exact hr.elim
  |cons c cs=>
   simp only[Wk.args]at h
   cases hc:((ag==yK)&&Nat.beq es.length n)with
   |false=>simp[hc]at h
   |true=>
    simp only[hc,cond_true,cN,bF,Prod.mk.injEq]at h
    simp only[bI,beq_iff_eq]at hc
    obtain⟨rfl,hn⟩:=hc
    obtain⟨⟨k2,x1⟩,h1,⟨k3,x2,bs2⟩,h2,rfl,rfl,rfl⟩:=h
    have hs:=Wk.hX h1
    obtain⟨d2,i2,G2,w2,l2,f2⟩:=KK (hk.same hs) hr.2 (λhp id hid=>by
     obtain⟨pv,x,hx⟩:=hf hp id (by simp only[xj];rw[J7];exact List.mem_append_right _ hid)
     exact⟨pv,x,by rw[hs.get];exact hx⟩) h2 hd
    have fI:=Wk.l9 h1 d2
    refine⟨fI,i2.trans hs.i,G2,w2,l2,λG3 l3=>?_⟩
    have bE:=l2.trans l3
    have hlen:x1.length=n:=by
     have:=dU hn
     obtain⟨vT,qT⟩:∃vT:List Value,bn G1 w ρ es vT:=by
      have h0:=hr.1
      cases ag with
      |true=>obtain⟨vT,_,h0⟩:=h0;exact⟨vT,h0⟩
      |false=>obtain⟨e,rfl,h0,_⟩:=h0;exact⟨[c],h0,trivial⟩
     obtain⟨_,_,_,_,e4⟩:=Wk.hY h1 d2 qT hk
     rw[e4,<-qT.length,this]
    have key:∀vT:List Value,bn G1 w ρ es vT->eB (er G3.ω) w (x1.map (Lf.ev ρ)) vT∧(pl=true->eB G3.q w (x1.map (Lf.ev ρ)) vT):=by
     intro vT qT
     obtain⟨ts,e1,e2,e3,e4⟩:=Wk.hY h1 d2 qT hk
     rw[e1]
     refine⟨e2.bp (Nat.le_refl _) λb _ hb=>⟨bE.er hb,rfl⟩,λhp=>(e3 λid hid=>hf hp id ?_).bp (Nat.le_refl _) λb _ hb=>⟨bE.q hb,rfl⟩⟩
     simp only[xj,E6]
     rw[J7]
     exact List.mem_append_left _ hid
    have h0:=hr.1
    cases ag with
    |true=>
     obtain⟨vT,rfl,h0⟩:=h0
     obtain⟨q1,q2⟩:=key vT h0
     exact⟨_,cs,vT,x1,x2,rfl,rfl,hlen,rfl,q1,q2,f2 G3 l3⟩
    |false=>
     obtain⟨e,rfl,h0,h0'⟩:=h0
     obtain⟨q1,q2⟩:=key [c] ⟨h0,trivial⟩
     exact⟨c,cs,[c],x1,x2,rfl,rfl,hlen,⟨rfl,h0'⟩,q1,q2,f2 G3 l3⟩
 | .x n::ps,.pt bx 0::vs,cs,k,k1,xs,bs,G1,hk,hr,hf,h,hd=>by
  cases cs with
  |nil=>exact hr.elim
  |cons c cs=>
   simp only[Wk.args]at h
   split at h
   ·rename_i ag es wQ
    cases hc:Nat.beq es.length n with
    |false=>simp[hc]at h
    |true=>
     simp only[hc,cond_true,cN,bF,Prod.mk.injEq]at h
     obtain⟨k2,h0,⟨k3,x1⟩,h1,⟨k4,x2,bs2⟩,h2,rfl,rfl,rfl⟩:=h
     obtain⟨Gt,wt,lt⟩:=hk.pN h0
     obtain⟨_,_,_,_,t4,t5,tf,t7,_⟩:=hk.eu h0
     have hs:=Wk.hX h1
     obtain⟨d2,i2,G2,w2,l2,f2⟩:=KK (wt.same hs) (hr.2.bp (lt.bp w)) (λhp id hid=>by
      obtain⟨pv,x,hx⟩:=hf hp id (by simp only[xj];rw[J7];exact List.mem_append_right _ hid)
      exact⟨pv,x,by rw[hs.get];exact t7 _ _ _ hx⟩) h2 hd
     have fI:=Wk.l9 h1 d2
     have Td:k.bJ S ρ:=by unfold Wk.bJ at fI⊢;rw[<-t4,<-t5];exact fI
     have rT:=hk.rel.bx bx
     rw[<-Wk.a_,wQ]at rT
     obtain⟨b1,arr,elem,b2,b3⟩:=rT
     obtain⟨ts,e1,e2,e3,e4⟩:=Wk.hY h1 d2 (b3.bp (lt.bp w) λ_ _ hf=>hf) wt
     have hp:c=.pointer (some ⟨G1.β bx,0,none⟩):=hr.1
     refine⟨Td,by rw[i2,hs.i,t4],G2,w2,lt.trans l2,λG3 l3=>?_⟩
     have nL:=(lt.trans l2).trans l3
     refine⟨c,cs,bx,ag,bs2,arr,elem,x1,x2,rfl,rfl,by rw[nL.β];exact hp,by rw[nL.β];exact nL.x b1 (λ_ _ e=>by cases e),by rw[nL.β];exact b2,rfl,?_,?_,f2 G3 l3⟩
     ·rw[e4,<-b3.length];exact dU hc
     ·rw[e1];exact(e3 tf).bp (Nat.le_refl _) λb _ hb=>⟨(l2.trans l3).q hb,rfl⟩
   ·cases h
 | [],_::_,cs,k,k1,xs,bs,G1,hk,hr,hf,h,hd=>by simp[Wk.args]at h
 |_::_,[],cs,k,k1,xs,bs,G1,hk,hr,hf,h,hd=>by simp[Wk.args]at h
 | .x _::_,.pt _ (_+1)::_,cs,k,k1,xs,bs,G1,hk,hr,hf,h,hd=>by simp[Wk.args]at h
 | .v _ _::_,.un::_,cs,k,k1,xs,bs,G1,hk,hr,hf,h,hd=>by simp[Wk.args]at h
 | .v _ _::_,.pt _ _::_,cs,k,k1,xs,bs,G1,hk,hr,hf,h,hd=>by simp[Wk.args]at h
 | .v _ _::_,.ep _ _ _ _ _::_,cs,k,k1,xs,bs,G1,hk,hr,hf,h,hd=>by simp[Wk.args]at h
 | .v _ _::_,.fp _ _ _ _::_,cs,k,k1,xs,bs,G1,hk,hr,hf,h,hd=>by simp[Wk.args]at h
 | .v _ _::_,.tp _::_,cs,k,k1,xs,bs,G1,hk,hr,hf,h,hd=>by simp[Wk.args]at h
 | .v _ _::_,.cl _ _::_,cs,k,k1,xs,bs,G1,hk,hr,hf,h,hd=>by simp[Wk.args]at h
 | .v _ _::_,.ob _ _::_,cs,k,k1,xs,bs,G1,hk,hr,hf,h,hd=>by simp[Wk.args]at h
 | .v _ _::_,.fz _ _::_,cs,k,k1,xs,bs,G1,hk,hr,hf,h,hd=>by simp[Wk.args]at h
 | .v _ _::_,.tk _ _::_,cs,k,k1,xs,bs,G1,hk,hr,hf,h,hd=>by simp[Wk.args]at h
 | .v _ _::_,.fl _::_,cs,k,k1,xs,bs,G1,hk,hr,hf,h,hd=>by simp[Wk.args]at h
 | .v _ _::_,.fr _::_,cs,k,k1,xs,bs,G1,hk,hr,hf,h,hd=>by simp[Wk.args]at h
 | .x _::_,.un::_,cs,k,k1,xs,bs,G1,hk,hr,hf,h,hd=>by simp[Wk.args]at h
 | .x _::_,.v _ _::_,cs,k,k1,xs,bs,G1,hk,hr,hf,h,hd=>by simp[Wk.args]at h
 | .x _::_,.ep _ _ _ _ _::_,cs,k,k1,xs,bs,G1,hk,hr,hf,h,hd=>by simp[Wk.args]at h
 | .x _::_,.fp _ _ _ _::_,cs,k,k1,xs,bs,G1,hk,hr,hf,h,hd=>by simp[Wk.args]at h
 | .x _::_,.tp _::_,cs,k,k1,xs,bs,G1,hk,hr,hf,h,hd=>by simp[Wk.args]at h
 | .x _::_,.cl _ _::_,cs,k,k1,xs,bs,G1,hk,hr,hf,h,hd=>by simp[Wk.args]at h
 | .x _::_,.ob _ _::_,cs,k,k1,xs,bs,G1,hk,hr,hf,h,hd=>by simp[Wk.args]at h
 | .x _::_,.fz _ _::_,cs,k,k1,xs,bs,G1,hk,hr,hf,h,hd=>by simp[Wk.args]at h
 | .x _::_,.tk _ _::_,cs,k,k1,xs,bs,G1,hk,hr,hf,h,hd=>by simp[Wk.args]at h
 | .x _::_,.fl _::_,cs,k,k1,xs,bs,G1,hk,hr,hf,h,hd=>by simp[Wk.args]at h
 | .x _::_,.fr _::_,cs,k,k1,xs,bs,G1,hk,hr,hf,h,hd=>by simp[Wk.args]at h
end
theorem FV{W:St}{r:bD}{u:SV}(h:W.look r=some u):(r,u)∈W:=by
 induction W with
 |nil=>cases h
 |cons x W ih=>
  obtain⟨r',v⟩:=x
  rcases j8 h with⟨rfl,rfl⟩|h
  ·exact List.mem_cons_self
  ·exact List.mem_cons_of_mem _ (ih h)
def lD:Nat->List Ck->List (Option Nat)->Ren
 |i,.o _::ks,x::is=>(pi i,x)::lD (pi i+1) ks is
 |i,_::ks,_::is=>lD i ks is
 |_,_,_=>[]
theorem KL:∀{ks:List Ck} {is:List (Option Nat)} {i j:Nat} {x:Option Nat},(j,x)∈lD i ks is->i<=j∧x∈is
 | [],is,i,j,x,h=>by simp[lD]at h
 |_::_,[],i,j,x,h=>by simp[lD]at h
 | .o _::ks,y::is,i,j,x,h=>by
  simp only[lD,List.mem_cons,Prod.mk.injEq]at h
  have Te:=JG i
  rcases h with⟨rfl,rfl⟩|h
  ·exact⟨Te,by simp⟩
  ·have:=KL h;exact⟨by omega,by simp[this.2]⟩
 | .s::ks,y::is,i,j,x,h=>by have:=KL (show(j,x)∈lD i ks is from h);exact⟨this.1,by simp[this.2]⟩
 | .p::ks,y::is,i,j,x,h=>by have:=KL (show(j,x)∈lD i ks is from h);exact⟨this.1,by simp[this.2]⟩
theorem FW:∀{ks:List Ck} {is:List (Option Nat)} {i j:Nat} {x:Option Nat},(j,x)∈lD i ks is->pk (lD i ks is) j=some x
 | [],is,i,j,x,h=>by simp[lD]at h
 |_::_,[],i,j,x,h=>by simp[lD]at h
 | .o _::ks,y::is,i,j,x,h=>by
  simp only[lD,List.mem_cons,Prod.mk.injEq]at h
  rcases h with⟨rfl,rfl⟩|h
  ·simp[lD,pk]
  ·have h1:=(KL h).1
   have:Nat.beq (pi i) j=false:=by
    cases hb:Nat.beq (pi i) j with
    |false=>rfl
    |true=>have:=dU hb;omega
   simp only[lD,pk,this,cond_false]
   exact FW h
 | .s::ks,y::is,i,j,x,h=>FW (ks:=ks) (is:=is) h
 | .p::ks,y::is,i,j,x,h=>FW (ks:=ks) (is:=is) h
theorem C7:∀{ks:List Ck} {is:List (Option Nat)} {i j k:Nat},(is.filterMap id).Nodup->(j,some k)∈lD i ks is->oR (lD i ks is) k=some j
 | [],is,i,j,k,_,h=>by simp[lD]at h
 |_::_,[],i,j,k,_,h=>by simp[lD]at h
 | .o _::ks,none::is,i,j,k,hn,h=>by
  simp only[lD,List.mem_cons,Prod.mk.injEq]at h
  rcases h with⟨_,h⟩|h
  ·cases h
  ·simp only[lD,oR];exact C7 (by simpa using hn) h
 | .o _::ks,some y::is,i,j,k,hn,h=>by
  simp only[List.filterMap_cons_some (f:=id) (a:=some y) rfl,List.nodup_cons]at hn
  simp only[lD,List.mem_cons,Prod.mk.injEq]at h
  rcases h with⟨rfl,h⟩|h
  ·cases h;simp[lD,oR]
  ·have dI:Nat.beq y k=false:=by
    cases hb:Nat.beq y k with
    |false=>rfl
    |true=>
     have:=dU hb
     subst this
     exact absurd (show y∈is.filterMap id from List.mem_filterMap.2 ⟨some y,(KL h).2,rfl⟩) hn.1
   simp only[lD,oR,dI,cond_false]
   exact C7 hn.2 h
 | .s::ks,y::is,i,j,k,hn,h=>by
  refine C7 (ks:=ks) (is:=is) ?_ h
  cases y with
  |none=>simpa using hn
  |some y=>simp only[List.filterMap_cons_some (f:=id) (a:=some y) rfl,List.nodup_cons]at hn;exact hn.2
 | .p::ks,y::is,i,j,k,hn,h=>by
  refine C7 (ks:=ks) (is:=is) ?_ h
  cases y with
  |none=>simpa using hn
  |some y=>simp only[List.filterMap_cons_some (f:=id) (a:=some y) rfl,List.nodup_cons]at hn;exact hn.2
theorem Ad:∀{rn:Ren} {k j:Nat},oR rn k=some j->(j,some k)∈rn
 | [],k,j,h=>by simp[oR]at h
 |(i,none)::rn,k,j,h=>List.mem_cons_of_mem _ (Ad (show oR rn k=some j from h))
 |(i,some y)::rn,k,j,h=>by
  simp only[oR]at h
  cases hb:Nat.beq y k with
  |true=>simp[hb]at h;subst h;rw[dU hb];exact List.mem_cons_self
  |false=>simp[hb]at h;exact List.mem_cons_of_mem _ (Ad h)
theorem P_:∀{rn:Ren} {j:Nat} {x:Option Nat},pk rn j=some x->(j,x)∈rn
 | [],k,j,h=>by simp[pk]at h
 |(i,y)::rn,j,x,h=>by
  simp only[pk]at h
  cases hb:Nat.beq i j with
  |true=>simp[hb]at h;subst h;rw[dU hb];exact List.mem_cons_self
  |false=>simp[hb]at h;exact List.mem_cons_of_mem _ (P_ h)
def kP:Ck->Bool
 | .p| .o false=>true
 |_=>false
theorem fg.rU{G G':Gh}{w:World}{id j:Nat}{t:T}(h:fg G w id false [] t)(iA:∀c,G.ω c=some (.o id [])->G'.ω c=some (.o j []))(hH:G'.H j []=G.H id [])
  (hn:∀b,G.q b=none->G'.q b=none):fg G' w j false [] t:=by
 cases h with
 |nil h=>exact .nil (by rw[hH];exact h)
 | @l _ _ xs b wd cap arr elem cv h1 h2 h3 h4 h5 h6 h7 h8 h9 pn yO=>
  exact .l (by rw[hH];exact h1) h2 (iA _ h3) h4 h5 h6 h7 h8 (λi j ys hy hd=>(h9 i j ys hy hd).bp (Nat.le_refl _) λb _ hb=>⟨hn b hb,rfl⟩) (λ_ _ _ _ hd=>by cases hd) λ_ _ _ _ hd=>by cases hd
section
variable {w':World} {ρ:List T} {G' G2:Gh}
theorem C8{rn:Ren}(hH:∀j x,pk rn j=some x->G2.H j=match x with|some id=>G'.H id|none=>λ_=>.slice none 0 0)
  (iA:∀j id,oR rn id=some j->∀c r,G'.ω c=some (.o id r)->G2.ω c=some (.o j r)):
  ∀{ks:List Ck} {us:List Value} {ts:List T} {is:List (Option Nat)} {ct:Ct},bZ G' w' ks us ts is->(∀j t,ts[j]?=some t->ρ[ct.a+j]?=some t)->
   (∀k∈ks,kP k=true->∀b,G'.q b=none->G2.q b=none)->(∀j x,(j,x)∈lD ct.i ks is->pk rn j=some x)->(∀j id,(j,some id)∈lD ct.i ks is->oR rn id=some j)->
   bn G2 w' ρ (fM ct ks).2.1 us∧(fM ct ks).1.a=ct.a+ts.length∧ct.i<=(fM ct ks).1.i∧(∀i∈dN (fM ct ks).2.1,ct.i<=i∧i<(fM ct ks).1.i)∧
   (∀j x,(j,x)∈lD ct.i ks is->j<(fM ct ks).1.i)∧
   ∀r u,(r,u)∈(fM ct ks).2.2->∃j,r=.o j∧ct.i<=j∧j<(fM ct ks).1.i∧cM G2 w' ρ j u∧dt u=[]
 | [],[],[],[],ct,_,_,_,_,_=>⟨trivial,rfl,Nat.le_refl _,λi hi=>by simp[fM,dN]at hi,λj x h=>by simp[lD]at h,λr u h=>by simp[fM]at h⟩
 | .s::ks,u::us,t::ts,x::is,ct,h,oN,hp,h1,h2=>by
  obtain⟨rfl,hd,hs,h⟩:=h
  obtain⟨g1,g2,g3,g4,g5,g6⟩:=C8 hH iA (ct:=⟨ct.a+1,ct.i⟩) h (λj t' hj=>by have:=oN (j+1) t' (by simpa using hj);rw[<-this];congr 1;show ct.a+1+j=_;omega) (λk hk=>hp k (by simp[hk])) h1 h2
  have h0:ρ[ct.a]?=some t:=oN 0 t rfl
  obtain⟨v,rfl⟩:=zX hs
  obtain⟨rfl,hv⟩:=hd.scalar
  refine⟨⟨⟨.c u,h0,.c hv⟩,g1⟩,?_,g3,?_,g5,g6⟩
  ·simp only[fM,List.length_cons];rw[g2];show ct.a+1+_=_;omega
  ·intro i hi;simp only[fM,dN]at hi;exact g4 i hi
 | .p::ks,u::us,t::ts,x::is,ct,h,oN,hp,h1,h2=>by
  obtain⟨rfl,hd,h⟩:=h
  obtain⟨g1,g2,g3,g4,g5,g6⟩:=C8 hH iA (ct:=⟨ct.a+1,ct.i⟩) h (λj t' hj=>by have:=oN (j+1) t' (by simpa using hj);rw[<-this];congr 1;show ct.a+1+j=_;omega) (λk hk=>hp k (by simp[hk])) h1 h2
  have h0:ρ[ct.a]?=some t:=oN 0 t rfl
  refine⟨⟨⟨t,h0,hd.bp (Nat.le_refl _) λb _ hb=>⟨hp .p (by simp) rfl b hb,rfl⟩⟩,g1⟩,?_,g3,?_,g5,g6⟩
  ·simp only[fM,List.length_cons];rw[g2];show ct.a+1+_=_;omega
  ·intro i hi;simp only[fM,dN]at hi;exact g4 i hi
 | .o dp::ks,u::us,t::ts,none::is,ct,h,oN,hp,h1,h2=>by
  obtain⟨rfl,rfl,h⟩:=h
  obtain⟨g1,g2,g3,g4,g5,g6⟩:=C8 hH iA (ct:=⟨ct.a+1,pi ct.i+1⟩) h (λj t' hj=>by have:=oN (j+1) t' (by simpa using hj);rw[<-this];congr 1;show ct.a+1+j=_;omega) (λk hk=>hp k (by simp[hk]))
   (λj x hj=>h1 j x (by simp[lD,hj])) (λj id hj=>h2 j id (by simp[lD,hj]))
  have h0:ρ[ct.a]?=some (.l []):=oN 0 _ rfl
  have hr:=hH (pi ct.i) none (h1 (pi ct.i) none (by simp[lD]))
  simp only at hr
  have g3':pi ct.i+1<=(fM ⟨ct.a+1,pi ct.i+1⟩ ks).1.i:=g3
  have Te:=JG ct.i
  refine⟨⟨⟨[],rfl,by rw[hr]⟩,g1⟩,?_,by simp only[fM];omega,?_,?_,?_⟩
  ·simp only[fM,List.length_cons];rw[g2];show ct.a+1+_=_;omega
  ·intro i hi
   simp only[fM,dN,List.mem_cons]at hi⊢
   rcases hi with rfl|hi
   ·omega
   ·have:=g4 i hi
    have h3:pi ct.i+1<=i:=this.1
    omega
  ·intro j x hj
   simp only[lD,List.mem_cons,Prod.mk.injEq]at hj
   simp only[fM]
   rcases hj with⟨rfl,_⟩|hj
   ·omega
   ·exact g5 j x hj
  ·intro r u' sF
   simp only[fM,List.mem_cons,Prod.mk.injEq]at sF⊢
   rcases sF with⟨rfl,rfl⟩|sF
   ·exact⟨pi ct.i,rfl,Te,by omega,⟨.l [],h0,.nil (by rw[hr])⟩,rfl⟩
   ·obtain⟨j,e1,e2,e3,e4,e5⟩:=g6 r u' sF
    have e2':pi ct.i+1<=j:=e2
    exact⟨j,e1,by omega,e3,e4,e5⟩
 | .o dp::ks,u::us,t::ts,some id::is,ct,h,oN,hp,h1,h2=>by
  obtain⟨rfl,bQ,h⟩:=h
  obtain⟨g1,g2,g3,g4,g5,g6⟩:=C8 hH iA (ct:=⟨ct.a+1,pi ct.i+1⟩) h (λj t' hj=>by have:=oN (j+1) t' (by simpa using hj);rw[<-this];congr 1;show ct.a+1+j=_;omega) (λk hk=>hp k (by simp[hk]))
   (λj x hj=>h1 j x (by simp[lD,hj])) (λj id hj=>h2 j id (by simp[lD,hj]))
  have h0:ρ[ct.a]?=some t:=oN 0 _ rfl
  have hr:=hH (pi ct.i) (some id) (h1 (pi ct.i) (some id) (by simp[lD]))
  simp only at hr
  have ht:=iA (pi ct.i) id (h2 (pi ct.i) id (by simp[lD]))
  have g3':pi ct.i+1<=(fM ⟨ct.a+1,pi ct.i+1⟩ ks).1.i:=g3
  have Te:=JG ct.i
  refine⟨⟨⟨[],rfl,by rw[hr]⟩,g1⟩,?_,by simp only[fM];omega,?_,?_,?_⟩
  ·simp only[fM,List.length_cons];rw[g2];show ct.a+1+_=_;omega
  ·intro i hi
   simp only[fM,dN,List.mem_cons]at hi⊢
   rcases hi with rfl|hi
   ·omega
   ·have:=g4 i hi
    have h3:pi ct.i+1<=i:=this.1
    omega
  ·intro j x hj
   simp only[lD,List.mem_cons,Prod.mk.injEq]at hj
   simp only[fM]
   rcases hj with⟨rfl,_⟩|hj
   ·omega
   ·exact g5 j x hj
  ·intro r u' sF
   simp only[fM,List.mem_cons,Prod.mk.injEq]at sF⊢
   rcases sF with⟨rfl,rfl⟩|sF
   ·refine⟨pi ct.i,rfl,Te,by omega,⟨t,h0,?_⟩,rfl⟩
    cases dp with
    |true=>exact bQ.move rfl (λc r hc=>⟨ht c r hc,rfl⟩) λr=>by rw[hr]
    |false=>exact bQ.rU (λc hc=>ht c [] hc) (by rw[hr]) (hp (.o false) (by simp) rfl)
   ·obtain⟨j,e1,e2,e3,e4,e5⟩:=g6 r u' sF
    have e2':pi ct.i+1<=j:=e2
    exact⟨j,e1,by omega,e3,e4,e5⟩
 | [],_::_,_,_,ct,h,_,_,_,_=>by simp[bZ]at h
 | [],[],_::_,_,ct,h,_,_,_,_=>by simp[bZ]at h
 | [],[],[],_::_,ct,h,_,_,_,_=>by simp[bZ]at h
 |k::_,[],_,_,ct,h,_,_,_,_=>by cases k<;>simp[bZ]at h
 |k::_,_::_,[],_,ct,h,_,_,_,_=>by cases k<;>simp[bZ]at h
 |k::_,_::_,_::_,[],ct,h,_,_,_,_=>by cases k<;>simp[bZ]at h
theorem P':∀(k1 k2:List Ck) (ct:Ct),fM ct (k1++k2)=((fM (fM ct k1).1 k2).1,(fM ct k1).2.1++(fM (fM ct k1).1 k2).2.1,(fM ct k1).2.2++(fM (fM ct k1).1 k2).2.2)
 | [],k2,ct=>by simp[fM]
 | .o dp::k1,k2,ct=>by simp[fM,P' k1 k2]
 | .s::k1,k2,ct=>by simp[fM,P' k1 k2]
 | .p::k1,k2,ct=>by simp[fM,P' k1 k2]
def nM:List (Bool×List Ck)->List Ck
 | []=>[]
 |r::rs=>r.2++nM rs
theorem Tf:∀(rs:List (Bool×List Ck)) (ct:Ct),(pH ct rs).1=(fM ct (nM rs)).1∧(pH ct rs).2.2=(fM ct (nM rs)).2.2
 | [],ct=>⟨rfl,rfl⟩
 |r::rs,ct=>by
  obtain⟨h1,h2⟩:=Tf rs (fM ct r.2).1
  simp only[pH,nM,P']
  exact⟨h1,by rw[h2]⟩
theorem bn.split{G:Gh}{w:World}:∀{c1 c2:List Ce} {v1 v2:List Value},c1.length=v1.length->bn G w ρ (c1++c2) (v1++v2)->bn G w ρ c1 v1∧bn G w ρ c2 v2
 | [],_,[],_,_,h=>⟨trivial,h⟩
 | [],_,_::_,_,h,_=>by simp at h
 |_::_,_,[],_,h,_=>by simp at h
 |c::c1,_,v::v1,_,h,hr=>by
  obtain⟨h1,h2⟩:=bn.split (by simpa using h) hr.2
  exact⟨⟨hr.1,h1⟩,h2⟩
theorem Tg:∀(ks:List Ck) (ct:Ct),(fM ct ks).2.1.length=ks.length
 | [],ct=>rfl
 | .o dp::ks,ct=>by simp[fM,Tg ks]
 | .s::ks,ct=>by simp[fM,Tg ks]
 | .p::ks,ct=>by simp[fM,Tg ks]
theorem bZ.len:∀{ks:List Ck} {us:List Value} {ts:List T} {is:List (Option Nat)},bZ G' w' ks us ts is->us.length=ks.length∧ts.length=ks.length∧is.length=ks.length
 | [],[],[],[],_=>⟨rfl,rfl,rfl⟩
 | .s::ks,_::us,_::ts,x::is,h=>by have:=bZ.len h.2.2.2;simp[this]
 | .p::ks,_::us,_::ts,x::is,h=>by have:=bZ.len h.2.2;simp[this]
 | .o _::ks,_::us,_::ts,none::is,h=>by have:=bZ.len h.2.2;simp[this]
 | .o _::ks,_::us,_::ts,some _::is,h=>by have:=bZ.len h.2.2;simp[this]
 | [],_::_,_,_,h=>by simp[bZ]at h
 | [],[],_::_,_,h=>by simp[bZ]at h
 | [],[],[],_::_,h=>by simp[bZ]at h
 |k::_,[],_,_,h=>by cases k<;>simp[bZ]at h
 |k::_,_::_,[],_,h=>by cases k<;>simp[bZ]at h
 |k::_,_::_,_::_,[],h=>by cases k<;>simp[bZ]at h
theorem bZ.append:∀{k1:List Ck} {u1:List Value} {t1:List T} {i1:List (Option Nat)} {k2:List Ck} {u2:List Value} {t2:List T} {i2:List (Option Nat)},bZ G' w' k1 u1 t1 i1->bZ G' w' k2 u2 t2 i2->
  bZ G' w' (k1++k2) (u1++u2) (t1++t2) (i1++i2)
 | [],[],[],[],_,_,_,_,_,h=>h
 | .s::ks,_::us,_::ts,x::is,_,_,_,_,h,h'=>⟨h.1,h.2.1,h.2.2.1,bZ.append h.2.2.2 h'⟩
 | .p::ks,_::us,_::ts,x::is,_,_,_,_,h,h'=>⟨h.1,h.2.1,bZ.append h.2.2 h'⟩
 | .o _::ks,_::us,_::ts,none::is,_,_,_,_,h,h'=>⟨h.1,h.2.1,bZ.append h.2.2 h'⟩
 | .o _::ks,_::us,_::ts,some _::is,_,_,_,_,h,h'=>⟨h.1,h.2.1,bZ.append h.2.2 h'⟩
 | [],_::_,_,_,_,_,_,_,h,_=>by simp[bZ]at h
 | [],[],_::_,_,_,_,_,_,h,_=>by simp[bZ]at h
 | [],[],[],_::_,_,_,_,_,h,_=>by simp[bZ]at h
 |k::_,[],_,_,_,_,_,_,h,_=>by cases k<;>simp[bZ]at h
 |k::_,_::_,[],_,_,_,_,_,h,_=>by cases k<;>simp[bZ]at h
 |k::_,_::_,_::_,[],_,_,_,_,h,_=>by cases k<;>simp[bZ]at h
theorem Th:∀{rs:List (Bool×List Ck)} {vs:List Value} {ts:List T} {is:List (Option Nat)},ju G' w' rs vs ts is->
  ∃us:List Value,bZ G' w' (nM rs) us ts is∧∀(G2:Gh) (w2:World) (ct:Ct),bn G2 w2 ρ (fM ct (nM rs)).2.1 us->gD G2 w2 ρ (pH ct rs).2.1 vs
 | [],[],[],[],_=>⟨[],trivial,λ_ _ _ _=>trivial⟩
 |r::rs,v::vs,ts,is,h=>by
  obtain⟨t1,t2,i1,i2,rfl,rfl,h1,h2⟩:=h
  obtain⟨us,g1,g2⟩:=Th h2
  obtain⟨ag,ks⟩:=r
  have key:∀u1:List Value,bZ G' w' ks u1 t1 i1->(∀(G2:Gh) (w2:World) (cs:List Ce),bn G2 w2 ρ cs u1->cs.length=ks.length->fh G2 w2 ρ ag cs v)->
    ∃us:List Value,bZ G' w' (nM ((ag,ks)::rs)) us (t1++t2) (i1++i2)∧∀(G2:Gh) (w2:World) (ct:Ct),bn G2 w2 ρ (fM ct (nM ((ag,ks)::rs))).2.1 us->gD G2 w2 ρ (pH ct ((ag,ks)::rs)).2.1 (v::vs):=by
   intro u1 hu hv
   refine⟨u1++us,hu.append g1,λG2 w2 ct hr=>?_⟩
   simp only[nM,P']at hr
   obtain⟨r1,r2⟩:=bn.split (by rw[Tg,(bZ.len hu).1]) hr
   exact⟨hv G2 w2 _ r1 (Tg _ _),g2 G2 w2 _ r2⟩
  cases ag with
  |true=>
   obtain⟨u1,rfl,hu⟩:=h1
   exact key u1 hu λG2 w2 cs hr _=>⟨u1,rfl,hr⟩
  |false=>
   obtain⟨hu,FC⟩:=h1
   refine key [v] hu λG2 w2 cs hr hl=>?_
   have:=(bZ.len hu).1
   rw[<-this]at hl
   match cs,hl with
   | [c],_=>exact⟨c,rfl,hr.1,FC⟩
 | [],[],_::_,_,h=>h.elim
 | [],[],[],_::_,h=>h.elim
 | [],_::_,_,_,h=>h.elim
 |_::_,[],_,_,h=>h.elim
def ia:Nat->List PS->List (Nat×Bool×Nat)->List (Nat×Nat)
 |i,.v _ _::ps,bs=>ia (i+1) ps bs
 |i,.x _::ps,b::bs=>(i,b.1)::ia (i+1) ps bs
 |_,_,_=>[]
def vU:List (Nat×Bool×Nat)->Nat
 | []=>0
 |b::bs=>b.2.2+vU bs
theorem Ti:∀(bs:List (Nat×Bool×Nat)) (a:Nat),(vu a bs).1=a+vU bs
 | [],a=>rfl
 |b::bs,a=>by obtain⟨bx,ag,n⟩:=b;simp only[vu,vU,Ti bs];omega
theorem FX{w:World}{G:Gh}:∀{n a:Nat} {ts:List T} {vs:List Value},ts.length=n->eB G.q w ts vs->(∀j t,ts[j]?=some t->ρ[a+j]?=some t)->bn G w ρ (Es a n) vs∧dN (Es a n)=[]
 |0,a,[],[],_,_,_=>⟨trivial,rfl⟩
 |0,a,[],_::_,_,h,_=>h.elim
 |0,a,_::_,_,h,_,_=>by simp at h
 |n+1,a,[],_,h,_,_=>by simp at h
 |n+1,a,_::_,[],_,h,_=>h.elim
 |n+1,a,t::ts,v::vs,hl,h,oN=>by
  obtain⟨g1,g2⟩:=FX (a:=a+1) (by simpa using hl) h.2 (λj t' hj=>by have:=oN (j+1) t' (by simpa using hj);rw[<-this];congr 1;omega)
  exact⟨⟨⟨t,oN 0 t rfl,h.1⟩,g1⟩,by simp[Es,dN,g2]⟩
theorem KM{bl:Nat->Option Nat}(hn:∀b,G'.q b=none->G2.q b=none){G1:Gh}{w:World}{pl:Bool}:
  ∀{ps:List PS} {args:List Value} {xs:List Lf} {bs:List (Nat×Bool×Nat)} {i a:Nat} {ts:List T},vS G1 w ρ pl ps args xs bs->iP G' w' bl i ps ts->(∀j t,ts[j]?=some t->ρ[a+j]?=some t)->
   (∀j bx,(j,bx)∈ia i ps bs->bl j=some (G2.β bx)∧G2.ω (G2.β bx)=some (.x bx))->
   ts.length=vU bs∧∀r u,(r,u)∈(vu a bs).2->∃j bx,(j,bx)∈ia i ps bs∧r=.x bx∧fY G2 w' ρ bx u∧dt u=[]
 | [],args,xs,bs,i,a,ts,hA,hB,oN,hp=>by
  obtain⟨_,_,rfl⟩:=hA
  cases hB
  exact⟨rfl,λr u h=>by simp[vu]at h⟩
 | .v ag n::ps,args,xs,bs,i,a,ts,hA,hB,oN,hp=>by
  obtain⟨c,fb,vs,x1,x2,_,_,_,_,_,_,hA⟩:=hA
  exact KM (ps:=ps) (i:=i+1) hn hA hB oN hp
 | .x n::ps,args,xs,bs,i,a,ts,hA,hB,oN,hp=>by
  obtain⟨c,fb,bx,ag,z_,ac1,Tj,x1,x2,_,rfl,_,_,_,_,_,_,hA⟩:=hA
  obtain⟨b,arr,elem,t1,t2,hb,iA,hh,rfl,hl,hd,hB⟩:=hB
  obtain⟨q1,q2⟩:=hp i bx (by simp[ia])
  rw[hb]at q1
  cases q1
  obtain⟨g1,g2⟩:=KM hn (a:=a+n) hA hB (λj t hj=>by
   have:=oN (n+j) t (by rw[List.getElem?_append_right (by omega)];rw[hl];simpa using hj)
   rw[<-this];congr 1;omega) (λj bx hj=>hp j bx (by simp[ia,hj]))
  obtain⟨g3,g4⟩:=FX (a:=a) (G:=G2) (w:=w') hl (hd.bp (Nat.le_refl _) λb _ hb=>⟨hn b hb,rfl⟩) (λj t hj=>oN j t (by rw[List.getElem?_append_left (List.getElem?_eq_some_iff.1 hj).1];exact hj))
  refine⟨by simp[vU,hl,g1],λr u sF=>?_⟩
  simp only[vu,List.mem_cons,Prod.mk.injEq]at sF
  rcases sF with⟨rfl,rfl⟩|sF
  ·exact⟨i,bx,by simp[ia],rfl,⟨q2,arr,elem,hh,g3⟩,g4⟩
  ·obtain⟨j,y7,e1,e2⟩:=g2 r u sF
   exact⟨j,y7,by simp[ia,e1],e2⟩
end
def kq(P:Program)(g:FuncId):Prop:=∃fn,P.funcs[g]?=some fn∧(fn.name== "runtime.NumGoroutine")=false∧fn.body.isNone=false
theorem Tk{P:Program}{w:World}{g:FuncId}(h:kq P g)(args:Array Value):(callFunc g args).run P w=.ok (.enter g args) w:=by
 obtain⟨fn,h1,h2,h3⟩:=h
 simp only[callFunc,Sem.run_bind,run_program,Result.andThen_ok,h1,h2,h3,cI,if_false,Sem.run_pure]
section
variable {M:Nat->Prop} {B:eT} {d:Nat} {up:Nat->Nat->Value} {ρ:List T} {G:Gh} {a:Act} {w:World} {S:Nat->aB} {P:Program}
variable {cx:Cx} {cV ft oi:Nat} {s:St} {R:List bD} {ct:Ct} {k':Wk} {o:Oper} {Q:Exit->Act->World->Prop}
theorem KN:∀{l:List Nat},xk l=true->l.Nodup
 | [],_=>List.nodup_nil
 |x::xs,h=>by
  simp only[xk,bI,Bool.not_eq_true']at h
  refine List.nodup_cons.2 ⟨λhm=>?_,KN h.2⟩
  have:=h.1
  rw[List.any_eq_false]at this
  exact this x hm (by simp)
theorem C9:∀{ps:List PS} {bs:List (Nat×Bool×Nat)} {i j bx:Nat},(j,bx)∈ia i ps bs->i<=j∧j<i+ps.length
 | [],bs,i,j,bx,h=>by simp[ia]at h
 | .v _ _::ps,bs,i,j,bx,h=>by have:=C9 (show(j,bx)∈ia (i+1) ps bs from h);simp only[List.length_cons];omega
 | .x _::ps,[],i,j,bx,h=>by simp[ia]at h
 | .x _::ps,b::bs,i,j,bx,h=>by
  simp only[ia,List.mem_cons,Prod.mk.injEq]at h
  simp only[List.length_cons]
  rcases h with⟨rfl,_⟩|h
  ·omega
  ·have:=C9 h;omega
theorem C_:∀{ps:List PS} {bs:List (Nat×Bool×Nat)} {i j bx:Nat},(j,bx)∈ia i ps bs->bx∈bs.map (·.1)
 | [],bs,i,j,bx,h=>by simp[ia]at h
 | .v _ _::ps,bs,i,j,bx,h=>C_ (show(j,bx)∈ia (i+1) ps bs from h)
 | .x _::ps,[],i,j,bx,h=>by simp[ia]at h
 | .x _::ps,b::bs,i,j,bx,h=>by
  simp only[ia,List.mem_cons,Prod.mk.injEq]at h
  rcases h with⟨_,rfl⟩|h
  ·simp
  ·have:=C_ h;simp only[List.map_cons,List.mem_cons];exact .inr this
theorem KO:∀{ps:List PS} {bs:List (Nat×Bool×Nat)} {i:Nat},(bs.map (·.1)).Nodup->
  (∀j bx y7,(j,bx)∈ia i ps bs->(j,y7)∈ia i ps bs->bx=y7)∧(∀j j' bx,(j,bx)∈ia i ps bs->(j',bx)∈ia i ps bs->j=j')
 | [],bs,i,_=>⟨λ_ _ _ h=>by simp[ia]at h,λ_ _ _ h=>by simp[ia]at h⟩
 | .v _ _::ps,bs,i,hn=>KO (ps:=ps) (i:=i+1) hn
 | .x _::ps,[],i,_=>⟨λ_ _ _ h=>by simp[ia]at h,λ_ _ _ h=>by simp[ia]at h⟩
 | .x _::ps,b::bs,i,hn=>by
  simp only[List.map_cons,List.nodup_cons]at hn
  obtain⟨g1,g2⟩:=KO (ps:=ps) (i:=i+1) hn.2
  constructor
  ·intro j bx y7 h h'
   simp only[ia,List.mem_cons,Prod.mk.injEq]at h h'
   rcases h with⟨rfl,rfl⟩|h<;>rcases h' with⟨h1,rfl⟩|h'
   ·rfl
   ·have:=C9 h';omega
   ·have:=C9 h;omega
   ·exact g1 j bx y7 h h'
  ·intro j j' bx h h'
   simp only[ia,List.mem_cons,Prod.mk.injEq]at h h'
   rcases h with⟨rfl,rfl⟩|h<;>rcases h' with⟨h1,h2⟩|h'
   ·exact h1.symm
   ·exact absurd (C_ h') hn.1
   ·subst h2;exact absurd (C_ h) hn.1
   ·exact g2 j j' bx h h'
def vV(β:Nat->Nat)(pr:List (Nat×Nat))(j:Nat):Option Nat:=(pr.find? λp=>p.1==j).map λp=>β p.2
def Ae(pr:List (Nat×Nat))(bx:Nat):Option Nat:=(pr.find? λp=>p.2==bx).map (·.1)
theorem C'{β:Nat->Nat}{pr:List (Nat×Nat)}{j b:Nat}(h:vV β pr j=some b):∃bx,(j,bx)∈pr∧b=β bx:=by
 unfold vV at h
 cases hf:pr.find? (λp=>p.1==j)with
 |none=>simp[hf]at h
 |some p=>
  simp[hf]at h
  have h1:=List.mem_of_find?_eq_some hf
  have h2:=List.find?_some hf
  simp at h2
  exact⟨p.2,by rw[<-h2];exact h1,h.symm⟩
theorem ac2{β:Nat->Nat}{pr:List (Nat×Nat)}{j bx:Nat}(hi:∀j bx y7,(j,bx)∈pr->(j,y7)∈pr->bx=y7)(h:(j,bx)∈pr):vV β pr j=some (β bx):=by
 cases hf:vV β pr j with
 |none=>
  unfold vV at hf
  simp only[Option.map_eq_none_iff,List.find?_eq_none]at hf
  exact absurd (by simp) (hf _ h)
 |some b=>
  obtain⟨y7,h1,rfl⟩:=C' hf
  rw[hi j bx y7 h h1]
theorem Tl{pr:List (Nat×Nat)}{bx j:Nat}(h:Ae pr bx=some j):(j,bx)∈pr:=by
 unfold Ae at h
 cases hf:pr.find? (λp=>p.2==bx)with
 |none=>simp[hf]at h
 |some p=>
  simp[hf]at h
  have h1:=List.mem_of_find?_eq_some hf
  have h2:=List.find?_some hf
  simp at h2
  rw[<-h,<-h2];exact h1
theorem ac3{pr:List (Nat×Nat)}{j bx:Nat}(hi:∀j j' bx,(j,bx)∈pr->(j',bx)∈pr->j=j')(h:(j,bx)∈pr):Ae pr bx=some j:=by
 cases hf:Ae pr bx with
 |none=>
  unfold Ae at hf
  simp only[Option.map_eq_none_iff,List.find?_eq_none]at hf
  exact absurd (by simp) (hf _ h)
 |some j'=>rw[hi j j' bx h (Tl hf)]
theorem qx{G:Gh}{b bx:Nat}(h:G.ω b=some (.x bx)):G.q b=some (.x bx):=Cs h rfl
def uV(pl:Bool)(G:Gh)(pr:List (Nat×Nat))(b:Nat):Option Lb:=
 match G.q b with
 |none=>none
 |some .f=>some .f
 |some (.o _ _)=>if pl then some .f else none
 |some (.x bx)=>if b=G.β bx then(match Ae pr bx with|some j=>some (.x j)|none=>some .f)else some .f
theorem ac4{pl:Bool}{pr:List (Nat×Nat)}{b:Nat}(h:(if pl then G.q b else er G.ω b)=none):uV pl G pr b=none:=by
 unfold uV
 cases hg:G.q b with
 |none=>rfl
 |some l=>
  cases pl with
  |true=>simp[hg]at h
  |false=>
   have Sd:=JS hg
   cases l<;>simp[er,Sd]at h⊢
theorem KQ{pl:Bool}{ωc:Nat->Option Lb}{bl:Nat->Option Nat}(iA:∀b,(if pl then G.q b else er G.ω b)=none->ωc b=none):
  ∀{ps:List PS} {args:List Value} {xs:List Lf} {bs:List (Nat×Bool×Nat)} {i:Nat},vS G w ρ pl ps args xs bs->(∀j bx,(j,bx)∈ia i ps bs->bl j=some (G.β bx)∧ωc (G.β bx)=some (.x j))->
   Ac ωc w bl i ps args (xs.map (Lf.ev ρ))∧∀j bx,(j,bx)∈ia i ps bs->G.ω (G.β bx)=some (.x bx)
 | [],args,xs,bs,i,h,_=>by
  obtain⟨rfl,rfl,rfl⟩:=h
  exact⟨⟨rfl,rfl⟩,λj bx h=>by simp[ia]at h⟩
 | .v ag n::ps,args,xs,bs,i,h,hp=>by
  obtain⟨c,fb,vs,x1,x2,rfl,rfl,hl,pu,fI,qD,h⟩:=h
  obtain⟨g1,g2⟩:=KQ iA h (i:=i+1) hp
  refine⟨⟨c,fb,vs,_,_,rfl,List.map_append,by rw[List.length_map];exact hl,pu,?_,g1⟩,g2⟩
  cases pl with
  |true=>exact(qD rfl).bp (Nat.le_refl _) λb _ hb=>⟨iA b (by simpa using hb),rfl⟩
  |false=>exact fI.bp (Nat.le_refl _) λb _ hb=>⟨iA b (by simpa using hb),rfl⟩
 | .x n::ps,args,xs,bs,i,h,hp=>by
  obtain⟨c,fb,bx,ag,z_,arr,elem,x1,x2,rfl,rfl,hc,hb,hh,rfl,hl,hd,h⟩:=h
  obtain⟨g1,g2⟩:=KQ iA h (i:=i+1) λj bx hj=>hp j bx (by simp[ia,hj])
  obtain⟨q1,q2⟩:=hp i bx (by simp[ia])
  refine⟨⟨c,fb,G.β bx,arr,elem,_,_,rfl,hc,q1,q2,hh,List.map_append,by rw[List.length_map];exact hl,?_,g1⟩,λj y7 hj=>?_⟩
  ·refine hd.bp (Nat.le_refl _) λb _ kl=>⟨iA b ?_,rfl⟩
   cases pl with
   |true=>simpa using kl
   |false=>simpa using R0 kl
  ·simp only[ia,List.mem_cons,Prod.mk.injEq]at hj
   rcases hj with⟨_,rfl⟩|hj
   ·exact hb
   ·exact g2 j y7 hj
theorem KR{pl:Bool}:∀{ps:List PS} {args:List Value} {xs:List Lf} {bs:List (Nat×Bool×Nat)} {i:Nat},vS G w ρ pl ps args xs bs->∀j bx,(j,bx)∈ia i ps bs->G.ω (G.β bx)=some (.x bx)
 | [],args,xs,bs,i,h,j,bx,hj=>by simp[ia]at hj
 | .v ag n::ps,args,xs,bs,i,h,j,bx,hj=>by
  obtain⟨c,fb,vs,x1,x2,rfl,rfl,hl,pu,fI,qD,h⟩:=h
  exact KR (ps:=ps) (i:=i+1) h j bx hj
 | .x n::ps,args,xs,bs,i,h,j,bx,hj=>by
  obtain⟨c,fb,y7,ag,z_,arr,elem,x1,x2,rfl,rfl,hc,hb,hh,rfl,hl,hd,h⟩:=h
  simp only[ia,List.mem_cons,Prod.mk.injEq]at hj
  rcases hj with⟨_,rfl⟩|hj
  ·exact hb
  ·exact KR (ps:=ps) (i:=i+1) h j bx hj
def Gh.call(G G':Gh)(sz:Nat)(rn:Ren):Gh where
 ω:=λb=>if b<sz then G.ω b else match G'.ω b with
  |some (.o id p)=>(oR rn id).map λj=>.o j p
  |_=>none
 β:=G.β
 H:=λj=>match pk rn j with
  |some (some id)=>G'.H id
  |some none=>λ_=>.slice none 0 0
  |none=>G.H j
 hs:=λj p=>by
  rcases hr:pk rn j with _|(_|id)
  ·exact G.hs j p
  ·exact⟨_,_,_,rfl⟩
  ·exact G'.hs _ p
theorem Tm{sg:pG}(h:rF sg=false):(∀k∈nM sg.rs,kP k=false)∧∀p∈sg.ps,∀n,p≠.x n:=by
 simp only[rF,Bool.or_eq_false_iff]at h
 obtain⟨h1,h2⟩:=h
 constructor
 ·generalize sg.rs=rs at h1
  induction rs with
  |nil=>intro k hk;simp[nM]at hk
  |cons r rs ih=>
   simp only[List.any_cons,Bool.or_eq_false_iff]at h1
   intro k hk
   simp only[nM,List.mem_append]at hk
   rcases hk with hk|hk
   ·have:=List.any_eq_false.1 h1.1 k hk
    cases k with
    |s=>rfl
    |p=>simp at this
    |o dp=>cases dp<;>simp at this⊢;rfl
   ·exact ih h1.2 k hk
 ·intro p hp n he
  subst he
  have:=List.any_eq_false.1 h2 _ hp
  simp at this
theorem Tn{pl:Bool}:∀{ps:List PS} {args:List Value} {xs:List Lf} {bs:List (Nat×Bool×Nat)},(∀p∈ps,∀n,p≠.x n)->vS G w ρ pl ps args xs bs->bs=[]
 | [],_,_,_,_,h=>h.2.2
 | .v _ _::ps,args,xs,bs,hp,h=>by
  obtain⟨c,fb,vs,x1,x2,_,_,_,_,_,_,h⟩:=h
  exact Tn (λp sG=>hp p (by simp[sG])) h
 | .x n::ps,args,xs,bs,hp,h=>absurd rfl (hp (.x n) (by simp) n)
theorem KS{pl:Bool}{G':Gh}{w':World}{bl:Nat->Option Nat}:∀{ps:List PS} {args:List Value} {xs:List Lf} {bs:List (Nat×Bool×Nat)} {i:Nat} {ts:List T},vS G w ρ pl ps args xs bs->iP G' w' bl i ps ts->ts.length=vU bs
 | [],args,xs,bs,i,ts,hA,hB=>by
  obtain⟨_,_,rfl⟩:=hA
  cases hB
  rfl
 | .v _ _::ps,args,xs,bs,i,ts,hA,hB=>by
  obtain⟨c,fb,vs,x1,x2,_,_,_,_,_,_,hA⟩:=hA
  exact KS (ps:=ps) (i:=i+1) hA hB
 | .x n::ps,args,xs,bs,i,ts,hA,hB=>by
  obtain⟨c,fb,bx,ag,z_,ac1,Tj,x1,x2,_,rfl,_,_,_,_,_,_,hA⟩:=hA
  obtain⟨b,arr,elem,t1,t2,hb,iA,hh,rfl,hl,hd,hB⟩:=hB
  have:=KS hA hB
  simp[vU,hl,this]
theorem FY:∀(ks:List Ck) (ct:Ct),(fM ct ks).1.a=ct.a+ks.length
 | [],ct=>rfl
 | .o dp::ks,ct=>by simp only[fM,FY ks,List.length_cons];omega
 | .s::ks,ct=>by simp only[fM,FY ks,List.length_cons];omega
 | .p::ks,ct=>by simp only[fM,FY ks,List.length_cons];omega
theorem To:∀{bs:List (Nat×Bool×Nat)} {a bx:Nat},bx∈bs.map (·.1)->(vu a bs).2.look (.x bx)≠none
 | [],a,bx,h=>by simp at h
 |b::bs,a,bx,h=>by
  obtain⟨b0,ag,n⟩:=b
  simp only[vu,St.look]
  cases hb:(bD.x b0).beq (.x bx)with
  |true=>simp
  |false=>
   simp only[List.map_cons,List.mem_cons]at h
   rcases h with rfl|h
   ·simp[bD.beq]at hb
   ·exact To h
theorem ac6{G':Gh}{w':World}{rs:List (Bool×List Ck)}{v:Value}{ts:List T}{is:List (Option Nat)}(h:KJ G' w' rs v ts is):∃vs:List Value,ju G' w' rs vs ts is∧
  ∀(G2:Gh) (w2:World) (ct:Ct),gD G2 w2 ρ (pH ct rs).2.1 vs->cL G2 w2 ρ (vw (pH ct rs).2.1) v:=by
 match rs,h with
 | [],h=>obtain⟨rfl,rfl⟩:=h;exact⟨[],trivial,λ_ _ _ _=>trivial⟩
 | [r],h=>exact⟨[v],h,λG2 w2 ct hr=>hr.1⟩
 |r::r'::rs,h=>
  obtain⟨vs,hv,h'⟩:=h
  exact⟨vs,h',λG2 w2 ct hr=>⟨vs,hv,hr⟩⟩
theorem Tp:∀(rs:List (Bool×List Ck)) (ct:Ct),tS (pH ct rs).2.1=dN (fM ct (nM rs)).2.1
 | [],ct=>rfl
 |r::rs,ct=>by
  simp only[pH,nM,P',tS,J7]
  rw[Tp rs]
theorem ac7(vs:List (Bool×List Ce)):∀i∈dt (vw vs),i∈tS vs:=by
 intro i hi
 match vs,hi with
 | [],hi=>simp[vw,dt]at hi
 | [v],hi=>simpa[vw,dt,tS]using hi
 |v::v'::vs,hi=>exact hi
theorem ac8(h:Rel M B d up s ρ G a w)(hn:∀n,o.dst=some n->n<a.tmps.size){c:Call}{g:Nat}(ho:o.op=.call c)(hc:c.callee=.value (.func g))(hg:kq P g)
  {sg:pG}(Z7:cx.sg g=some sg)(hC:FU P sg g (S g))(hk:jm cx cV ft d o oi ⟨s.only R,[],ct,[]⟩=some k')(hd:k'.bJ S ρ)(hM:∀i,ct.i<=i->i<k'.ct.i->¬M i):
  bT P (Mn M ct.i k'.ct.i) B d up ρ a w s o k'.w Q:=by
 have hw:=dy.start h R ct
 simp only[jm,ho,hc,Z7,Option.bind_some]at hk
 unfold RP at hk
 simp only[cN]at hk
 obtain⟨k1,ue,⟨k2,xs,bs⟩,fi,hk⟩:=hk
 cases KT:xk (bs.map (·.1))with
 |false=>simp[KT]at hk
 |true=>
  simp only[KT,cond_true,bF]at hk
  have ac9:=KN KT
  have KU:∀G1,iQ G G1->c_ G1 w ρ (c.args.toList.map λx=>cz d (Wk.get ⟨s.only R,[],ct,[]⟩) x) (c.args.toList.map a.eval):=by
   intro G1 hl
   generalize c.args.toList=l
   induction l with
   |nil=>trivial
   |cons x l ih=>exact⟨(hw.jc x).1.bp (hl.bp w) λ_ _ hf=>hf,ih⟩
  obtain⟨pl,vG⟩:∃pl,pl=rF sg:=⟨_,rfl⟩
  obtain⟨G1,w1,l1,i1,uT,hD1⟩:∃G1,dy M B d up ρ G a w k1 G1∧iQ G G1∧k1.ct=ct∧(pl=true->CJ k1 (xj (c.args.toList.map λx=>cz d (Wk.get ⟨s.only R,[],ct,[]⟩) x)))∧k1.is=[]:=by
   cases hp:rF sg with
   |false=>
    rw[hp]at ue
    simp only[cond_false,bF]at ue
    subst ue
    exact⟨G,hw,.refl _,rfl,(λhe=>by rw[vG,hp]at he;cases he),rfl⟩
   |true=>
    rw[hp]at ue
    simp only[cond_true]at ue
    obtain⟨G1,q1,q2⟩:=hw.pN ue
    obtain⟨_,_,_,_,q3,q4,q5,_⟩:=hw.eu ue
    exact⟨G1,q1,q2,q3,λ_=>q5,q4⟩
  have Td:bJ S ρ k'.ct.a k'.is:=hd
  rw[<-hk]at Td
  simp only at Td
  obtain⟨n0,outs,e1,hS,bN,qD⟩:=Td
  obtain⟨f1,f2⟩:=Tf sg.rs k2.ct
  have hma:k2.ct.a<=(pH k2.ct sg.rs).1.a:=by
   have key:∀(ks:List Ck) (ct:Ct),ct.a<=(fM ct ks).1.a:=by
    intro ks
    induction ks with
    |nil=>intro ct;exact Nat.le_refl _
    |cons k ks ih=>
     intro ct
     cases k with
     |s=>have:=ih ⟨ct.a+1,ct.i⟩;simp only[fM]at this⊢;omega
     |p=>have:=ih ⟨ct.a+1,ct.i⟩;simp only[fM]at this⊢;omega
     |o dp=>have:=ih ⟨ct.a+1,pi ct.i+1⟩;simp only[fM]at this⊢;omega
   rw[f1];exact key _ _
  have hba:=Ti bs (pH k2.ct sg.rs).1.a
  have zZ:n0=k2.ct.a:=by omega
  subst zZ
  have ac_:k2.bJ S ρ:=qD
  obtain⟨_,i2,G2,w2,l2,hA⟩:=KK (pl:=pl) w1 (KU G1 l1) uT fi ac_
  have hA:=hA G2 (.refl _)
  have hlG:iQ G G2:=l1.trans l2
  have xN:=KO (ps:=sg.ps) (i:=0) ac9
  have hx:=KR (i:=0) hA
  have uW:∀j bx,(j,bx)∈ia 0 sg.ps bs->vV G2.β (ia 0 sg.ps bs) j=some (G2.β bx)∧uV pl G2 (ia 0 sg.ps bs) (G2.β bx)=some (.x j):=by
   intro j bx hj
   refine⟨ac2 xN.1 hj,?_⟩
   simp only[uV,qx (hx j bx hj),if_true,ac3 xN.2 hj]
  obtain⟨jH,_⟩:=KQ (w:=w) (λb hb=>ac4 (pr:=ia 0 sg.ps bs) hb) hA uW
  have cC:yZ sg (uV pl G2 (ia 0 sg.ps bs)) (vV G2.β (ia 0 sg.ps bs)) w:=by
   constructor
   ·intro b l hb
    cases pO:G2.q b with
    |none=>simp[uV,pO]at hb
    |some l0=>
     refine⟨(w2.rel.iO b l0 (JS pO)).2,?_⟩
     cases l0 with
     |f=>simp[uV,pO]at hb;exact .inl hb.symm
     |o i p=>cases pl<;>simp[uV,pO]at hb;exact .inl hb.symm
     |x bx=>
      simp only[uV,pO]at hb
      split at hb
      ·rename_i Bu
       split at hb
       ·rename_i j hj
        cases hb
        exact .inr ⟨j,rfl,by rw[Bu];exact(uW j bx (Tl hj)).1⟩
       ·cases hb;exact .inl rfl
      ·cases hb;exact .inl rfl
   ·intro i b hb
    obtain⟨bx,h1,rfl⟩:=C' hb
    exact⟨by have:=C9 h1;omega,(uW i bx h1).2⟩
   ·intro x hx
    obtain⟨h1,h2,h3⟩:=w2.rel.base.aa2 x hx
    exact⟨h1,by simp[uV,show G2.q x.1=none from Cr h2],h3⟩
  have Da:=hC w _ _ (c.args.toList.map a.eval) _ outs hS cC jH
  have iW:(execOp a.eval o).run P w=.ok (.enter g (c.args.toList.map a.eval).toArray) w:=by
   unfold execOp
   rw[ho]
   show Sem.run P (do let d <-resolve a.eval c o.type;invoke d.target d.args) w=_
   simp only[resolve,hc,Act.eval,Deferred.ofValue,pure_bind,invoke]
   rw[Tk hg]
   congr 2
   exact Array.ext' (by simp)
  simp only[bT,Oper.wp,iW,Oper.upon]
  refine Da.mono ?_
  rintro e w' ⟨v,G',is,o1,o2,rfl,gX⟩
  simp only
  let ks:=nM sg.rs
  obtain⟨rn,Z8⟩:∃rn,rn=lD k2.ct.i ks is:=⟨_,rfl⟩
  let GG:=G2.call G' w.heap.size rn
  have hold:∀b,b<w.heap.size->GG.ω b=G2.ω b:=λb hb=>by show(if b<w.heap.size then _ else _)=_;rw[if_pos hb]
  have Db:∀b,¬b<w.heap.size->GG.ω b=match G'.ω b with|some (.o id p)=>(oR rn id).map λj=>.o j p|_=>none:=λb hb=>by show(if b<w.heap.size then _ else _)=_;rw[if_neg hb]
  have ac':∀b,G2.q b=none->uV pl G2 (ia 0 sg.ps bs) b=none:=λb hb=>by simp[uV,hb]
  have rT:∀j bx,(j,bx)∈ia 0 sg.ps bs->G'.ω (G2.β bx)=some (.x j):=by
   intro j bx hj
   have key:∀{ps:List PS} {i0:Nat} {ts:List T} {z_:List (Nat×Bool×Nat)},iP G' w' (vV G2.β (ia 0 sg.ps bs)) i0 ps ts->(j,bx)∈ia i0 ps z_->G'.ω (G2.β bx)=some (.x j):=by
    intro ps
    induction ps with
    |nil=>intro i0 ts z_ _ hm;simp[ia]at hm
    |cons p ps ih=>
     intro i0 ts z_ hB hm
     cases p with
     |v ag n=>exact ih (i0:=i0+1) hB hm
     |x n=>
      obtain⟨b',arr,elem,t1,t2,kl,ada,hh',_,_,_,hB⟩:=hB
      cases z_ with
      |nil=>simp[ia]at hm
      |cons b0 bs0=>
       simp only[ia,List.mem_cons,Prod.mk.injEq]at hm
       rcases hm with⟨rfl,_⟩|hm
       ·rw[(uW j bx hj).1]at kl;cases kl;exact ada
       ·exact ih hB hm
   exact key gX.box hj
  have KV:∀b,b<w.heap.size->∀i p,G'.ω b≠some (.o i p):=by
   intro b hb i p hi
   cases qK:uV pl G2 (ia 0 sg.ps bs) b with
   |none=>have:=(gX.free b hb qK).1;rw[hi]at this;cases this
   |some l=>
    rcases(cC.iO b l qK).2 with rfl|⟨j,rfl,hj⟩
    ·have:=(gX.Eu b qK).1;rw[hi]at this;cases this
    ·obtain⟨bx,h1,rfl⟩:=C' hj
     rw[rT j bx h1]at hi;cases hi
  have dB:pl=true->∀b,G'.q b=none->GG.q b=none:=by
   intro hp b hb
   replace hb:=gX.qq (by rw[<-vG];exact hp) b hb
   by_cases bE:b<w.heap.size
   ·rw[Gh.xD (hold b bE)]
    cases qK:uV pl G2 (ia 0 sg.ps bs) b with
    |none=>
     cases pO:G2.q b with
     |none=>rfl
     |some l=>
      exfalso
      cases l with
      |f=>simp[uV,pO]at qK
      |o i p=>simp[uV,pO,hp]at qK
      |x bx=>
       simp only[uV,pO]at qK
       split at qK
       ·split at qK<;>cases qK
       ·cases qK
    |some l=>
     exfalso
     rcases(cC.iO b l qK).2 with rfl|⟨j,rfl,hj⟩
     ·have:=(gX.Eu b qK).1;rw[hb]at this;cases this
     ·obtain⟨bx,h1,rfl⟩:=C' hj
      rw[rT j bx h1]at hb;cases hb
   ·exact Cr (by rw[Db b bE,hb])
  obtain⟨vs,qT,adb⟩:=ac6 (ρ:=ρ) gX.ret
  obtain⟨us,S4,htp⟩:=Th (ρ:=ρ) qT
  have R2:=bZ.len S4
  have qI:(pH k2.ct sg.rs).1.a=k2.ct.a+o1.length:=by rw[f1,FY,R2.2.1]
  have tc:o2.length=vU bs:=KS hA gX.box
  have hm:(vu (pH k2.ct sg.rs).1.a bs).1-k2.ct.a=o1.length+o2.length:=by omega
  have ade:∀j t,o1[j]?=some t->ρ[k2.ct.a+j]?=some t:=by
   intro j t hj
   have bE:=(List.getElem?_eq_some_iff.1 hj).1
   rw[bN j (by omega),gX.outs,List.getD_eq_getElem?_getD,List.getElem?_append_left bE,hj]
   rfl
  have adf:∀j t,o2[j]?=some t->ρ[(pH k2.ct sg.rs).1.a+j]?=some t:=by
   intro j t hj
   have bE:=(List.getElem?_eq_some_iff.1 hj).1
   have:=bN (o1.length+j) (by omega)
   rw[qI,Nat.add_assoc,this,gX.outs,List.getD_eq_getElem?_getD,List.getElem?_append_right (by omega),show o1.length+j-o1.length=j by omega,hj]
   rfl
  obtain⟨r1,r2,r3,r4,r5,r6⟩:=C8 (G2:=GG) (rn:=rn) (w':=w') (ρ:=ρ) (λj x hj=>by show(match pk rn j with|some (some id)=>G'.H id|some none=>_|none=>G2.H j)=_;rw[hj];cases x<;>rfl)
   (λj id hj c r hcr=>by
    have bE:¬c<w.heap.size:=λbE=>KV c bE _ _ hcr
    rw[Db c bE,hcr];simp only[hj,Option.map_some]) S4 (ct:=k2.ct) ade
   (λk hk hkp=>dB (by
    rw[vG]
    cases hh:rF sg with
    |true=>rfl
    |false=>have:=(Tm hh).1 k hk;rw[hkp]at this;cases this)) (λj x hj=>by rw[Z8];exact FW hj) (λj id hj=>by rw[Z8];exact C7 gX.nodup hj)
  have wQ:∀r u,(r,u)∈(vu (pH k2.ct sg.rs).1.a bs).2->∃j bx,(j,bx)∈ia 0 sg.ps bs∧r=.x bx∧fY GG w' ρ bx u∧dt u=[]:=by
   cases hp:rF sg with
   |false=>
    have Sl:bs=[]:=Tn (Tm hp).2 hA
    subst Sl
    intro r u sF
    simp[vu]at sF
   |true=>
    refine(KM (dB (by rw[vG,hp])) hA gX.box adf λj bx hj=>?_).2
    have bE:=(w2.rel.iO _ _ (hx j bx hj)).2
    exact⟨(uW j bx hj).1,by show GG.ω (G2.β bx)=_;rw[hold _ bE];exact hx j bx hj⟩
  have lA:k2.ct.i=ct.i:=by rw[i2,i1]
  have Z9:k'.ct.i=(fM k2.ct ks).1.i:=by rw[<-hk];show(pH k2.ct sg.rs).1.i=_;rw[f1]
  have hW:k'.w=(fA d o (vw (pH k2.ct sg.rs).2.1)++((fM k2.ct ks).2.2++(vu (pH k2.ct sg.rs).1.a bs).2))++k2.w:=by
   rw[<-hk]
   show(_++((pH k2.ct sg.rs).2.2++_))++_=_
   rw[f2];rfl
  have hN:∀i,ct.i<=i->i<k'.ct.i->¬M i:=hM
  have hK:dA (qC (fA d o (vw (pH k2.ct sg.rs).2.1)++((fM k2.ct ks).2.2++(vu (pH k2.ct sg.rs).1.a bs).2))) (λi=>ct.i<=i∧i<k'.ct.i) G2 w GG w':=by
   refine⟨gX.size,λb hb h0=>⟨by rw[Gh.xD (hold b hb)];exact h0,(gX.free b hb (ac' b h0)).2⟩,λb hb h0=>by rw[hold b hb];exact h0,λb l hb hl=>?_,λi hi=>⟨rfl,?_⟩⟩
   ·have bE:=(w2.rel.iO b l hb).2
    refine⟨by rw[hold b bE];exact hb,?_⟩
    cases qK:uV pl G2 (ia 0 sg.ps bs) b with
    |none=>exact(gX.free b bE qK).2
    |some l'=>
     rcases(cC.iO b l' qK).2 with rfl|⟨j,rfl,hj⟩
     ·exact(gX.Eu b qK).2
     ·exfalso
      obtain⟨bx,h1,rfl⟩:=C' hj
      rw[hx j bx h1]at hb
      cases hb
      refine hl ?_
      show St.look _ (bD.x bx)≠none
      rw[nC,nC]
      intro e
      have e1:=(Option.or_eq_none_iff.1 (Option.or_eq_none_iff.1 e).2).2
      exact To (C_ h1) e1
   ·intro p _
    refine congrFun (?_:(match pk rn i with|some (some id)=>G'.H id|some none=>λ_=>.slice none 0 0|none=>G2.H i)=G2.H i) p
    cases ul:pk rn i with
    |none=>rfl
    |some x=>
     have je:=P_ ul
     rw[Z8]at je
     exact absurd ⟨by rw[<-lA];exact(KL je).1,by rw[Z9];exact r5 i x je⟩ hi
  rw[hW]
  refine⟨GG,J' h w2 (λr=>nC _ _ r) hK (λi hi=>hN i hi.1 hi.2) (λi hi=>.inl hi) (λn qH=>Kb qH) gX.so ?_,Cz _ _ _⟩
  have bQ:∀r u,(r,u)∈(fM k2.ct ks).2.2->∃j,r=.o j∧ct.i<=j∧j<k'.ct.i∧cM GG w' ρ j u∧dt u=[]:=by
   intro r u sF
   obtain⟨j,g1,g2,g3,g4⟩:=r6 r u sF
   exact⟨j,g1,by rw[<-lA];exact g2,by rw[Z9];exact g3,g4⟩
  have hmb:∀j bx,(j,bx)∈ia 0 sg.ps bs->M bx:=λj bx hj=>(w2.rel.iO _ _ (hx j bx hj)).1
  have rV:∀r u,St.look ((fM k2.ct ks).2.2++(vu (pH k2.ct sg.rs).1.a bs).2) r=some u->(r,u)∈(fM k2.ct ks).2.2∨(r,u)∈(vu (pH k2.ct sg.rs).1.a bs).2:=
   λr u hl=>List.mem_append.1 (FV hl)
  refine⟨λe n u he hl=>?_,λb u hl=>?_,λi u hl=>?_,λr u hl i hi=>?_,λi hi=>?_,λb l hb=>?_⟩
  ·rcases l7 hl with⟨n',gO,e1,rfl⟩|hl
   ·cases e1
    rw[gO,RZ (hn _ gO)]
    exact adb GG w' k2.ct (htp GG w' k2.ct r1)
   ·rcases rV _ _ hl with hm|hm
    ·obtain⟨j,e1,_⟩:=bQ _ _ hm;cases e1
    ·obtain⟨j,bx,_,e1,_⟩:=wQ _ _ hm;cases e1
  ·rcases l7 hl with⟨n',gO,e1,rfl⟩|hl
   ·cases e1
   ·rcases rV _ _ hl with hm|hm
    ·obtain⟨j,e1,_⟩:=bQ _ _ hm;cases e1
    ·obtain⟨j,bx,_,e1,e2,_⟩:=wQ _ _ hm;cases e1;exact e2
  ·rcases l7 hl with⟨n',gO,e1,rfl⟩|hl
   ·cases e1
   ·rcases rV _ _ hl with hm|hm
    ·obtain⟨j,e1,_,_,e2,_⟩:=bQ _ _ hm;cases e1;exact e2
    ·obtain⟨j,bx,_,e1,_⟩:=wQ _ _ hm;cases e1
  ·rcases l7 hl with⟨n',gO,e1,rfl⟩|hl
   ·have:=ac7 _ i hi
    rw[Tp]at this
    have:=r4 i this
    exact .inr ⟨by omega,by rw[Z9];exact this.2⟩
   ·rcases rV _ _ hl with hm|hm
    ·obtain⟨j,_,_,_,_,e2⟩:=bQ _ _ hm;rw[e2]at hi;cases hi
    ·obtain⟨j,bx,_,_,_,e2⟩:=wQ _ _ hm;rw[e2]at hi;cases hi
  ·have:∀r:bD,(r=.x i∨r=.o i)->St.look (fA d o (vw (pH k2.ct sg.rs).2.1)++((fM k2.ct ks).2.2++(vu (pH k2.ct sg.rs).1.a bs).2)) r≠none->Mn M ct.i k'.ct.i i:=by
    intro r hr hl
    obtain⟨u,hu⟩:=Option.ne_none_iff_exists'.1 hl
    rcases l7 hu with⟨n',gO,e1,rfl⟩|hl
    ·rcases hr with rfl|rfl<;>cases e1
    ·rcases rV _ _ hl with hm|hm
     ·obtain⟨j,e1,g1,g2,_⟩:=bQ _ _ hm
      rcases hr with rfl|rfl
      ·cases e1
      ·cases e1;exact .inr ⟨g1,g2⟩
     ·obtain⟨j,bx,hj,e1,_⟩:=wQ _ _ hm
      rcases hr with rfl|rfl
      ·cases e1;exact .inl (hmb j _ hj)
      ·cases e1
   rcases hi with hi|hi
   ·exact this _ (.inl rfl) hi
   ·exact this _ (.inr rfl) hi
  ·by_cases bE:b<w.heap.size
   ·rw[hold b bE]at hb
    have:=w2.rel.iO b l hb
    exact⟨.inl this.1,by have:=gX.size;omega⟩
   ·rw[Db b bE]at hb
    cases pO:G'.ω b with
    |none=>rw[pO]at hb;cases hb
    |some l'=>
     rw[pO]at hb
     cases l' with
     |f=>cases hb
     |x i=>cases hb
     |o i p=>
      simp only[Option.map_eq_some_iff]at hb
      obtain⟨j,hj,rfl⟩:=hb
      have je:=Ad hj
      rw[Z8]at je
      exact⟨.inr ⟨by rw[<-lA];exact(KL je).1,by rw[Z9];exact r5 j _ je⟩,gX.iO b _ pO⟩
structure Env (P:Program) (cx:Cx) (S:Nat->aB):Prop where
 dW:ew P cx
 fns:∀g sg,cx.sg g=some sg->kq P g∧FU P sg g (S g)
 dL:∀g fn,cx.fn g=some fn->P.funcs[g]?=some fn∧kq P g
theorem bT.quiet{W:St}(h:bT P M B d up ρ a w s o W Q∧k'.ct.i=ct.i):bT P (Mn M ct.i k'.ct.i) B d up ρ a w s o W Q:=h.1.mono λi hi=>.inl hi
theorem adg(E:Env P cx S)(h:Rel M B d up s ρ G a w)(hn:∀n,o.dst=some n->n<a.tmps.size)
  (hk:jm cx cV ft d o oi ⟨s.only R,[],ct,[]⟩=some k')(hd:k'.bJ S ρ)(hM:∀i,ct.i<=i->i<k'.ct.i->¬M i):bT P (Mn M ct.i k'.ct.i) B d up ρ a w s o k'.w Q:=by
 have hw:=dy.start h R ct
 cases eD:o.op with
 |move x=>exact bT.quiet (R5 h hn (.inl eD) hk)
 |assign x=>exact bT.quiet (R5 h hn (.inr eD) hk)
 |alloc t=>exact abK E.dW h hn eD hk hM
 |box t x=>exact abL E.dW h hn eD hk hM
 |build t ps=>exact bT.quiet (abF E.dW h hn eD hk)
 |buildSlice t n ps=>exact acI E.dW h hn eD hk hd hM
 |makeSlice t x y=>exact ab5 E.dW h hn eD hk hd hM
 |load t x=>
  simp only[jm,eD,cN,bF]at hk
  obtain⟨⟨k1,v⟩,hv,hk⟩:=hk
  split at hv
  ·rename_i r hT
   cases uT:cx.fz cV ft oi with
   |false=>rw[uT]at hT;cases hT
   |true=>rw[uT]at hT;cases hv;exact acW E.dW h hn eD hT hk hd hM
  ·exact bT.quiet (abx E.dW h hn eD ⟨k1,v,hv,hk⟩ hd)
 |store t x y=>
  simp only[jm,eD,cN,bF]at hk
  obtain⟨k1,cC,hk⟩:=hk
  split at cC
  ·rename_i k2 hD
   cases cC
   cases uT:cx.fz cV ft oi with
   |true=>rw[uT]at hD;cases hD
   |false=>rw[uT]at hD;exact bT.quiet (acN E.dW h hn eD ⟨k1,hD,hk⟩ hd)
  ·exact bT.quiet (abW E.dW h hn eD ⟨k1,cC,hk⟩ hd)
 |nilCheck x=>exact bT.quiet (abr h hn eD hk)
 |binOp op t x y yt=>
  have Tq:=hk
  simp only[jm,eD]at hk
  split at hk
  ·rename_i c e zS FB;exact bT.quiet (abf E.dW h hn eD zS FB Tq hd)
  ·rename_i es bs zS FB;exact bT.quiet (acL E.dW h hn eD zS FB Tq hd)
  ·cases hk
 |unOp op t x=>exact bT.quiet (abi h hn eD hk hd)
 |slice t x lo hi mx=>
  cases hT:(bif mx.isSome then none else Ci cx ⟨s.only R,[],ct,[]⟩ t (cz d (Wk.get ⟨s.only R,[],ct,[]⟩) x) (lo.map (cz d (Wk.get ⟨s.only R,[],ct,[]⟩))) (hi.map (cz d (Wk.get ⟨s.only R,[],ct,[]⟩))))with
  |none=>exact bT.quiet (abZ E.dW h hn eD hT hk hd)
  |some kv=>
   refine acS E.dW h hn eD hT ?_ hd hM
   simp only[jm,eD]at hk
   rw[hT]at hk
   exact Option.some.inj hk
 |fieldAddr t x f=>exact bT.quiet (abu E.dW h hn eD hk)
 |indexAddr t x y=>exact bT.quiet (abD E.dW h hn eD hk hd)
 |index t x y=>
  simp only[jm,eD,cN]at hk
  obtain⟨ti,fQ,⟨k1,y1⟩,h1,⟨k2,y2⟩,h2,hk⟩:=hk
  cases hc:Nat.beq ti.kd 2 with
  |false=>simp[hc]at hk
  |true=>
   simp only[hc,cond_true,bF]at hk
   have cO:b9 d o (k2.em .idx [y1,y2]).1 (.v false [.p (k2.em .idx [y1,y2]).2])=k':=hk
   subst cO
   exact bT.quiet (abq h hn eD E.dW fQ (dU hc) hw h1 h2 hd)
 |extract x i=>exact bT.quiet (abt h hn eD hk)
 |makeFunc f first zF=>exact bT.quiet (abM h hn eD hk)
 |call c=>
  have Tq:=hk
  simp only[jm,eD]at hk
  split at hk
  ·rename_i x hc fi
   simp only[cN]at hk
   obtain⟨ti,fQ,⟨k1,y⟩,h1,hk⟩:=hk
   cases h3:Nat.beq ti.kd 3 with
   |true=>
    simp only[h3,cond_true,bF]at hk
    have cO:b9 d o (k1.em .len [y]).1 (.v false [.p (k1.em .len [y]).2])=k':=hk
    subst cO
    exact bT.quiet (abo h hn E.dW eD hc fi (Option.bind_eq_some_iff.2 fQ) (dU h3) hw h1 hd)
   |false=>
    simp only[h3,cond_false]at hk
    cases h2:Nat.beq ti.kd 2 with
    |false=>simp[h2]at hk
    |true=>
     simp only[h2,cond_true,bF]at hk
     have cO:b9 d o (k1.em .lens [y]).1 (.v false [.p (k1.em .lens [y]).2])=k':=hk
     subst cO
     exact bT.quiet (abp h hn E.dW eD hc fi (Option.bind_eq_some_iff.2 fQ) (dU h2) hw h1 hd)
  ·rename_i x y hc fi
   simp only[cN,bF]at hk
   obtain⟨⟨k1,y1⟩,h1,⟨k2,y2⟩,h2,hk⟩:=hk
   have cO:b9 d o (k2.em .mx [y1,y2]).1 (.v false [.p (k2.em .mx [y1,y2]).2])=k':=hk
   subst cO
   exact bT.quiet (R_ h hn eD fi (.inl ⟨hc,rfl⟩) hw h1 h2 hd)
  ·rename_i x y hc fi
   simp only[cN,bF]at hk
   obtain⟨⟨k1,y1⟩,h1,⟨k2,y2⟩,h2,hk⟩:=hk
   have cO:b9 d o (k2.em .mn [y1,y2]).1 (.v false [.p (k2.em .mn [y1,y2]).2])=k':=hk
   subst cO
   exact bT.quiet (R_ h hn eD fi (.inr ⟨hc,rfl⟩) hw h1 h2 hd)
  ·rename_i x y hc fi
   exact acx E.dW h hn eD hc fi Tq hd hM
  ·rename_i x0 xs0 g hc
   simp only[cN]at hk
   obtain⟨sg,Z7,_⟩:=hk
   obtain⟨q1,q2⟩:=E.fns g sg Z7
   exact ac8 h hn eD hc q1 Z7 q2 Tq hd hM
  ·cases hk
 |convert t1 t2 x=>exact bT.quiet (abm E.dW h hn eD hk hd)
 |_=>simp[jm,eD]at hk
end
theorem Lf.iw{ρ e:List T}{x:Lf}{t:T}(h:x.fN ρ=some t):x.fN (ρ++e)=some t:=by
 cases x with
 |k v=>exact h
 |a n=>simp only[Lf.fN]at h⊢;rw[List.getElem?_append_left (List.getElem?_eq_some_iff.1 h).1];exact h
 |e=>exact h
theorem FZ{ρ e:List T}{x:Lf}{i:Nat}(h:mY ρ x=some i):mY (ρ++e) x=some i:=by
 unfold mY at h⊢
 cases hx:x.fN ρ with
 |none=>simp[hx]at h
 |some t=>rw[Lf.iw hx];rw[hx]at h;exact h
theorem Ts{ρ e:List T}:∀{q:oJ} {p:List (Nat×Nat)},gQ ρ q=some p->gQ (ρ++e) q=some p
 | [],p,h=>h
 |(x,w,j)::q,p,h=>by
  simp only[gQ,cN,bF]at h⊢
  obtain⟨i,h1,p',h2,rfl⟩:=h
  exact⟨i,FZ h1,p',Ts h2,rfl⟩
theorem Tt{ρ e:List T}{id:Nat}{q:oJ}{p:List (Nat×Nat)}(h:lU ρ id q=some p):lU (ρ++e) id q=some p:=by
 cases q with
 |nil=>exact h
 |cons x q=>
  simp only[lU]at h⊢
  split at h
  ·rename_i hi;rw[if_pos hi];exact Ts h
  ·cases h
section
variable {G:Gh} {w:World} {ρ e:List T}
theorem gf.ext{c:Ce}{v:Value}(h:gf G w ρ c v):gf G w (ρ++e) c v:=by
 cases c with
 |p x=>obtain⟨t,h1,h2⟩:=h;exact⟨t,Lf.iw h1,h2⟩
 |o id q=>obtain⟨p,h1,h2⟩:=h;exact⟨p,Tt h1,h2⟩
 |n=>exact h
 |d=>exact h
theorem bn.ext:∀{cs:List Ce} {vs:List Value},bn G w ρ cs vs->bn G w (ρ++e) cs vs
 | [],[],_=>trivial
 |_::_,_::_,h=>⟨h.1.ext,bn.ext h.2⟩
 | [],_::_,h=>h.elim
 |_::_,[],h=>h.elim
theorem fh.ext{ag:Bool}{cs:List Ce}{c:Value}(h:fh G w ρ ag cs c):fh G w (ρ++e) ag cs c:=by
 cases ag with
 |true=>obtain⟨vs,h1,h2⟩:=h;exact⟨vs,h1,h2.ext⟩
 |false=>obtain⟨x,rfl,h2,h3⟩:=h;exact⟨x,rfl,h2.ext,h3⟩
theorem gD.ext:∀{cs:List (Bool×List Ce)} {vs:List Value},gD G w ρ cs vs->gD G w (ρ++e) cs vs
 | [],[],_=>trivial
 |_::_,_::_,h=>⟨h.1.ext,gD.ext h.2⟩
 | [],_::_,h=>h.elim
 |_::_,[],h=>h.elim
theorem cL.ext{v:SV}{c:Value}(h:cL G w ρ v c):cL G w (ρ++e) v c:=by
 cases v with
 |un=>trivial
 |v ag cs=>exact fh.ext h
 |pt b off=>exact h
 |ep id q ix wd off=>obtain⟨p,b,n,cap,i,h1,h2,h3,h4⟩:=h;exact⟨p,b,n,cap,i,Tt h1,h2,FZ h3,h4⟩
 |fp s ix wd off=>obtain⟨xs,i,r,b,base,h1,h2,h3⟩:=h;exact⟨xs,i,r,b,base,Lf.iw h1,FZ h2,h3⟩
 |tp vs=>obtain⟨us,h1,h2⟩:=h;exact⟨us,h1,h2.ext⟩
 |cl f bs=>exact h
 |ob dp x=>exact h
 |fz pv x=>exact h
 |tk x m=>exact h
 |fl x=>exact h
 |fr x=>exact h
theorem fY.ext{b:Nat}{v:SV}(h:fY G w ρ b v):fY G w (ρ++e) b v:=by
 cases v with
 |v ag cs=>obtain⟨h1,arr,elem,h2,h3⟩:=h;exact⟨h1,arr,elem,h2,h3.ext⟩
 |_=>exact h
theorem cM.ext{b:Nat}{v:SV}(h:cM G w ρ b v):cM G w (ρ++e) b v:=by
 cases v with
 |ob dp x=>obtain⟨t,h1,h2⟩:=h;exact⟨t,Lf.iw h1,h2⟩
 |fz pv x=>
  obtain⟨t,h1,h2,h3⟩:=h
  refine⟨t,Lf.iw h1,h2,?_⟩
  cases pv with
  |z=>trivial
  |w tk x0 lo=>obtain⟨g0,F,n,zs,g1,g2,g3⟩:=h3;exact⟨g0,F,n,zs,Lf.iw g1,FZ g2,g3⟩
 |tk x m=>obtain⟨h0,F,u,h1,h2,h3⟩:=h;exact⟨h0,F,u,Lf.iw h1,Lf.iw h2,h3⟩
 |fl x=>obtain⟨h0,t,h1,h2⟩:=h;exact⟨h0,t,Lf.iw h1,h2⟩
 |fr x=>obtain⟨h0,t,h1,h2⟩:=h;exact⟨h0,t,Lf.iw h1,h2⟩
 |_=>exact h
theorem Rel.ext{M:Nat->Prop}{B:eT}{d:Nat}{up:Nat->Nat->Value}{s:St}{a:Act}(h:Rel M B d up s ρ G a w):Rel M B d up s (ρ++e) G a w:=
 ⟨λx n hx=>(h.tm x n hx).ext,λb=>(h.bx b).ext,λi=>(h.ob i).ext,h.fZ,h.key,h.iO,h.dn,h.base,h.bt⟩
end
theorem Lf.Dc{ρ e:List T}{x:Lf}(h:x.jG ρ.length=true):x.ev (ρ++e)=x.ev ρ:=by
 cases x with
 |k v=>rfl
 |a n=>
  have bE:n<ρ.length:=Nat.lt_of_succ_le (by simpa[Lf.jG,Nat.blt]using h)
  simp only[Lf.ev,List.getD_eq_getElem?_getD]
  rw[List.getElem?_append_left bE]
 |e=>rfl
theorem Tu{ρ e:List T}{xs:List Lf}(h:xs.all (Lf.jG ρ.length)=true):xs.map (Lf.ev (ρ++e))=xs.map (Lf.ev ρ):=
 List.map_congr_left λx hx=>Lf.Dc (List.all_eq_true.1 h x hx)
theorem KW(ts:List T):∀(m i:Nat),(tM ts i m).length=m
 |0,_=>rfl
 |m+1,i=>by simp[tM,KW ts m]
theorem Tv(ts:List T):∀(m i j:Nat),j<m->(tM ts i m)[j]?=some (ts.getD (i+j) T.bH)
 |0,_,j,h=>by omega
 |m+1,i,0,_=>by simp[tM]
 |m+1,i,j+1,h=>by
  simp only[tM,List.getElem?_cons_succ]
  rw[Tv ts m (i+1) j (by omega)]
  congr 2;omega
section
variable {S:Nat->aB} {R:Nat} {K:List aB} {out:List T}
theorem F0:∀{is:List E5} {p:PL} {ρ:List T},tP (ρ.length+sy is) is=true->(wrap is p).den S R K ρ=some out->
  ∃ts,ts.length=sy is∧p.den S R K (ρ++ts)=some out∧∀e,bJ S (ρ++ts++e) (ρ.length+sy is) is
 | [],p,ρ,_,h=>⟨[],rfl,by rw[List.append_nil];exact h,λ_=>trivial⟩
 | .pr q xs::is,p,ρ,ez,h=>by
  simp only[tP,sy,bI]at ez
  have e0:ρ.length+(sy is+1)-1=ρ.length+sy is:=by omega
  rw[e0]at ez
  obtain⟨ts,h1,h2,h3⟩:=F0 (is:=is) ez.2 (show(wrap is (.ins (.pr q xs) p)).den S R K ρ=some out from h)
  simp only[PL.den,cN]at h2
  obtain⟨t,h4,h5⟩:=h2
  have hl:(ρ++ts).length=ρ.length+sy is:=by simp[h1]
  refine⟨ts++[t],by simp[sy,h1],by simpa using h5,λe=>⟨ρ.length+sy is,t,rfl,?_,?_,?_⟩⟩
  ·have:=Tu (ρ:=ρ++ts) (e:=t::e) (xs:=xs) (by rw[hl];exact ez.1.2)
   simp only[List.append_assoc,List.cons_append,List.nil_append]at this⊢
   rw[this]
   simpa using h4
  ·rw[<-hl];simp
  ·have:=h3 (t::e)
   simpa using this
 | .cl g xs m::is,p,ρ,ez,h=>by
  simp only[tP,sy,bI]at ez
  have e0:ρ.length+(sy is+m)-m=ρ.length+sy is:=by omega
  rw[e0]at ez
  obtain⟨ts,h1,h2,h3⟩:=F0 (is:=is) ez.2 (show(wrap is (.ins (.cl g xs m) p)).den S R K ρ=some out from h)
  simp only[PL.den,cN]at h2
  obtain⟨us,h4,h5⟩:=h2
  have hl:(ρ++ts).length=ρ.length+sy is:=by simp[h1]
  refine⟨ts++tM us 0 m,by simp[sy,h1,KW],by simpa using h5,λe=>⟨ρ.length+sy is,us,by simp only[sy];omega,?_,λi hi=>?_,?_⟩⟩
  ·have:=Tu (ρ:=ρ++ts) (e:=tM us 0 m++e) (xs:=xs) (by rw[hl];exact ez.1.2)
   simp only[List.append_assoc]at this⊢
   rw[this]
   simpa using h4
  ·rw[<-hl,List.append_assoc,List.append_assoc,<-List.append_assoc ρ ts,List.getElem?_append_right (by omega),show(ρ++ts).length+i-(ρ++ts).length=i by omega,
    List.getElem?_append_left (by rw[KW];exact hi),Tv _ _ _ _ hi]
   simp
  ·have:=h3 (tM us 0 m++e)
   simpa using this
end
def dl(fs:kj)(ρ:List T):Prop:=∀n b,fact fs n=some b->ρ[n]?=some (.c (.bool b))
theorem dl.ext{fs:kj}{ρ e:List T}(h:dl fs ρ):dl fs (ρ++e):=λn b hn=>by
 have:=h n b hn
 rw[List.getElem?_append_left (List.getElem?_eq_some_iff.1 this).1];exact this
theorem dl.cons{fs:kj}{ρ:List T}{n:Nat}{b:Bool}(h:dl fs ρ)(hn:ρ[n]?=some (.c (.bool b))):dl ((n,b)::fs) ρ:=by
 intro m c hm
 simp only[fact]at hm
 cases hb:Nat.beq n m with
 |true=>simp[hb]at hm;subst hm;rw[<-dU hb];exact hn
 |false=>simp[hb]at hm;exact h m c hm
section
variable {G:Gh} {w:World} {ρ:List T} {fs:kj}
theorem F1{sv:SV}{c:Value}{b:Bool}(h:sN fs sv=.is b)(hr:cL G w ρ sv c)(hf:dl fs ρ):c=.bool b:=by
 unfold sN at h
 split at h
 ·cases h
 ·split at h
  ·rename_i b' hb
   cases h
   unfold JL at hb
   split at hb
   ·cases hb
    obtain⟨e,he,sD,_⟩:=hr
    cases he
    obtain⟨t,h1,h2⟩:=sD
    simp only[Lf.fN,lr,cond_true,bF]at h1
    subst h1
    exact h2.scalar.1
   ·cases hb
  ·rename_i n hb
   unfold JL at hb
   split at hb
   ·cases hb
    split at h
    ·rename_i b' Tw
     cases h
     obtain⟨e,he,sD,_⟩:=hr
     cases he
     obtain⟨t,h1,h2⟩:=sD
     have:=hf n b Tw
     simp only[Lf.fN]at h1
     rw[this]at h1
     cases h1
     exact h2.scalar.1
    ·cases h
   ·cases hb
  ·cases h
theorem adh{sv:SV}{c:Value}(h:sN fs sv=.nil)(hr:cL G w ρ sv c):∃us,c=.tuple us:=by
 unfold sN at h
 split at h
 ·obtain⟨us,h1,_⟩:=hr;exact⟨_,h1⟩
 ·split at h
  ·cases h
  ·split at h<;>cases h
  ·cases h
end
section
variable {M:Nat->Prop} {B:eT} {d:Nat} {up:Nat->Nat->Value} {ρ:List T} {G:Gh} {a:Act} {w:World} {S:Nat->aB} {P:Program}
variable {cx:Cx} {cV ft oi:Nat} {s:St} {R:Nat} {ct:Ct} {k':Wk} {o:Oper} {Q:Exit->Act->World->Prop} {ops:Array Oper} {nt:Nat} {fs:kj}
def gw(d:Nat)(ops:Array Oper)(o:Oper)(fs:kj)(s:St):Option Bool:=
 match o.guard with
 |none=>some true
 |some (j,want)=>match(ops[j]?).bind (·.dst)with
  |none=>none
  |some g=>match sN fs (s.get (.t d g))with
   | .nil=>some false
   | .is b=>some (b==want)
   |_=>none
theorem KX{s':St}(h:∀r∈Bm d ops o,s'.get r=s.get r):gw d ops o fs s'=gw d ops o fs s:=by
 unfold gw Bm at*
 cases hg:o.guard with
 |none=>rfl
 |some jw=>
  obtain⟨j,want⟩:=jw
  simp only[hg]at h
  cases hb:(ops[j]?).bind (·.dst)with
  |none=>simp only[hb]
  |some g=>
   simp only[hb]at h⊢
   simp only[h (.t d g) (by simp)]
theorem F2{x:Bool}(h:gw d ops o fs s=some x)(hr:Rel M B d up s ρ G a w)(hf:dl fs ρ):Region.wanted o (yielded ops a.tmps)=x:=by
 unfold gw at h
 unfold Region.wanted
 cases hg:o.guard with
 |none=>simp[hg]at h;simp[h]
 |some jw=>
  obtain⟨j,want⟩:=jw
  simp only[hg]at h
  cases hb:(ops[j]?).bind (·.dst)with
  |none=>simp[hb]at h
  |some g=>
   simp only[hb]at h
   have ht:=hr.tm d g (Nat.le_refl _)
   simp only[qB,if_true]at ht
   cases hd:sN fs (s.get (.t d g))with
   |nil=>
    simp only[hd,bF]at h
    subst h
    obtain⟨us,hu⟩:=adh hd ht
    simp only[yielded,hb,Option.bind_some]
    rw[Array.getD_eq_getD_getElem?]at hu
    cases hx:a.tmps[g]? with
    |none=>simp
    |some v=>rw[hx]at hu;simp only[Option.getD_some]at hu;subst hu;simp
   |is b=>
    simp only[hd,bF]at h
    have hu:=F1 hd ht hf
    simp only[yielded,hb,Option.bind_some]
    rw[Array.getD_eq_getD_getElem?]at hu
    cases hx:a.tmps[g]? with
    |none=>rw[hx]at hu;simp[undef]at hu
    |some v=>
     rw[hx]at hu;simp only[Option.getD_some]at hu;subst hu
     rw[<-h]
     cases b<;>cases want<;>rfl
   |ask n=>simp[hd]at h
   |no=>simp[hd]at h
theorem F3{sv:SV}{n:Nat}{b:Bool}(h:sN fs sv=.ask n):sN ((n,b)::fs) sv=.is b:=by
 unfold sN at h⊢
 split at h
 ·cases h
 ·split at h
  ·cases h
  ·rename_i m hm
   split at h
   ·cases h
   ·cases h
    simp only[fact]
    simp
  ·cases h
def Af(P:Program)(ops:Array Oper)(Q:Exit->Act->World->Prop)(B:eT)(d:Nat)(up:Nat->Nat->Value)(nt:Nat)(ρ:List T)(i:Nat)(rd:List bD)(wr:St)(lo hi:Nat)(sI:St):Prop:=
 ∀(M:Nat->Prop) (s:St) (G:Gh) (a:Act) (w:World) (Kn:Act->World->Prop),(∀r∈rd,s.get r=sI.get r)->Rel M B d up s ρ G a w->a.tmps.size=nt->(∀j,lo<=j->j<hi->¬M j)->
  (∀G' a' w',Rel (Mn M lo hi) B d up (s.fw wr) ρ G' a' w'->a'.tmps.size=nt->Kn a' w')->wpOp P ops Q i Kn a w
theorem Tx{s':St}:∀{R:List bD},(∀r∈R,s'.get r=s.get r)->s'.only R=s.only R
 | [],_=>rfl
 |r::R,h=>by simp only[St.only];rw[h r (by simp),Tx λr hr=>h r (by simp[hr])]
theorem adi{i:Nat}{R:List bD}(E:Env P cx S)(ho:ops[i]?=some o)(hn:∀n,o.dst=some n->n<nt)(hg:gw d ops o fs s=some true)(hf:dl fs ρ)
  (hk:jm cx cV ft d o oi ⟨s.only R,[],ct,[]⟩=some k')(hd:k'.bJ S ρ):Af P ops Q B d up nt ρ i (Bm d ops o++R) k'.w ct.i k'.ct.i s:=by
 intro M s' G a w Kn pu hr rl hM hK
 have Tz:=KX (fs:=fs) (o:=o) (ops:=ops) (d:=d) (s:=s) (s':=s') λr hr=>pu r (List.mem_append_left _ hr)
 have hw:=F2 (Tz.trans hg) hr hf
 have nc:jm cx cV ft d o oi ⟨s'.only R,[],ct,[]⟩=some k':=by rw[Tx λr hr=>pu r (List.mem_append_right _ hr)];exact hk
 have:=adg (Q:=Q) E hr (λn h=>by rw[rl];exact hn n h) nc hd hM
 unfold wpOp
 simp only[ho,hw,if_true]
 exact .inl (Oper.wp_mono (λa' w' ⟨G',h1,h2⟩=>hK G' a' w' h1 (h2.trans rl)) this)
theorem TA(s:St)(r:bD)(v:SV):s.fw [(r,v)]=s.set r v:=rfl
theorem adj{i lo:Nat}(ho:ops[i]?=some o)(hn:∀n,o.dst=some n->n<nt)(hg:gw d ops o fs s=some false)(hf:dl fs ρ):
  Af P ops Q B d up nt ρ i (Bm d ops o) (fA d o (.tp [])) lo lo s:=by
 intro M s' G a w Kn pu hr rl hM hK
 have Tz:=KX (fs:=fs) (o:=o) (ops:=ops) (d:=d) (s:=s) (s':=s') pu
 have hw:=F2 (Tz.trans hg) hr hf
 unfold wpOp
 simp only[ho,hw,cI,if_false]
 have Bv:∀i,M i->Mn M lo lo i:=λi h=>.inl h
 cases hd:o.dst with
 |none=>
  refine hK G _ w ?_ (by simpa[Act.put]using rl)
  simp only[fA,hd,Act.put]
  exact hr.mono Bv
 |some n=>
  refine hK G _ w ?_ (by rw[Cz];exact rl)
  simp only[fA,hd,TA]
  exact(hr.Fx (x:=.tp []) (v:=undef) (by rw[rl];exact hn n hd) ⟨[],rfl,trivial⟩ (λi hi=>by simp[dt,tS]at hi)).mono Bv
theorem adk{x:Operand}{t:Tmp}(h:x∈o.op.operands)(hx:x=.tmp t):t∈xm o:=by
 subst hx
 exact List.mem_filterMap.2 ⟨.tmp t,by simpa using h,rfl⟩
theorem KY{s':St}{x:Operand}(hx:x∈o.op.operands)(h:∀r∈(xm o).map (bD.t d),s'.get r=s.get r):cz d s'.get x=cz d s.get x:=by
 cases x with
 |tmp t=>exact h _ (List.mem_map.2 ⟨t,adk hx rfl,rfl⟩)
 |_=>rfl
theorem adl{i lo n:Nat}{b:Bool}{va vb:SV}(ho:ops[i]?=some o)(adn:o.dst=some n)(hn:n<nt)(hg:gw d ops o fs s=some true)(hf:dl fs ρ)(hp:xq d s o fs=some (.is b,va,vb)):
  Af P ops Q B d up nt ρ i (Bm d ops o++(xm o).map (bD.t d)) [(.t d n,bif b then va else vb)] lo lo s:=by
 intro M s' G a w Kn pu hr rl hM hK
 have Tz:=KX (fs:=fs) (o:=o) (ops:=ops) (d:=d) (s:=s) (s':=s') λr hr=>pu r (List.mem_append_left _ hr)
 have hw:=F2 (Tz.trans hg) hr hf
 have Bv:∀i,M i->Mn M lo lo i:=λi h=>.inl h
 unfold xq at hp
 split at hp
 ·rename_i c x y eD
  simp only[bF,Prod.mk.injEq]at hp
  obtain⟨h1,rfl,rfl⟩:=hp
  have hT:∀r∈(xm o).map (bD.t d),s'.get r=s.get r:=λr hr=>pu r (List.mem_append_right _ hr)
  have oc:=KY (s':=s') (s:=s) (d:=d) (o:=o) (x:=c) (by rw[eD];simp[Op.operands]) hT
  have ox:=KY (s':=s') (s:=s) (d:=d) (o:=o) (x:=x) (by rw[eD];simp[Op.operands]) hT
  have oy:=KY (s':=s') (s:=s) (d:=d) (o:=o) (x:=y) (by rw[eD];simp[Op.operands]) hT
  have hc:=F1 (by rw[oc];exact h1) (Ev hr c).1 hf
  unfold wpOp
  simp only[ho,hw,if_true]
  left
  have iW:(execOp a.eval o).run P w=.ok (.value (if b then a.eval x else a.eval y)) w:=by
   unfold execOp
   simp only[eD,hc,asBool,pure_bind]
   cases b<;>rfl
  simp only[Oper.wp,iW,Oper.upon,adn]
  refine hK G _ w ?_ (by rw[Cz];exact rl)
  rw[TA]
  refine(hr.Fx (by rw[rl];exact hn) ?_ ?_).mono Bv
  ·cases b
   ·simp only[cond_false,cI,if_false];rw[<-oy];exact(Ev hr y).1
   ·simp only[cond_true,if_true];rw[<-ox];exact(Ev hr x).1
  ·cases b
   ·simp only[cond_false];rw[<-oy];exact(Ev hr y).2
   ·simp only[cond_true];rw[<-ox];exact(Ev hr x).2
 ·cases hp
end
section
variable {B:eT} {d:Nat} {up:Nat->Nat->Value} {S:Nat->aB} {P:Program} {cx:Cx} {dL:qQ} {cV ft:Nat} {R:Nat} {o:Oper} {Q:Exit->Act->World->Prop} {ops:Array Oper} {nt:Nat} {draw:Bool}
variable {K:List aB} {out:List T} {i:Nat} {rc:Rec}
def Dd(P:Program)(S:Nat->aB)(R:Nat)(K:List aB)(out:List T)(ops:Array Oper)(Q:Exit->Act->World->Prop)(B:eT)(d:Nat)(up:Nat->Nat->Value)(nt:Nat)(i:Nat)(rc:Rec)
  (tr:List Tr)(lv:Nat)(s:St)(ct:Ct)(ρ:List T):Prop:=
 ∃rd wr iJ e jR p',(∀e',Af P ops Q B d up nt (ρ++e++e') i rd wr ct.i iJ.i s)∧ct.i<=iJ.i∧rc (tr++[⟨rd,wr.map (·.1)⟩]) lv (s.fw wr) iJ jR=some p'∧p'.den S R K (ρ++e)=some out∧
  (ρ++e).length=iJ.a∧dl jR (ρ++e)
def KZ(S:Nat->aB)(R:Nat)(K:List aB)(out:List T)(cx:Cx)(dL:qQ)(ops:Array Oper)(d:Nat)(o:Oper)(rc:Rec)(tr:List Tr)(lv:Nat)(s:St)(ct:Ct)(ρ:List T):Prop:=
 ∃g vs jR p',gw d ops o jR s=some true∧E' cx d s o=some (g,vs)∧dl jR ρ∧dL (d+1) g vs lv s ct jR (Fb d o rc tr)=some p'∧p'.den S R K ρ=some out
theorem K1{n:Nat}{x y:PL}{ρ:List T}(h:(PL.ite n x y).den S R K ρ=some out):∃b,ρ[n]?=some (.c (.bool b))∧(bif b then x.den S R K ρ else y.den S R K ρ)=some out:=by
 simp only[PL.den]at h
 cases hn:ρ[n]? with
 |none=>rw[List.getD_eq_getElem?_getD,hn]at h;simp[T.bH]at h
 |some t=>
  rw[List.getD_eq_getElem?_getD,hn]at h
  simp only[Option.getD_some]at h
  split at h
  ·exact⟨_,rfl,h⟩
  ·cases h
theorem TB{tr:List Tr}{lv:Nat}{s:St}{ct:Ct}{fs:kj}{ρ:List T}{p:PL}(ho:ops[i]?=some o)(hn:∀n,o.dst=some n->n<nt)(hg:gw d ops o fs s=some false)
  (h:Fa d ops o rc tr lv s ct fs=some p)(hp:p.den S R K ρ=some out)(hl:ρ.length=ct.a)(hf:dl fs ρ):Dd P S R K out ops Q B d up nt i rc tr lv s ct ρ:=by
 refine⟨Bm d ops o,fA d o (.tp []),ct,[],fs,p,λe'=>adj ho hn hg (by rw[List.append_nil];exact hf.ext),Nat.le_refl _,?_,by rw[List.append_nil];exact hp,by rw[List.append_nil];exact hl,by rw[List.append_nil];exact hf⟩
 unfold Fa at h
 unfold fA
 cases hd:o.dst with
 |none=>rw[hd]at h;exact h
 |some n=>rw[hd]at h;exact h
theorem F4{tr:List Tr}{lv:Nat}{s:St}{ct:Ct}{fs:kj}{ρ:List T}{p:PL}{b:Bool}{va vb:SV}(ho:ops[i]?=some o)(hn:∀n,o.dst=some n->n<nt)(hg:gw d ops o fs s=some true)
  (xO:xq d s o fs=some (.is b,va,vb))(h:zG d ops o rc tr lv s ct fs (bif b then va else vb)=some p)(hp:p.den S R K ρ=some out)(hl:ρ.length=ct.a)(hf:dl fs ρ):Dd P S R K out ops Q B d up nt i rc tr lv s ct ρ:=by
 unfold zG at h
 cases hd:o.dst with
 |none=>rw[hd]at h;cases h
 |some n=>
  rw[hd]at h
  exact⟨Bm d ops o++(xm o).map (bD.t d),[(.t d n,bif b then va else vb)],ct,[],fs,p,λe'=>adl ho hd (hn n hd) hg (by rw[List.append_nil];exact hf.ext) xO,Nat.le_refl _,h,
   by rw[List.append_nil];exact hp,by rw[List.append_nil];exact hl,by rw[List.append_nil];exact hf⟩
theorem TC{fs:kj}{s:St}{x:Bool}{m:Nat}{b:Bool}(h:gw d ops o fs s=some x)(hm:fact fs m=none):gw d ops o ((m,b)::fs) s=some x:=by
 unfold gw at h⊢
 cases hg:o.guard with
 |none=>rw[hg]at h;exact h
 |some jw=>
  obtain⟨j,want⟩:=jw
  simp only[hg]at h⊢
  cases hb:(ops[j]?).bind (·.dst)with
  |none=>simp only[hb]at h;cases h
  |some g=>
   simp only[hb]at h⊢
   have key:∀dc,sN fs (s.get (.t d g))=dc->(∀n,dc≠.ask n)->dc≠.no->sN ((m,b)::fs) (s.get (.t d g))=dc:=by
    intro dc wX h1 h2
    unfold sN at wX⊢
    split at wX
    ·exact wX
    ·split at wX
     ·exact wX
     ·rename_i n hn
      split at wX
      ·rename_i b' kl
       have dI:Nat.beq m n=false:=by
        cases hbq:Nat.beq m n with
        |false=>rfl
        |true=>rw[dU hbq,kl]at hm;cases hm
       simp only[fact,dI,cond_false,kl]
       exact wX
      ·exact absurd wX.symm (h1 _)
     ·exact absurd wX.symm h2
   cases wX:sN fs (s.get (.t d g))with
   |nil=>rw[key _ wX (by simp) (by simp)];rw[wX]at h;exact h
   |is b'=>rw[key _ wX (by simp) (by simp)];rw[wX]at h;exact h
   |ask n=>rw[wX]at h;cases h
   |no=>rw[wX]at h;cases h
theorem ado{sv:SV}{fs:kj}{n:Nat}(h:sN fs sv=.ask n):fact fs n=none:=by
 unfold sN at h
 split at h
 ·cases h
 ·split at h
  ·cases h
  ·split at h
   ·cases h
   ·rename_i hn;cases h;exact hn
  ·cases h
theorem TD{tr:List Tr}{lv:Nat}{s:St}{ct:Ct}{fs:kj}{ρ:List T}{p:PL}(E:Env P cx S)(ho:ops[i]?=some o)(hn:∀n,o.dst=some n->n<nt)(hg:gw d ops o fs s=some true)
  (h:ZS cx dL cV ft d ops draw o i rc tr lv s ct fs=some p)(hp:p.den S R K ρ=some out)(hl:ρ.length=ct.a)(hf:dl fs ρ):
  Dd P S R K out ops Q B d up nt i rc tr lv s ct ρ∨(draw=false∧KZ S R K out cx dL ops d o rc tr lv s ct ρ):=by
 unfold ZS at h
 split at h
 ·rename_i dc va vb xO
  left
  split at h
  ·exact F4 (b:=true) ho hn hg xO h hp hl hf
  ·exact F4 (b:=false) ho hn hg xO h hp hl hf
  ·rename_i n
   simp only[cN,bF]at h
   obtain⟨x,hx,y,hy,rfl⟩:=h
   obtain⟨b,hb,hp⟩:=K1 hp
   have TE:∀b,xq d s o ((n,b)::fs)=some (.is b,va,vb):=by
    intro b
    unfold xq at xO⊢
    split at xO
    ·simp only[bF,Prod.mk.injEq]at xO⊢
     exact⟨F3 xO.1,xO.2⟩
    ·cases xO
   have dB:fact fs n=none:=by
    unfold xq at xO
    split at xO
    ·simp only[bF,Prod.mk.injEq]at xO;exact ado xO.1
    ·cases xO
   cases b with
   |true=>exact F4 (b:=true) ho hn (TC hg dB) (TE true) hx hp hl (hf.cons hb)
   |false=>exact F4 (b:=false) ho hn (TC hg dB) (TE false) hy hp hl (hf.cons hb)
  ·cases h;cases hp
  ·cases h;cases hp
 ·split at h
  ·rename_i g vs hi
   cases hd:draw with
   |true=>rw[hd]at h;simp only[cond_true,bF]at h;subst h;cases hp
   |false=>
    rw[hd]at h
    simp only[cond_false]at h
    exact .inr ⟨rfl,g,vs,fs,p,hg,hi,hf,h,hp⟩
  ·left
   split at h
   ·cases h;cases hp
   ·rename_i k hk
    cases hc:(Nat.beq k.ct.a (ct.a+sy k.is)&&Nat.ble ct.i k.ct.i&&tP k.ct.a k.is)with
    |false=>rw[hc]at h;cases h
    |true=>
     rw[hc]at h
     simp only[cond_true,cN,bF]at h
     obtain⟨p',sG,rfl⟩:=h
     simp only[bI]at hc
     obtain⟨⟨c1,c2⟩,c3⟩:=hc
     have c1:=dU c1
     obtain⟨ts,w1,w2,w3⟩:=F0 (S:=S) (R:=R) (K:=K) (out:=out) (ρ:=ρ) (by rw[hl,<-c1];exact c3) hp
     refine⟨Bm d ops o++E8 d s o,k.w,k.ct,ts,fs,p',λe'=>adi E ho hn hg (by rw[List.append_assoc];exact hf.ext) hk ?_,Nat.le_of_ble_eq_true c2,sG,w2,by rw[List.length_append,w1,hl,c1],hf.ext⟩
     show bJ S (ρ++ts++e') k.ct.a k.is
     rw[c1,<-hl]
     exact w3 e'
theorem TF{tr:List Tr}{lv:Nat}{s:St}{ct:Ct}{fs:kj}{ρ:List T}{p:PL}(E:Env P cx S)(ho:ops[i]?=some o)(hn:∀n,o.dst=some n->n<nt)
  (h:Cl cx dL cV ft d ops draw o i rc tr lv s ct fs=some p)(hp:p.den S R K ρ=some out)(hl:ρ.length=ct.a)(hf:dl fs ρ):
  Dd P S R K out ops Q B d up nt i rc tr lv s ct ρ∨(draw=false∧KZ S R K out cx dL ops d o rc tr lv s ct ρ):=by
 unfold Cl at h
 simp only at h
 cases KG:o.guard with
 |none=>
  rw[KG]at h
  exact TD E ho hn (by unfold gw;rw[KG]) h hp hl hf
 |some jw=>
  obtain⟨j,want⟩:=jw
  rw[KG]at h
  simp only at h
  cases hb:(ops[j]?).bind (·.dst)with
  |none=>rw[hb]at h;cases h
  |some g=>
   rw[hb]at h
   simp only at h
   have hgw:∀fs x,(match sN fs (s.get (.t d g))with| .nil=>some false| .is b=>some (b==want)|_=>none)=some x->gw d ops o fs s=some x:=by
    intro fs x hx
    unfold gw
    simp only[KG,hb]
    exact hx
   have both:∀(fs:kj) (b:Bool) (p:PL),sN fs (s.get (.t d g))=.is b->(bif b==want then ZS cx dL cV ft d ops draw o i rc tr lv s ct fs else Fa d ops o rc tr lv s ct fs)=some p->p.den S R K ρ=some out->dl fs ρ->
     Dd P S R K out ops Q B d up nt i rc tr lv s ct ρ∨(draw=false∧KZ S R K out cx dL ops d o rc tr lv s ct ρ):=by
    intro fs b p hd h hp hf
    have hg:=hgw fs (b==want) (by rw[hd])
    cases hbw:(b==want)with
    |true=>rw[hbw]at h hg;exact TD E ho hn hg h hp hl hf
    |false=>rw[hbw]at h hg;exact .inl (TB ho hn hg h hp hl hf)
   cases hd:sN fs (s.get (.t d g))with
   |nil=>
    rw[hd]at h
    exact .inl (TB ho hn (hgw fs false (by rw[hd])) h hp hl hf)
   |is b=>rw[hd]at h;exact both fs b p hd h hp hf
   |ask n=>
    rw[hd]at h
    simp only[cN,bF]at h
    obtain⟨x,hx,y,hy,rfl⟩:=h
    obtain⟨b,kl,hp⟩:=K1 hp
    cases b with
    |true=>exact both _ true x (F3 hd) hx hp (hf.cons kl)
    |false=>exact both _ false y (F3 hd) hy hp (hf.cons kl)
   |no=>rw[hd]at h;cases h;cases hp
end
structure Fr where
 d:Nat
 up:Nat->Nat->Value
 nt:Nat
structure Zb where
 K:List aB
 ρ:List T
def At(S:Nat->aB)(R:Nat)(out:List T)(B:eT)(f:Fr)(K0:Zb)(X:Gh->World->List T->Prop)(p:PL)(lv:Nat)(s:St)(ct:Ct)(fs:kj)(a:Act)(w:World):Prop:=
 ∃K ρ G,p.den S R K ρ=some out∧K.length=lv∧(∃pre,K=pre++K0.K)∧(∃e,ρ=K0.ρ++e)∧ρ.length=ct.a∧dl fs ρ∧Rel (λi=>i<ct.i) B f.d f.up s ρ G a w∧a.tmps.size=f.nt∧X G w ρ
def XT:Gh->World->List T->Prop:=λ_ _ _=>True
def Bw(S:Nat->aB)(R:Nat)(out:List T)(B:eT)(f:Fr)(K0:Zb)(k:KP)(Ψ:Act->World->Prop):Prop:=
 ∀lv s ct fs p a w,k lv s ct fs=some p->At S R out B f K0 XT p lv s ct fs a w->Ψ a w
def o5(us:List Value):Value:=if h:us.length=1 then us[0]else .tuple us.toArray
def F5(P:Program)(S:Nat->aB)(R:Nat)(out:List T)(B:eT)(dL:qQ):Prop:=
 ∀(f:Fr) (g:Nat) (vs:List SV) (lv:Nat) (s:St) (ct:Ct) (fs:kj) (kk:List SV->KP) (p:PL) (K0:Zb) (a:Act) (w:World) (args:List Value) (Ψ:Value->World->Prop),
  dL (f.d+1) g vs lv s ct fs kk=some p->At S R out B f K0 (λG w ρ=>c_ G w ρ vs args∧∀v∈vs,∀i∈dt v,i<ct.i) p lv s ct fs a w->
   (∀rs sH s' iJ jR p' w' us,kk rs sH s' iJ jR=some p'->At S R out B f K0 (λG w ρ=>c_ G w ρ rs us∧∀v∈rs,∀i∈dt v,i<iJ.i) p' sH s' iJ jR a w'->Ψ (o5 us) w')->
   kq P g∧Calls P g args.toArray w λe w'=>∃v,e=.returned v∧Ψ v w'
section
variable {B:eT} {f:Fr} {S:Nat->aB} {P:Program} {cx:Cx} {dL:qQ} {cV ft:Nat} {R:Nat} {Q:Exit->Act->World->Prop} {ops:Array Oper} {out:List T} {K0:Zb}
theorem adp{lo hi:Nat}(h:lo<=hi)(i:Nat)(hm:Mn (λi=>i<lo) lo hi i):i<hi:=by
 rcases hm with h1|h1
 ·omega
 ·exact h1.2
theorem c_.length{G:Gh}{w:World}{ρ:List T}:∀{vs:List SV} {us:List Value},c_ G w ρ vs us->vs.length=us.length
 | [],[],_=>rfl
 |_::_,_::_,h=>by simp[c_.length h.2]
 | [],_::_,h=>h.elim
 |_::_,[],h=>h.elim
theorem TG{G:Gh}{w:World}{ρ:List T}:∀{rs:List SV} {vs:List (Bool×List Ce)} {us:List Value},wM rs=some vs->c_ G w ρ rs us->gD G w ρ vs us∧tS vs=rs.flatMap dt
 | [],vs,us,h,hr=>by
  simp[wM]at h
  subst h
  cases us with
  |nil=>exact⟨trivial,rfl⟩
  |cons _ _=>exact hr.elim
 | .v ag cs::rs,vs,us,h,hr=>by
  simp only[wM,cN,bF]at h
  obtain⟨l,hl,rfl⟩:=h
  cases us with
  |nil=>exact hr.elim
  |cons u us=>
   obtain⟨g1,g2⟩:=TG hl hr.2
   exact⟨⟨hr.1,g1⟩,by simp[tS,dt,g2]⟩
 | .un::rs,vs,us,h,hr=>by simp[wM]at h
 | .pt _ _::rs,vs,us,h,hr=>by simp[wM]at h
 | .ep _ _ _ _ _::rs,vs,us,h,hr=>by simp[wM]at h
 | .fp _ _ _ _::rs,vs,us,h,hr=>by simp[wM]at h
 | .tp _::rs,vs,us,h,hr=>by simp[wM]at h
 | .cl _ _::rs,vs,us,h,hr=>by simp[wM]at h
 | .ob _ _::rs,vs,us,h,hr=>by simp[wM]at h
 | .fz _ _::rs,vs,us,h,hr=>by simp[wM]at h
 | .tk _ _::rs,vs,us,h,hr=>by simp[wM]at h
 | .fl _::rs,vs,us,h,hr=>by simp[wM]at h
 | .fr _::rs,vs,us,h,hr=>by simp[wM]at h
theorem adq{o:Oper}{rc:Rec}{tr:List Tr}{rs:List SV}{lv:Nat}{s:St}{ct:Ct}{fs:kj}{p:PL}{a:Act}{w:World}{us:List Value}{Ψ:Act->World->Prop}(hn:∀n,o.dst=some n->n<f.nt)
  (h:Fb f.d o rc tr rs lv s ct fs=some p)(bN:At S R out B f K0 (λG w ρ=>c_ G w ρ rs us∧∀v∈rs,∀i∈dt v,i<ct.i) p lv s ct fs a w)
  (tv:∀tr lv s ct fs p a w,rc tr lv s ct fs=some p->At S R out B f K0 XT p lv s ct fs a w->Ψ a w):Ψ (a.put o.dst (o5 us)) w:=by
 obtain⟨K,ρ,G,h1,h2,h3,h0,h4,h5,h6,h7,h8,h9⟩:=bN
 unfold Fb at h
 have key:∀(n:Nat) (v:SV),o.dst=some n->rc tr lv (s.set (.t f.d n) v) ct fs=some p->cL G w ρ v (o5 us)->(∀i∈dt v,i<ct.i)->Ψ (a.put o.dst (o5 us)) w:=by
  intro n v hd hk hr hm
  rw[hd]
  exact tv tr lv _ ct fs p _ w hk ⟨K,ρ,G,h1,h2,h3,h0,h4,h5,h6.Fx (by rw[h7];exact hn n hd) hr hm,by rw[Cz];exact h7,trivial⟩
 have hlen:=h8.length
 split at h
 ·rename_i hd
  rw[hd]
  exact tv tr lv s ct fs p _ w h ⟨K,ρ,G,h1,h2,h3,h0,h4,h5,by simpa[Act.put]using h6,by simpa[Act.put]using h7,trivial⟩
 ·rename_i n v hd
  match us,h8 with
  | [u],h8=>exact key n v hd h h8.1 (h9 v (by simp))
 ·rename_i n hd
  exact key n .un hd h trivial (λi hi=>by simp[dt]at hi)
 ·rename_i rs' _ _ n hd K3 atn
  simp only[cN]at h
  obtain⟨vs,qT,h⟩:=h
  obtain⟨g1,g2⟩:=TG qT h8
  refine key n (.tp vs) hd h ⟨us,?_,g1⟩ λi hi=>?_
  ·unfold o5
   rw[dif_neg]
   intro he
   rw[<-hlen]at he
   match rs',K3,he with
   | [v],K3,_=>exact K3 v rfl
  ·rw[show dt (.tp vs)=tS vs from rfl,g2]at hi
   obtain⟨v,hv,hi⟩:=List.mem_flatMap.1 hi
   exact h9 v hv i hi
theorem adr{d:Nat}{up:Nat->Nat->Value}{M:Nat->Prop}{s:St}{ρ:List T}{G:Gh}{a:Act}{w:World}{o:Oper}{g:Nat}{vs:List SV}(hr:Rel M B d up s ρ G a w)(hi:E' cx d s o=some (g,vs)):
  ∃args:List Value,(kq P g->(execOp a.eval o).run P w=.ok (.enter g args.toArray) w)∧c_ G w ρ vs args∧∀v∈vs,∀i∈dt v,M i:=by
 unfold E' at hi
 split at hi
 ·rename_i c eD
  split at hi
  ·rename_i x ads
   split at hi
   ·rename_i g' bs hx
    split at hi
    ·cases hi
    ·simp only[bF,Prod.mk.injEq]at hi
     obtain⟨rfl,rfl⟩:=hi
     obtain⟨h1,h2⟩:=Ev hr x
     rw[hx]at h1 h2
     have hv:a.eval x=.func (.func g') #[] (bs.map λb=>Value.pointer (some ⟨G.β b,0,none⟩)).toArray:=h1
     refine⟨c.args.toList.map a.eval++bs.map λb=>Value.pointer (some ⟨G.β b,0,none⟩),?_,?_,?_⟩
     ·intro hg
      unfold execOp
      rw[eD]
      show Sem.run P (do let d <-resolve a.eval c o.type;invoke d.target d.args) w=_
      simp only[resolve,ads,hv,Deferred.ofValue,pure_bind,invoke]
      rw[Tk hg]
      congr 2
      exact Array.ext' (by simp)
     ·have k1:∀l:List Operand,c_ G w ρ (l.map (cz d s.get)++bs.map λb=>SV.pt b 0) (l.map a.eval++bs.map λb=>Value.pointer (some ⟨G.β b,0,none⟩)):=by
       intro l
       induction l with
       |nil=>
        clear hx h1 h2 hv
        induction bs with
        |nil=>trivial
        |cons b bs ih=>exact⟨rfl,ih⟩
       |cons y l ih=>exact⟨(Ev hr y).1,ih⟩
      exact k1 _
     ·intro v hv i hi
      rcases List.mem_append.1 hv with hv|hv
      ·obtain⟨y,_,rfl⟩:=List.mem_map.1 hv
       exact(Ev hr y).2 i hi
      ·obtain⟨b,hb,rfl⟩:=List.mem_map.1 hv
       simp[dt]at hi
       subst hi
       exact h2 _ (by simpa[dt]using hb)
   ·cases hi
  ·cases hi
 ·cases hi
theorem TH(E:Env P cx S)(hI:F5 P S R out B dL)(hn:∀o∈ops.toList,∀n,o.dst=some n->n<f.nt){fin:List Tr->KP}(lK:∀tr,Bw S R out B f K0 (fin tr) (Q .normal)):
  ∀(os:List Oper) (i:Nat) (tr:List Tr) (lv:Nat) (s:St) (ct:Ct) (fs:kj) (p:PL) (a:Act) (w:World),ops.toList.drop i=os->vx cx dL cV ft f.d ops false fin os i tr lv s ct fs=some p->
   At S R out B f K0 XT p lv s ct fs a w->wpOps P ops Q (List.range' i os.length) a w
 | [],i,tr,lv,s,ct,fs,p,a,w,_,h,bN=>lK tr lv s ct fs p a w h bN
 |o::os,i,tr,lv,s,ct,fs,p,a,w,K4,h,bN=>by
  have ho:ops[i]?=some o:=by
   rw[<-Array.getElem?_toList]
   have:=congrArg (·[0]?) K4
   simpa using this
  have gO:=hn o (List.mem_of_mem_drop (i:=i) (by rw[K4];simp))
  have F6:ops.toList.drop (i+1)=os:=by
   rw[<-List.drop_drop,K4];rfl
  have ih:=TH E hI hn lK os (i+1)
  obtain⟨K,ρ,G,h1,h2,h3,⟨e0,h0⟩,h4,h5,h6,h7,_⟩:=bN
  rw[List.length_cons,List.range'_succ,wpOps_cons]
  rcases TF (P:=P) (Q:=Q) (B:=B) (up:=f.up) (nt:=f.nt) (R:=R) (K:=K) (out:=out) E ho gO (show Cl cx dL cV ft f.d ops false o i (vx cx dL cV ft f.d ops false fin os (i+1)) tr lv s ct fs=some p from h) h1 h4 h5 with
   ⟨rd,wr,iJ,e,jR,p',EK,hle,tv,sG,lu,Qd⟩|⟨_,g,vs,jR,p',hg,hi,Qd,jH,sG⟩
  ·have TJ:=EK []
   rw[List.append_nil]at TJ
   refine TJ (λi=>i<ct.i) s G a w _ (λr hr=>rfl) h6.ext h7 (λj h1 h2=>by omega) λG' a' w' km Kh=>?_
   exact ih _ lv _ iJ jR p' a' w' F6 tv ⟨K,ρ++e,G',sG,h2,h3,⟨e0++e,by rw[h0,List.append_assoc]⟩,lu,Qd,km.mono (adp hle),Kh,trivial⟩
  ·have hQ:=λ(args:List Value) hr=>hI f g vs lv s ct jR _ p' K0 a w args (λv w'=>wpOps P ops Q (List.range' (i+1) os.length) (a.put o.dst v) w') jH ⟨K,ρ,G,sG,h2,h3,⟨e0,h0⟩,h4,Qd,h6,h7,hr⟩ λrs sH s' iJ fs2 p2 w' us hk ma=>
    adq (Ψ:=λa w'=>wpOps P ops Q (List.range' (i+1) os.length) a w') gO hk ma λtr lv s ct fs p a w hk xP=>ih tr lv s ct fs p a w F6 hk xP
   obtain⟨args,hx,hr,hm⟩:=adr (P:=P) h6 hi
   have hw:=F2 hg h6 Qd
   unfold wpOp
   simp only[ho,hw,if_true]
   left
   simp only[Oper.wp]
   obtain⟨hg0,Da⟩:=hQ args ⟨hr,hm⟩
   rw[hx hg0]
   refine Da.mono ?_
   rintro e w' ⟨v,rfl,hv⟩
   exact hv
end
structure Item where
 rd:List bD
 wr:St
 lo:Nat
 hi:Nat
def Item.tr(it:Item):Tr:=⟨it.rd,it.wr.map (·.1)⟩
inductive iX (Ok:Nat->Item->St->Prop):Nat->St->Nat->List Item->St->Nat->Prop
 |nil {i:Nat} {s:St} {c:Nat}:iX Ok i s c [] s c
 |cons {i:Nat} {s s':St} {c c':Nat} {it:Item} {its:List Item} (h:Ok i it s) (hl:it.lo=c) (hh:c<=it.hi) (ht:iX Ok (i+1) (s.fw it.wr) it.hi its s' c'):iX Ok i s c (it::its) s' c'
def oO(D:Nat->Bool):Nat->St->List Item->St
 |_,s,[]=>s
 |i,s,it::its=>oO D (i+1) (bif D i then s.fw it.wr else s) its
theorem iX.mono{Ok Ok':Nat->Item->St->Prop}(h:∀i it s,Ok i it s->Ok' i it s){i:Nat}{s s':St}{c c':Nat}{its:List Item}(hc:iX Ok i s c its s' c'):iX Ok' i s c its s' c':=by
 induction hc with
 |nil=>exact .nil
 |cons h1 h2 h3 _ ih=>exact .cons (h _ _ _ h1) h2 h3 ih
theorem iX.le{Ok:Nat->Item->St->Prop}{i:Nat}{s s':St}{c c':Nat}{its:List Item}(hc:iX Ok i s c its s' c'):c<=c':=by
 induction hc with
 |nil=>exact Nat.le_refl _
 |cons _ _ h3 _ ih=>exact Nat.le_trans h3 ih
theorem iX.get{Ok:Nat->Item->St->Prop}{i:Nat}{s s':St}{c c':Nat}{its:List Item}(hc:iX Ok i s c its s' c'):∀(m:Nat) (it:Item),its[m]?=some it->
  Ok (i+m) it (oO (λ_=>true) i s (its.take m))∧c<=it.lo∧it.lo<=it.hi∧it.hi<=c':=by
 induction hc with
 |nil=>intro m it h;simp at h
 | @cons i s s' c c' Qf its h1 h2 h3 h4 ih=>
  intro m it hm
  cases m with
  |zero=>
   simp at hm
   subst hm
   exact⟨h1,by omega,by omega,h4.le⟩
  |succ m=>
   obtain⟨g1,g2,g3,g4⟩:=ih m it (by simpa using hm)
   refine⟨?_,by omega,g3,g4⟩
   rw[show i+(m+1)=i+1+m by omega]
   simpa[oO]using g1
theorem iX.apart{Ok:Nat->Item->St->Prop}{i:Nat}{s s':St}{c c':Nat}{its:List Item}(hc:iX Ok i s c its s' c'):∀(m m':Nat) (it jp:Item),its[m]?=some it->its[m']?=some jp->m<m'->it.hi<=jp.lo:=by
 induction hc with
 |nil=>intro m m' it jp h;simp at h
 | @cons i s s' c c' Qf its h1 h2 h3 h4 ih=>
  intro m m' it jp hm Bo bE
  cases m' with
  |zero=>omega
  |succ m'=>
   cases m with
   |zero=>
    simp at hm
    subst hm
    exact(h4.get m' jp (by simpa using Bo)).2.1
   |succ m=>exact ih m m' it jp (by simpa using hm) (by simpa using Bo) (by omega)
theorem iX.last{Ok:Nat->Item->St->Prop}{i:Nat}{s s':St}{c c':Nat}{its:List Item}(hc:iX Ok i s c its s' c'){D:Nat->Bool}:(∀m,m<its.length->D (i+m)=true)->oO D i s its=s':=by
 induction hc with
 |nil=>intro _;rfl
 | @cons i s s' c c' Qf its h1 h2 h3 h4 ih=>
  intro h
  simp only[oO]
  rw[show D i=true from h 0 (by simp)]
  exact ih λm hm=>by rw[show i+1+m=i+(m+1) by omega];exact h (m+1) (by simpa using hm)
theorem TK{D:Nat->Bool}:∀{its:List Item} {i:Nat} {s:St},(∀m,m<its.length->D (i+m)=false)->oO D i s its=s
 | [],i,s,_=>rfl
 |it::its,i,s,h=>by
  simp only[oO]
  rw[show D i=false from h 0 (by simp)]
  exact TK λm hm=>by rw[show i+1+m=i+(m+1) by omega];exact h (m+1) (by simpa using hm)
theorem TL{D:Nat->Bool}:∀{its:List Item} {i:Nat} {s s2:St},(∀r,s.get r=s2.get r)->∀r,(oO D i s its).get r=(oO D i s2 its).get r
 | [],i,s,s2,h,r=>h r
 |it::its,i,s,s2,h,r=>by
  simp only[oO]
  refine TL (λr=>?_) r
  cases D i with
  |true=>simp only[cond_true];rw[St.a_,St.a_,h]
  |false=>exact h r
theorem TM{D D':Nat->Bool}:∀{its:List Item} {i:Nat} {s:St},(∀m,m<its.length->D (i+m)=D' (i+m))->oO D i s its=oO D' i s its
 | [],i,s,_=>rfl
 |it::its,i,s,h=>by
  simp only[oO]
  rw[show D i=D' i from h 0 (by simp)]
  exact TM λm hm=>by rw[show i+1+m=i+(m+1) by omega];exact h (m+1) (by simpa using hm)
theorem TN{D:Nat->Bool}{r:bD}:∀{its:List Item} {i:Nat} {s:St},(∀m it,its[m]?=some it->D (i+m)=true->it.wr.look r=none)->(oO D i s its).get r=s.get r
 | [],i,s,_=>rfl
 |it::its,i,s,h=>by
  simp only[oO]
  rw[TN λm jp hm hd=>h (m+1) jp (by simpa using hm) (by rw[show i+(m+1)=i+1+m by omega];exact hd)]
  cases hD:D i with
  |false=>rfl
  |true=>
   simp only[cond_true]
   rw[St.a_,h 0 it rfl (by simpa using hD)]
   rfl
theorem TO{D:Nat->Bool}{W:St}:∀{its:List Item} {i:Nat} {s:St},(∀m it,its[m]?=some it->D (i+m)=true->∀r,it.wr.look r=none∨W.look r=none)->
  ∀r,((oO D i s its).fw W).get r=(oO D i (s.fw W) its).get r
 | [],i,s,_,r=>rfl
 |it::its,i,s,h,r=>by
  simp only[oO]
  rw[TO λm jp hm hd=>h (m+1) jp (by simpa using hm) (by rw[show i+(m+1)=i+1+m by omega];exact hd)]
  refine TL (λr=>?_) r
  cases hD:D i with
  |false=>rfl
  |true=>
   simp only[cond_true]
   rw[St.a_,St.a_,St.a_,St.a_]
   rcases h 0 it rfl (by simpa using hD) r with h1|h1
   ·rw[h1];rfl
   ·rw[h1];rfl
def rW(D:Nat->Bool)(k:Nat):Nat->Bool:=λj=>if j=k then true else D j
theorem TP{D:Nat->Bool}:∀{its:List Item} {i m:Nat} {s:St} {it:Item},its[m]?=some it->D (i+m)=false->
  (∀m' jp,its[m']?=some jp->m<m'->D (i+m')=true->∀r,jp.wr.look r=none∨it.wr.look r=none)->∀r,((oO D i s its).fw it.wr).get r=(oO (rW D (i+m)) i s its).get r
 | [],i,m,s,it,h,_,_,r=>by simp at h
 |Qf::its,i,0,s,it,h,hd,hc,r=>by
  simp at h
  subst h
  simp only[oO,Nat.add_zero]at hd⊢
  rw[hd,show rW D i i=true by simp[rW]]
  simp only[cond_false,cond_true]
  rw[TO λm jp hm lz=>hc (m+1) jp (by simpa using hm) (by omega) (by rw[show i+(m+1)=i+1+m by omega];exact lz)]
  exact congrArg (λx=>St.get x r) (TM λm hm=>by
   have:¬(i+1+m=i):=by omega
   simp[rW,this])
 |Qf::its,i,m+1,s,it,h,hd,hc,r=>by
  simp only[oO]
  have e:rW D (i+(m+1)) i=D i:=by
   have:¬(i=i+(m+1)):=by omega
   simp[rW]
  rw[e,show i+(m+1)=i+1+m by omega]
  exact TP (by simpa using h) (by rw[show i+1+m=i+(m+1) by omega];exact hd) (λm' jp hm bE lz=>hc (m'+1) jp (by simpa using hm) (by omega) (by rw[show i+(m'+1)=i+1+m' by omega];exact lz)) r
theorem TQ{D:Nat->Bool}{r:bD}:∀{its:List Item} {i m:Nat} {s s2:St},s.get r=s2.get r->m<=its.length->(∀m' jp,its[m']?=some jp->m'<m->D (i+m')=false->jp.wr.look r=none)->
  (∀m' jp,its[m']?=some jp->m<=m'->D (i+m')=true->jp.wr.look r=none)->(oO D i s its).get r=(oO (λ_=>true) i s2 (its.take m)).get r
 |its,i,0,s,s2,h,_,h1,h2=>by
  rw[List.take_zero]
  show _=s2.get r
  rw[TN λm it hm hd=>h2 m it hm (by omega) hd,h]
 | [],i,m+1,s,s2,h,hl,_,_=>by simp at hl
 |Qf::its,i,m+1,s,s2,h,hl,h1,h2=>by
  simp only[oO,List.take_succ_cons,cond_true]
  refine TQ ?_ (by simpa using hl) (λm' jp hm bE hd=>h1 (m'+1) jp (by simpa using hm) (by omega) (by rw[show i+(m'+1)=i+1+m' by omega];exact hd))
   (λm' jp hm bE hd=>h2 (m'+1) jp (by simpa using hm) (by omega) (by rw[show i+(m'+1)=i+1+m' by omega];exact hd))
  cases hD:D i with
  |true=>simp only[cond_true];rw[St.a_,St.a_,h]
  |false=>
   simp only[cond_false]
   rw[St.a_,h1 0 Qf rfl (by omega) (by simpa using hD)]
   exact h
theorem K5{xs ys:List bD}(h:E9 xs ys=false):∀r,r∈xs->r∈ys->False:=by
 intro r h1 h2
 have h3:ys.any r.beq=false:=by have:=List.any_eq_false.1 h r h1;rw[Bool.not_eq_true]at this;exact this
 have:=List.any_eq_false.1 h3 r h2
 exact this (bD.beq_iff.2 rfl)
theorem F7{W:St}{r:bD}(h:r∉W.map (·.1)):W.look r=none:=by
 cases hl:W.look r with
 |none=>rfl
 |some u=>exact absurd (List.mem_map.2 ⟨(r,u),FV hl,rfl⟩) h
theorem K6{a b:Item}(h:xn a.tr b.tr=true):(∀r∈b.rd,a.wr.look r=none)∧(∀r,a.wr.look r=none∨b.wr.look r=none)∧(∀r∈a.rd,b.wr.look r=none):=by
 simp only[xn,bI,Bool.not_eq_true']at h
 obtain⟨⟨h1,h2⟩,h3⟩:=h
 refine⟨λr hr=>F7 λhm=>K5 h1 r hm hr,λr=>?_,λr hr=>F7 λhm=>K5 h3 r hr hm⟩
 by_cases hm:r∈a.wr.map (·.1)
 ·exact .inr (F7 λBo=>K5 h2 r hm Bo)
 ·exact .inl (F7 hm)
theorem TR{bj:Nat}{t:Tr}:∀{us:List Tr} {i:Nat},E_ bj t i us=true->∀j u,us[j]?=some u->Nat.testBit bj (i+j)=true∨xn u t=true
 | [],i,_,j,u,h=>by simp at h
 |v::us,i,h,j,u,hj=>by
  simp only[E_,bI,Bool.or_eq_true]at h
  cases j with
  |zero=>simp at hj;subst hj;exact h.1
  |succ j=>
   have:=TR h.2 j u (by simpa using hj)
   rw[show i+1+j=i+(j+1) by omega]at this
   exact this
theorem K7:∀{ts:List Tr} {bs:List Nat} {done:List Tr},xp done ts bs=true->∀(m u:Nat) (t tu:Tr) (b:Nat),ts[m]?=some t->bs[m]?=some b->u<done.length+m->(done++ts)[u]?=some tu->
  Nat.testBit b u=true∨xn tu t=true
 | [],bs,done,_,m,u,t,tu,b,h,_,_,_=>by simp at h
 |_::_,[],done,_,m,u,t,tu,b,_,h,_,_=>by simp at h
 |t0::ts,b0::bs,done,h,m,u,t,tu,b,hm,hb,hu,hg=>by
  simp only[xp,bI]at h
  cases m with
  |zero=>
   simp at hm hb
   subst hm hb
   have:=TR h.1 u tu (by rw[List.getElem?_append_left (by omega)]at hg;exact hg)
   simpa using this
  |succ m=>
   exact K7 h.2 m u t tu b (by simpa using hm) (by simpa using hb) (by simp;omega) (by simpa using hg)
def xQ(n:Nat)(e:Edge):Bool:=Region.binds .any e&&Nat.blt e.on n
theorem TS(acc:List Nat)(n:Nat):∀(es:List Edge) (s u:Nat),Nat.testBit (es.foldl (λs e=>bif xQ n e then s|||(2^e.on)|||(acc.getD e.on 0)else s) s) u=true->
  Nat.testBit s u=true∨∃e∈es,xQ n e=true∧(u=e.on∨Nat.testBit (acc.getD e.on 0) u=true)
 | [],s,u,h=>.inl h
 |e::es,s,u,h=>by
  rw[List.foldl_cons]at h
  rcases TS acc n es _ u h with h1|⟨e',TT,h1⟩
  ·cases hc:xQ n e with
   |false=>rw[hc]at h1;exact .inl h1
   |true=>
    rw[hc]at h1
    simp only[cond_true,Nat.testBit_or,Bool.or_eq_true]at h1
    rcases h1 with(h1|h1)|h1
    ·exact .inl h1
    ·rw[Nat.testBit_two_pow]at h1
     simp at h1
     exact .inr ⟨e,by simp,hc,.inl h1.symm⟩
    ·exact .inr ⟨e,by simp,hc,.inr h1⟩
  ·exact .inr ⟨e',by simp[TT],h1⟩
theorem K8:∀(os:List Oper) (acc:List Nat) (j:Nat),j<acc.length->(s_ acc os)[j]?=acc[j]?
 | [],acc,j,_=>rfl
 |o::os,acc,j,h=>by
  simp only[s_]
  rw[K8 os _ j (by simp;omega),List.getElem?_append_left h]
theorem TU:∀(os:List Oper) (acc:List Nat),(s_ acc os).length=acc.length+os.length
 | [],acc=>rfl
 |o::os,acc=>by simp only[s_];rw[TU];simp;omega
theorem K9:∀(os:List Oper) (acc:List Nat) (k b:Nat),acc.length<=k->(s_ acc os)[k]?=some b->∃o,os[k-acc.length]?=some o∧
  ∀u,Nat.testBit b u=true->∃e∈o.after.toList,xQ k e=true∧(u=e.on∨Nat.testBit ((s_ acc os).getD e.on 0) u=true)
 | [],acc,k,b,hk,h=>by
  simp only[s_]at h
  have:=(List.getElem?_eq_some_iff.1 h).1
  omega
 |o::os,acc,k,b,hk,h=>by
  simp only[s_]at h⊢
  by_cases he:k=acc.length
  ·subst he
   rw[K8 os _ _ (by simp),List.getElem?_append_right (Nat.le_refl _)]at h
   simp only[Nat.sub_self,List.getElem?_cons_zero,bF]at h
   refine⟨o,by simp,λu hu=>?_⟩
   rw[<-h]at hu
   rcases TS acc acc.length o.after.toList 0 u hu with h1|⟨e,he,h1,h2⟩
   ·simp at h1
   ·refine⟨e,he,h1,h2.imp_right λh2=>?_⟩
    have bE:e.on<acc.length:=by
     simp only[xQ,bI]at h1
     exact Nat.lt_of_succ_le (by simpa[Nat.blt]using h1.2)
    rw[List.getD_eq_getElem?_getD,K8 os _ _ (by simp;omega),List.getElem?_append_left bE,<-List.getD_eq_getElem?_getD]
    exact h2
  ·obtain⟨o',h1,h2⟩:=K9 os _ k b (by simp;omega) h
   refine⟨o',?_,h2⟩
   rw[<-h1,show k-acc.length=(k-(acc.length+1))+1 by omega]
   simp
theorem TV:∀{os:List Oper} {i:Nat},xo i os=true->∀m o,os[m]?=some o->∀e∈o.after.toList,Region.binds .any e=true->e.on<i+m
 | [],i,_,m,o,h,_,_,_=>by simp at h
 |o0::os,i,h,m,o,hm,e,he,hb=>by
  simp only[xo,bI]at h
  cases m with
  |zero=>
   simp at hm
   subst hm
   have:=List.all_eq_true.1 h.1 e he
   simp only[hb,Bool.not_true,Bool.false_or]at this
   exact Nat.lt_of_succ_le (by simpa[Nat.blt]using this)
  |succ m=>
   have:=TV h.2 m o (by simpa using hm) e he hb
   omega
def K_(ops:Array Oper)(D:Nat->Bool):Prop:=∀(j:Nat) (o:Oper),D j=true->ops[j]?=some o->∀e∈o.after.toList,Region.binds .any e=true->D e.on=true
theorem TW{ops:Array Oper}{D:Nat->Bool}(hc:K_ ops D):∀(j b u:Nat),D j=true->(s_ [] ops.toList)[j]?=some b->Nat.testBit b u=true->D u=true:=by
 intro j
 induction j using Nat.strongRecOn with
 |_ j ih=>
  intro b u hj hb hu
  obtain⟨o,ho,h⟩:=K9 ops.toList [] j b (by simp) hb
  obtain⟨e,he,h1,h2⟩:=h u hu
  simp only[xQ,bI]at h1
  have bE:e.on<j:=Nat.lt_of_succ_le (by simpa[Nat.blt]using h1.2)
  have hd:=hc j o hj (by simpa using ho) e he h1.1
  rcases h2 with rfl|h2
  ·exact hd
  ·have hlen:e.on<(s_ [] ops.toList).length:=by
    have:=(List.getElem?_eq_some_iff.1 hb).1
    omega
   rw[List.getD_eq_getElem?_getD,List.getElem?_eq_getElem hlen]at h2
   exact ih e.on bE _ u hd (List.getElem?_eq_getElem hlen) h2
theorem adt{ops:Array Oper}{D:Nat->Bool}(hc:K_ ops D){k b u:Nat}{o:Oper}(ho:ops[k]?=some o)(hr:∀e∈o.after.toList,Region.binds .any e=true->D e.on=true)
  (hb:(s_ [] ops.toList)[k]?=some b)(hu:Nat.testBit b u=true):D u=true:=by
 obtain⟨o',I0,h⟩:=K9 ops.toList [] k b (by simp) hb
 simp only[List.length_nil,Nat.sub_zero,Array.getElem?_toList,ho,bF]at I0
 subst I0
 obtain⟨e,he,h1,h2⟩:=h u hu
 simp only[xQ,bI]at h1
 have hd:=hr e he h1.1
 have bE:e.on<k:=Nat.lt_of_succ_le (by simpa[Nat.blt]using h1.2)
 rcases h2 with rfl|h2
 ·exact hd
 ·have hlen:e.on<(s_ [] ops.toList).length:=by
   have:=(List.getElem?_eq_some_iff.1 hb).1
   omega
  rw[List.getD_eq_getElem?_getD,List.getElem?_eq_getElem hlen]at h2
  exact TW hc e.on _ u hd (List.getElem?_eq_getElem hlen) h2
def Bx:List Bool->Nat
 | []=>0
 |true::l=>Bx l
 |false::l=>Bx l+1
theorem La:∀(l:List Bool) (i:Nat),l[i]?=some false->Bx (l.set i true)+1=Bx l
 | [],i,h=>by simp at h
 |b::l,0,h=>by simp at h;subst h;simp[Bx]
 |true::l,i+1,h=>by simp only[List.set_cons_succ,Bx];exact La l i (by simpa using h)
 |false::l,i+1,h=>by simp only[List.set_cons_succ,Bx];rw[<-La l i (by simpa using h)]
theorem TX:∀(l:List Bool),Bx l=0->∀i,i<l.length->l[i]?=some true
 | [],_,i,h=>by simp at h
 |true::l,h,0,_=>rfl
 |true::l,h,i+1,hi=>by simpa using TX l h i (by simpa using hi)
 |false::l,h,_,_=>by simp[Bx]at h
theorem TY:∀n,Bx (List.replicate n false)=n
 |0=>rfl
 |n+1=>by simp[List.replicate_succ,Bx,TY n]
section
variable {B:eT} {d:Nat} {up:Nat->Nat->Value} {S:Nat->aB} {P:Program} {cx:Cx} {dL:qQ} {cV ft:Nat} {R:Nat} {Q:Exit->Act->World->Prop} {ops:Array Oper} {nt:Nat} {ρ:List T}
variable {its:List Item} {s0 s1:St} {c0 c1:Nat}
def MD(c0:Nat)(its:List Item)(D:Nat->Bool)(j:Nat):Prop:=j<c0∨∃m it,its[m]?=some it∧D m=true∧it.lo<=j∧j<it.hi
def pP(listed:Array Bool)(j:Nat):Bool:=listed.getD j false
theorem adu{listed:Array Bool}{i:Nat}(h:i<listed.size):pP (listed.setIfInBounds i true)=rW (pP listed) i:=by
 funext j
 unfold pP rW
 by_cases hj:j=i
 ·subst hj
  simp[Array.getD_eq_getD_getElem?,h]
 ·rw[if_neg hj,getD_set_ne _ (Ne.symm hj)]
theorem adv(hc:iX (λi it s=>Af P ops Q B d up nt ρ i it.rd it.wr it.lo it.hi s) 0 s0 c0 its s1 c1)(hlen:its.length=ops.size)(ez:xp [] (its.map Item.tr) (s_ [] ops.toList)=true)(hfw:xo 0 ops.toList=true)
  (hQ:∀G a w,Rel (λi=>i<c1) B d up s1 ρ G a w->a.tmps.size=nt->Q .normal a w):
  ∀(De:Nat) (listed:Array Bool) (a:Act) (w:World),listed.size=ops.size->Bx listed.toList<=De->K_ ops (pP listed)->
   (∃G,Rel (MD c0 its (pP listed)) B d up (oO (pP listed) 0 s0 its) ρ G a w)->a.tmps.size=nt->wpAny P .any ops Q De listed a w:=by
 have arU:(s_ [] ops.toList).length=ops.size:=by rw[TU];simp
 have gone:∀(listed:Array Bool),listed.size=ops.size->Region.ready .any ops listed=[]->∀j,j<ops.size->pP listed j=true:=by
  intro listed hs hr j
  induction j using Nat.strongRecOn with
  |_ j ih=>
   intro hj
   cases hd:pP listed j with
   |true=>rfl
   |false=>
    exfalso
    have ho:ops[j]?=some ops[j]:=Array.getElem?_eq_getElem hj
    have:j∈Region.ready .any ops listed:=by
     rw[mem_ready]
     refine⟨?_,ops[j],ho,λe he hb=>?_⟩
     ·unfold pP at hd
      rw[Array.getD_eq_getD_getElem?]at hd⊢
      rw[Array.getElem?_eq_getElem (by omega)]at hd⊢
      simpa using hd
     ·have bE:=TV hfw j ops[j] (by simp) e (by simpa using he) hb
      have bE:e.on<j:=by omega
      exact ih e.on bE (by omega)
    rw[hr]at this
    cases this
 have fin:∀(listed:Array Bool) (a:Act) (w:World),listed.size=ops.size->Region.ready .any ops listed=[]->(∃G,Rel (MD c0 its (pP listed)) B d up (oO (pP listed) 0 s0 its) ρ G a w)->a.tmps.size=nt->Q .normal a w:=by
  rintro listed a w hs hr ⟨G,pQ⟩ rl
  have nL:=gone listed hs hr
  rw[hc.last λm hm=>by rw[Nat.zero_add];exact nL m (by omega)]at pQ
  refine hQ G a w (pQ.mono λj hj=>?_) rl
  rcases hj with h1|⟨m,it,hm,_,_,h3⟩
  ·exact Nat.lt_of_lt_of_le h1 hc.le
  ·exact Nat.lt_of_lt_of_le h3 (hc.get m it hm).2.2.2
 intro De
 induction De with
 |zero=>
  intro listed a w hs hf _ hr rl
  have h0:∀j,j<ops.size->pP listed j=true:=by
   intro j hj
   have:=TX listed.toList (by omega) j (by simp;omega)
   unfold pP
   rw[Array.getD_eq_getD_getElem?,<-Array.getElem?_toList,this]
   rfl
  have Z_:Region.ready .any ops listed=[]:=by
   cases hl:Region.ready .any ops listed with
   |nil=>rfl
   |cons j l=>
    exfalso
    have hm:j∈Region.ready .any ops listed:=by rw[hl];simp
    obtain⟨h1,o,ho,_⟩:=mem_ready.1 hm
    have hj:j<ops.size:=(Array.getElem?_eq_some_iff.1 ho).1
    have:=h0 j hj
    unfold pP at this
    rw[Array.getD_eq_getD_getElem?]at this h1
    rw[Array.getElem?_eq_getElem (by omega)]at this h1
    simp at this h1
    rw[this]at h1
    cases h1
  exact⟨Z_,fin listed a w hs Z_ hr rl⟩
 |succ De ih=>
  intro listed a w hs hf uX hr rl
  refine⟨λZ_=>fin listed a w hs Z_ hr rl,λk hk=>?_⟩
  obtain⟨eU,o,ho,hed⟩:=mem_ready.1 hk
  obtain⟨G,pQ⟩:=hr
  have atq:k<ops.size:=(Array.getElem?_eq_some_iff.1 ho).1
  have TZ:k<listed.size:=by omega
  have sB:pP listed k=false:=by
   unfold pP
   rw[Array.getD_eq_getD_getElem?]at eU⊢
   rw[Array.getElem?_eq_getElem TZ]at eU⊢
   simpa using eU
  obtain⟨it,EK⟩:∃it,its[k]?=some it:=⟨its[k]'(by omega),List.getElem?_eq_getElem (by omega)⟩
  obtain⟨b,hb⟩:∃b,(s_ [] ops.toList)[k]?=some b:=⟨_,List.getElem?_eq_getElem (by omega)⟩
  obtain⟨g1,g2,g3,g4⟩:=hc.get k it EK
  have T0:(its.map Item.tr)[k]?=some it.tr:=by rw[List.getElem?_map,EK];rfl
  have T1:∀e∈o.after.toList,Region.binds .any e=true->pP listed e.on=true:=λe he hbd=>hed e (by simpa using he) hbd
  have before:∀m' jp,its[m']?=some jp->m'<k->pP listed m'=false->xn jp.tr it.tr=true:=by
   intro m' jp hm bE hd
   rcases K7 ez k m' it.tr jp.tr b T0 hb (by simpa using bE) (by rw[List.nil_append,List.getElem?_map,hm];rfl)with h1|h1
   ·rw[adt uX ho T1 hb h1]at hd;cases hd
   ·exact h1
  have behind:∀m' jp,its[m']?=some jp->k<m'->pP listed m'=true->xn it.tr jp.tr=true:=by
   intro m' jp hm bE hd
   have hml:m'<ops.size:=by rw[<-hlen];exact(List.getElem?_eq_some_iff.1 hm).1
   obtain⟨b',kl⟩:∃b',(s_ [] ops.toList)[m']?=some b':=⟨_,List.getElem?_eq_getElem (by omega)⟩
   rcases K7 ez m' k jp.tr it.tr b' (by rw[List.getElem?_map,hm];rfl) kl (by simpa using bE) (by rw[List.nil_append];exact T0)with h1|h1
   ·rw[TW uX m' b' k hd kl h1]at sB;cases sB
   ·exact h1
  have vW:∀r∈it.rd,(oO (pP listed) 0 s0 its).get r=(oO (λ_=>true) 0 s0 (its.take k)).get r:=by
   intro r hr
   refine TQ rfl (by omega) (λm' jp hm bE hd=>?_) (λm' jp hm hle hd=>?_)
   ·rw[Nat.zero_add]at hd;exact(K6 (before m' jp hm bE hd)).1 r hr
   ·rw[Nat.zero_add]at hd
    by_cases he:m'=k
    ·subst he;rw[sB]at hd;cases hd
    ·exact(K6 (behind m' jp hm (by omega) hd)).2.2 r hr
  have Lc:∀j,it.lo<=j->j<it.hi->¬MD c0 its (pP listed) j:=by
   rintro j h1 h2 (h3|⟨m,jp,hm,hd,h3,h4⟩)
   ·omega
   ·rcases Nat.lt_trichotomy m k with bE|heq|So
    ·have:=hc.apart m k jp it hm EK bE;omega
    ·subst heq;rw[sB]at hd;cases hd
    ·have:=hc.apart k m it jp EK hm So;omega
  rw[Nat.zero_add]at g1
  refine g1 (MD c0 its (pP listed)) (oO (pP listed) 0 s0 its) G a w _ vW pQ rl Lc λG' a' w' km Kh=>?_
  have F8:=adu (i:=k) TZ
  refine ih (listed.setIfInBounds k true) a' w' (by simp[hs]) ?_ ?_ ?_ Kh
  ·have:=La listed.toList k (by
    unfold pP at sB
    rw[Array.getD_eq_getD_getElem?,<-Array.getElem?_toList]at sB
    rw[List.getElem?_eq_getElem (by simpa using TZ)]at sB⊢
    simpa using sB)
   rw[Array.toList_setIfInBounds]
   omega
  ·rw[F8]
   intro j oj hj hoj e he hbd
   unfold rW at hj⊢
   by_cases hjk:j=k
   ·subst hjk
    rw[ho]at hoj
    cases hoj
    by_cases I5:e.on=j
    ·simp[I5]
    ·rw[if_neg I5];exact T1 e he hbd
   ·rw[if_neg hjk]at hj
    by_cases I5:e.on=k
    ·simp[I5]
    ·rw[if_neg I5];exact uX j oj hj hoj e he hbd
  ·refine⟨G',?_⟩
   rw[F8]
   refine(km.mono ?_).congr λr=>?_
   ·rintro j (h1|⟨h1,h2⟩)
    ·rcases h1 with h1|⟨m,jp,hm,hd,h3⟩
     ·exact .inl h1
     ·exact .inr ⟨m,jp,hm,by unfold rW;split<;>simp_all,h3⟩
    ·exact .inr ⟨k,it,EK,by simp[rW],h1,h2⟩
   ·have:=TP (D:=pP listed) (i:=0) EK (by rw[Nat.zero_add];exact sB) (s:=s0) (λm' jp hm bE hd r=>by
     rw[Nat.zero_add]at hd
     rcases(K6 (behind m' jp hm bE hd)).2.1 r with h1|h1
     ·exact .inr h1
     ·exact .inl h1) r
    rw[Nat.zero_add]at this
    exact this.symm
end
section
variable {B:eT} {f:Fr} {S:Nat->aB} {P:Program} {cx:Cx} {dL:qQ} {cV ft:Nat} {R:Nat} {Q:Exit->Act->World->Prop} {ops:Array Oper} {out:List T} {K0:Zb}
theorem T2(E:Env P cx S)(hn:∀o∈ops.toList,∀n,o.dst=some n->n<f.nt){fin:List Tr->KP}{K:List aB}:
  ∀(os:List Oper) (i:Nat) (tr:List Tr) (lv:Nat) (s:St) (ct:Ct) (fs:kj) (p:PL) (ρ:List T),ops.toList.drop i=os->vx cx dL cV ft f.d ops true fin os i tr lv s ct fs=some p->
   p.den S R K ρ=some out->ρ.length=ct.a->dl fs ρ->∃its iJ e s' jR p',its.length=os.length∧
    (∀e',iX (λi it s=>Af P ops Q B f.d f.up f.nt (ρ++e++e') i it.rd it.wr it.lo it.hi s) i s ct.i its s' iJ.i)∧
    fin (tr++its.map Item.tr) lv s' iJ jR=some p'∧p'.den S R K (ρ++e)=some out∧(ρ++e).length=iJ.a∧dl jR (ρ++e)
 | [],i,tr,lv,s,ct,fs,p,ρ,_,h,hp,hl,hf=>by
  refine⟨[],ct,[],s,fs,p,rfl,λe'=>.nil,?_,by rw[List.append_nil];exact hp,by rw[List.append_nil];exact hl,by rw[List.append_nil];exact hf⟩
  rw[List.map_nil,List.append_nil];exact h
 |o::os,i,tr,lv,s,ct,fs,p,ρ,K4,h,hp,hl,hf=>by
  have ho:ops[i]?=some o:=by
   rw[<-Array.getElem?_toList]
   have:=congrArg (·[0]?) K4
   simpa using this
  have gO:=hn o (List.mem_of_mem_drop (i:=i) (by rw[K4];simp))
  have F6:ops.toList.drop (i+1)=os:=by
   rw[<-List.drop_drop,K4];rfl
  rcases TF (P:=P) (Q:=Q) (B:=B) (up:=f.up) (nt:=f.nt) (R:=R) (K:=K) (out:=out) E ho gO (show Cl cx dL cV ft f.d ops true o i (vx cx dL cV ft f.d ops true fin os (i+1)) tr lv s ct fs=some p from h) hp hl hf with
   ⟨rd,wr,iJ,e,jR,p',EK,hle,tv,sG,lu,Qd⟩|⟨hd,_⟩
  ·obtain⟨its,ct2,e2,s2,fs2,p2,q1,q2,q3,q4,q5,q6⟩:=T2 E hn os (i+1) _ lv _ iJ jR p' (ρ++e) F6 tv sG lu Qd
   refine⟨⟨rd,wr,ct.i,iJ.i⟩::its,ct2,e++e2,s2,fs2,p2,by simp[q1],λe'=>.cons ?_ rfl hle ?_,?_,by rw[<-List.append_assoc];exact q4,by rw[<-List.append_assoc];exact q5,by rw[<-List.append_assoc];exact q6⟩
   ·have:=EK (e2++e')
    simp only[List.append_assoc]at this⊢
    exact this
   ·have:=q2 e'
    simp only[List.append_assoc]at this⊢
    exact this
   ·simp only[List.map_cons,Item.tr]
    rw[List.append_assoc]at q3
    exact q3
  ·cases hd
theorem Rel.drew{M:Nat->Prop}{d:Nat}{up:Nat->Nat->Value}{s:St}{ρ:List T}{G:Gh}{a:Act}{w:World}(h:Rel M B d up s ρ G a w):Rel M B d up s ρ G a {w with drawn:=w.drawn+1}:=by
 have k:dA (λ_=>False) (λ_=>False) G w G {w with drawn:=w.drawn+1}:=⟨Nat.le_refl _,λ_ _ h=>⟨h,rfl⟩,λ_ _ h=>h,λ_ _ h _=>⟨h,rfl⟩,λ_ _=>⟨rfl,λ_ _=>rfl⟩⟩
 exact⟨λe n he=>(h.tm e n he).bp k λ_ _ hf=>hf,λb=>(h.bx b).bp k (λhf=>hf) (λhf=>hf) λ_ _ hf=>hf,λi=>(h.ob i).bp k (λ_ hf=>hf) (λhf=>hf) λ_ _ hf=>hf,h.fZ,h.key,h.iO,h.dn,
  ⟨h.base.os,h.base.tape,h.base.output,h.base.size,h.base.free,h.base.Eu,h.base.gl⟩,h.bt⟩
theorem T3(E:Env P cx S)(hI:F5 P S R out B dL)(yY:P.follows .mixedOrders=true)(hn:∀o∈ops.toList,∀n,o.dst=some n->n<f.nt){id:Nat}{draw:Bool}{k:KP}(hk:Bw S R out B f K0 k (Q .normal))
  {lv:Nat}{s:St}{ct:Ct}{fs:kj}{p:PL}{a:Act}{w:World}
  (h:vx cx dL cV ft f.d ops draw (λtr lv s ct fs=>bif draw then bif xp [] tr (s_ [] ops.toList)&&xo 0 ops.toList then k lv s ct fs else some (.tK (cV*100000000+100000+id) [])else k lv s ct fs) ops.toList 0 [] lv s ct fs=some p)
  (bN:At S R out B f K0 XT p lv s ct fs a w):(Code.region id ops draw).wp P Q a w:=by
 cases draw with
 |false=>
  refine wp_region ?_
  rw[List.range_eq_range',<-Array.length_toList]
  exact TH E hI hn (fin:=λtr lv s ct fs=>k lv s ct fs) (λtr=>hk) ops.toList 0 [] lv s ct fs p a w rfl h bN
 |true=>
  refine wp_region_any yY ?_
  obtain⟨K,ρ,G,h1,h2,h3,⟨e0,h0⟩,h4,h5,h6,h7,_⟩:=bN
  obtain⟨its,iJ,e,s',jR,p',q1,q2,q3,q4,q5,q6⟩:=T2 (Q:=Q) (B:=B) E hn ops.toList 0 [] lv s ct fs p ρ rfl h h1 h4 h5
  simp only[List.nil_append,cond_true]at q3
  cases hc:(xp [] (its.map Item.tr) (s_ [] ops.toList)&&xo 0 ops.toList)with
  |false=>
   rw[hc]at q3
   simp only[cond_false,bF]at q3
   subst q3
   cases q4
  |true=>
   rw[hc]at q3
   simp only[cond_true]at q3
   simp only[bI]at hc
   have hch:=q2 []
   rw[List.append_nil]at hch
   have dB:∀j,pP (Array.replicate ops.size false) j=false:=by
    intro j
    unfold pP
    rw[Array.getD_eq_getD_getElem?,Array.getElem?_replicate]
    split<;>rfl
   refine adv (B:=B) hch (by rw[q1];simp) hc.1 hc.2 (λG a w hr hs=>hk lv s' iJ jR p' a w q3 ⟨K,ρ++e,G,q4,h2,h3,⟨e0++e,by rw[h0,List.append_assoc]⟩,q5,q6,hr,hs,trivial⟩) ops.size _ a _ (by simp)
    (by rw[Array.toList_replicate,TY];exact Nat.le_refl _) (λj o hj=>by rw[dB j]at hj;cases hj) ⟨G,?_⟩ h7
   rw[TK λm _=>dB _]
   exact(h6.ext.drew).mono λi hi=>.inl hi
end
theorem Ld:∀{p q:oJ},xr p q=true->p=q
 | [],[],_=>rfl
 |(x,w,j)::p,(x',w',j')::q,h=>by
  simp only[xr,bI]at h
  obtain⟨⟨⟨h1,h2⟩,h3⟩,h4⟩:=h
  rw[Lf.beq_eq h1,dU h2,dU h3,Ld h4]
 | [],_::_,h=>by simp[xr]at h
 |_::_,[],h=>by simp[xr]at h
theorem Ce.beq_eq{c e:Ce}(h:c.beq e=true):c=e:=by
 cases c<;>cases e<;>simp only[Ce.beq,bI]at h<;>try cases h
 ·rw[Lf.beq_eq h]
 ·rename_i h1 h2;rw[dU h1,Ld h2]
 ·rfl
 ·rfl
theorem Le:∀{cs es:List Ce},xt cs es=true->cs=es
 | [],[],_=>rfl
 |c::cs,e::es,h=>by simp only[xt,bI]at h;rw[Ce.beq_eq h.1,Le h.2]
 | [],_::_,h=>by simp[xt]at h
 |_::_,[],h=>by simp[xt]at h
theorem T4:∀{cs es:List Nat},zH cs es=true->cs=es
 | [],[],_=>rfl
 |c::cs,e::es,h=>by simp only[zH,bI]at h;rw[dU h.1,T4 h.2]
 | [],_::_,h=>by simp[zH]at h
 |_::_,[],h=>by simp[zH]at h
theorem T5:∀{cs es:List (Bool×List Ce)},zI cs es=true->cs=es
 | [],[],_=>rfl
 |(a,c)::cs,(b,e)::es,h=>by
  simp only[zI,bI,beq_iff_eq]at h
  rw[h.1.1,Le h.1.2,T5 h.2]
 | [],_::_,h=>by simp[zI]at h
 |_::_,[],h=>by simp[zI]at h
theorem SV.beq_eq{v u:SV}(h:v.beq u=true):v=.un∨v=u:=by
 cases v with
 |un=>exact .inl rfl
 |v a cs=>
  cases u with
  |v b es=>simp only[SV.beq,bI,beq_iff_eq]at h;rw[h.1,Le h.2];exact .inr rfl
  |_=>simp[SV.beq]at h
 |pt b o=>
  cases u with
  |pt b o=>simp only[SV.beq,bI]at h;rw[dU h.1,dU h.2];exact .inr rfl
  |_=>simp[SV.beq]at h
 |ep i q x w o=>
  cases u with
  |ep i q x w o=>
   simp only[SV.beq,bI]at h
   obtain⟨⟨⟨⟨h1,h2⟩,h3⟩,h4⟩,h5⟩:=h
   rw[dU h1,Ld h2,Lf.beq_eq h3,dU h4,dU h5];exact .inr rfl
  |_=>simp[SV.beq]at h
 |fp s x w o=>
  cases u with
  |fp s x w o=>
   simp only[SV.beq,bI]at h
   obtain⟨⟨⟨h1,h2⟩,h3⟩,h4⟩:=h
   rw[Lf.beq_eq h1,Lf.beq_eq h2,dU h3,dU h4];exact .inr rfl
  |_=>simp[SV.beq]at h
 |tp vs=>
  cases u with
  |tp us=>simp only[SV.beq]at h;rw[T5 h];exact .inr rfl
  |_=>simp[SV.beq]at h
 |cl f bs=>
  cases u with
  |cl f bs=>simp only[SV.beq,bI]at h;rw[dU h.1,T4 h.2];exact .inr rfl
  |_=>simp[SV.beq]at h
 |ob d x=>
  cases u with
  |ob d x=>simp only[SV.beq,bI,beq_iff_eq]at h;rw[h.1,Lf.beq_eq h.2];exact .inr rfl
  |_=>simp[SV.beq]at h
 |fz p x=>
  cases u with
  |fz q y=>
   simp only[SV.beq,bI]at h
   have e2:=Lf.beq_eq h.2
   subst e2
   have h1:=h.1
   cases p with
   |z=>
    cases q with
    |z=>exact .inr rfl
    |w=>simp[Pv.beq]at h1
   |w t x0 l=>
    cases q with
    |z=>simp[Pv.beq]at h1
    |w t' x0' l'=>
     simp only[Pv.beq,bI]at h1
     rw[dU h1.1.1,Lf.beq_eq h1.1.2,Lf.beq_eq h1.2];exact .inr rfl
  |_=>simp[SV.beq]at h
 |tk x m=>
  cases u with
  |tk y n=>simp only[SV.beq,bI]at h;rw[Lf.beq_eq h.1,Lf.beq_eq h.2];exact .inr rfl
  |_=>simp[SV.beq]at h
 |fl x=>
  cases u with
  |fl x=>simp only[SV.beq]at h;rw[Lf.beq_eq h];exact .inr rfl
  |_=>simp[SV.beq]at h
 |fr x=>
  cases u with
  |fr x=>simp only[SV.beq]at h;rw[Lf.beq_eq h];exact .inr rfl
  |_=>simp[SV.beq]at h
def Ag(n:Nat)(ρ rp:List T):Prop:=∀m,m<n->ρ[m]?=rp[m]?
theorem y8{a b:Nat}(h:Nat.blt a b=true):a<b:=Nat.lt_of_succ_le (by simpa[Nat.blt]using h)
section
variable {G:Gh} {w:World} {ρ rp:List T} {n i:Nat}
theorem Lf.gE(ha:Ag n ρ rp){x:Lf}(h:x.jG n=true):x.fN ρ=x.fN rp:=by
 cases x with
 |k v=>rfl
 |a m=>exact ha m (y8 h)
 |e=>rfl
theorem F9(ha:Ag n ρ rp){x:Lf}(h:x.jG n=true):mY ρ x=mY rp x:=by unfold mY;rw[Lf.gE ha h]
theorem T6(ha:Ag n ρ rp):∀{q:oJ},zJ n q=true->gQ ρ q=gQ rp q
 | [],_=>rfl
 |(x,w,j)::q,h=>by
  simp only[zJ,bI]at h
  simp only[gQ,F9 ha h.1,T6 ha h.2]
theorem T7(ha:Ag n ρ rp){id:Nat}{q:oJ}(h:zJ n q=true):lU ρ id q=lU rp id q:=by
 cases q with
 |nil=>rfl
 |cons x q=>simp only[lU];rw[T6 ha h]
theorem gf.um(ha:Ag n ρ rp){c:Ce}{v:Value}(hb:c.jG n i=true)(h:gf G w ρ c v):gf G w rp c v:=by
 cases c with
 |p x=>obtain⟨t,h1,h2⟩:=h;exact⟨t,by rw[<-Lf.gE ha hb];exact h1,h2⟩
 |o id q=>
  simp only[Ce.jG,bI]at hb
  obtain⟨p,h1,h2⟩:=h
  exact⟨p,by rw[<-T7 ha hb.2];exact h1,h2⟩
 |n=>exact h
 |d=>exact h
theorem bn.um(ha:Ag n ρ rp):∀{cs:List Ce} {vs:List Value},rH n i cs=true->bn G w ρ cs vs->bn G w rp cs vs
 | [],[],_,_=>trivial
 |c::cs,v::vs,hb,h=>by
  simp only[rH,bI]at hb
  exact⟨h.1.um ha hb.1,bn.um ha hb.2 h.2⟩
 | [],_::_,_,h=>h.elim
 |_::_,[],_,h=>h.elim
theorem fh.um(ha:Ag n ρ rp){ag:Bool}{cs:List Ce}{c:Value}(hb:rH n i cs=true)(h:fh G w ρ ag cs c):fh G w rp ag cs c:=by
 cases ag with
 |true=>obtain⟨vs,h1,h2⟩:=h;exact⟨vs,h1,h2.um ha hb⟩
 |false=>
  obtain⟨x,rfl,h2,h3⟩:=h
  simp only[rH,Bool.and_true]at hb
  exact⟨x,rfl,h2.um ha hb,h3⟩
theorem gD.um(ha:Ag n ρ rp):∀{cs:List (Bool×List Ce)} {vs:List Value},zK n i cs=true->gD G w ρ cs vs->gD G w rp cs vs
 | [],[],_,_=>trivial
 |c::cs,v::vs,hb,h=>by
  simp only[zK,bI]at hb
  exact⟨h.1.um ha hb.1,gD.um ha hb.2 h.2⟩
 | [],_::_,_,h=>h.elim
 |_::_,[],_,h=>h.elim
theorem cL.um(ha:Ag n ρ rp){v:SV}{c:Value}(hb:v.jG n i=true)(h:cL G w ρ v c):cL G w rp v c:=by
 cases v with
 |un=>trivial
 |v ag cs=>exact fh.um ha hb h
 |pt b off=>exact h
 |ep id q ix wd off=>
  simp only[SV.jG,bI]at hb
  obtain⟨p,b,m,cap,j,h1,h2,h3,h4⟩:=h
  exact⟨p,b,m,cap,j,by rw[<-T7 ha hb.1.2];exact h1,h2,by rw[<-F9 ha hb.2];exact h3,h4⟩
 |fp s ix wd off=>
  simp only[SV.jG,bI]at hb
  obtain⟨xs,j,r,b,base,h1,h2,h3⟩:=h
  exact⟨xs,j,r,b,base,by rw[<-Lf.gE ha hb.1];exact h1,by rw[<-F9 ha hb.2];exact h2,h3⟩
 |tp vs=>obtain⟨us,h1,h2⟩:=h;exact⟨us,h1,h2.um ha hb⟩
 |cl f bs=>exact h
 |ob dp x=>exact h
 |fz pv x=>exact h
 |tk x m=>exact h
 |fl x=>exact h
 |fr x=>exact h
theorem fY.um(ha:Ag n ρ rp){b:Nat}{v:SV}(hb:v.jG n i=true)(h:fY G w ρ b v):fY G w rp b v:=by
 cases v with
 |v ag cs=>obtain⟨h1,arr,elem,h2,h3⟩:=h;exact⟨h1,arr,elem,h2,h3.um ha hb⟩
 |_=>exact h
theorem cM.um(ha:Ag n ρ rp){b:Nat}{v:SV}(hb:v.jG n i=true)(h:cM G w ρ b v):cM G w rp b v:=by
 cases v with
 |ob dp x=>obtain⟨t,h1,h2⟩:=h;exact⟨t,by rw[<-Lf.gE ha hb];exact h1,h2⟩
 |fz pv x=>
  simp only[SV.jG,bI]at hb
  obtain⟨t,h1,h2,h3⟩:=h
  refine⟨t,by rw[<-Lf.gE ha hb.2];exact h1,h2,?_⟩
  have lR:=hb.1
  cases pv with
  |z=>trivial
  |w tk x0 lo=>
   simp only[Pv.jG,bI]at lR
   obtain⟨g0,F,n,zs,g1,g2,g3⟩:=h3
   exact⟨g0,F,n,zs,by rw[<-Lf.gE ha lR.1.2];exact g1,by rw[<-F9 ha lR.2];exact g2,g3⟩
 |tk x m=>
  simp only[SV.jG,bI]at hb
  obtain⟨h0,F,u,h1,h2,h3⟩:=h
  exact⟨h0,F,u,by rw[<-Lf.gE ha hb.1];exact h1,by rw[<-Lf.gE ha hb.2];exact h2,h3⟩
 |fl x=>obtain⟨h0,t,h1,h2⟩:=h;exact⟨h0,t,by rw[<-Lf.gE ha hb];exact h1,h2⟩
 |fr x=>obtain⟨h0,t,h1,h2⟩:=h;exact⟨h0,t,by rw[<-Lf.gE ha hb];exact h1,h2⟩
 |_=>exact h
theorem I6:∀{cs:List Ce},rH n i cs=true->∀j∈dN cs,j<i
 | [],_,j,hj=>by simp[dN]at hj
 |c::cs,h,j,hj=>by
  simp only[rH,bI]at h
  cases c with
  |o id q=>
   simp only[Ce.jG,bI]at h
   simp only[dN,List.mem_cons]at hj
   rcases hj with rfl|hj
   ·exact y8 h.1.1
   ·exact I6 h.2 j hj
  |p x=>exact I6 h.2 j hj
  |n=>exact I6 h.2 j hj
  |d=>exact I6 h.2 j hj
theorem T8:∀{vs:List (Bool×List Ce)},zK n i vs=true->∀j∈tS vs,j<i
 | [],_,j,hj=>by simp[tS]at hj
 |v::vs,h,j,hj=>by
  simp only[zK,bI]at h
  simp only[tS,List.mem_append]at hj
  rcases hj with hj|hj
  ·exact I6 h.1 j hj
  ·exact T8 h.2 j hj
theorem SV.rq{v:SV}(h:v.jG n i=true):∀j∈dt v,j<i:=by
 intro j hj
 cases v with
 |un=>simp[dt]at hj
 |v ag cs=>exact I6 h j hj
 |pt b off=>simp[dt]at hj;subst hj;exact y8 h
 |ep id q ix wd off=>simp[dt]at hj;subst hj;simp only[SV.jG,bI]at h;exact y8 h.1.1
 |fp s ix wd off=>simp[dt]at hj
 |tp vs=>exact T8 h j hj
 |cl f bs=>simp only[SV.jG,List.all_eq_true]at h;exact y8 (h j (by simpa[dt]using hj))
 |ob dp x=>simp[dt]at hj
 |fz pv x=>
  cases pv with
  |z=>simp[dt]at hj
  |w tk x0 lo=>simp[dt]at hj;subst hj;simp only[SV.jG,Pv.jG,bI]at h;exact y8 h.1.1.1
 |tk x m=>simp[dt]at hj
 |fl x=>simp[dt]at hj
 |fr x=>simp[dt]at hj
end
theorem T9{i0 i1:Nat}{all:Ren}:∀{rn:Ren},vz i0 i1 all rn=true->∀j x,(j,x)∈rn->i0<=j∧j<i1∧∀id,x=some id->oR all id=some j
 | [],_,j,x,h=>by simp at h
 |(j0,x0)::rn,h,j,x,hm=>by
  simp only[vz,bI]at h
  obtain⟨⟨⟨⟨h1,h2⟩,_⟩,h3⟩,h4⟩:=h
  rcases List.mem_cons.1 hm with hm|hm
  ·cases hm
   refine⟨Nat.le_of_ble_eq_true h1,y8 h2,λid he=>?_⟩
   subst he
   simp only[bI]at h3
   have h3:=h3.2
   split at h3
   ·rename_i k hk;rw[hk,dU h3]
   ·cases h3
  ·exact T9 h4 j x hm
theorem T_{i0 i1:Nat}{all:Ren}:∀{rn:Ren},vz i0 i1 all rn=true->∀j x,(j,x)∈rn->j%2=0
 | [],_,j,x,h=>by simp at h
 |(j0,x0)::rn,h,j,x,hm=>by
  simp only[vz,bI]at h
  obtain⟨⟨⟨⟨h1,h2⟩,h0⟩,h3⟩,h4⟩:=h
  rcases List.mem_cons.1 hm with hm|hm
  ·cases hm;exact dU h0
  ·exact T_ h4 j x hm
theorem T'{i0 i1:Nat}{all:Ren}:∀{rn:Ren},vz i0 i1 all rn=true->∀j id,(j,some id)∈rn->id%4≠2
 | [],_,j,x,h=>by simp at h
 |(j0,x0)::rn,h,j,id,hm=>by
  simp only[vz,bI]at h
  obtain⟨⟨⟨⟨h1,h2⟩,h0⟩,h3⟩,h4⟩:=h
  rcases List.mem_cons.1 hm with hm|hm
  ·cases hm
   simp only[bI,Bool.not_eq_true']at h3
   intro e
   have:=h3.1
   rw[e]at this
   cases this
  ·exact T' h4 j id hm
theorem Ua{s:St}{a0 i0:Nat}{rn:Ren}:∀{h:St},Fi s a0 i0 rn h=true->∀r v,(r,v)∈h->v=.un∨(v=s.get r∧v.jG a0 i0=true∧(∀id,r=.o id->id<i0∧oR rn id=none)∧∀b,r=.x b->b<i0)
 | [],_,r,v,hm=>by simp at hm
 |(r0,v0)::h,hc,r,v,hm=>by
  simp only[Fi,bI]at hc
  rcases List.mem_cons.1 hm with hm|hm
  ·obtain⟨rfl,rfl⟩:=Prod.mk.inj hm
   have qE:=hc.1
   rw[Bool.or_eq_true]at qE
   rcases qE with hu|h4
   ·cases v<;>first|exact .inl rfl|cases hu
   ·simp only[bI]at h4
    obtain⟨⟨h1,h2⟩,h3⟩:=h4
    rcases SV.beq_eq h1 with hu|he
    ·exact .inl hu
    ·refine .inr ⟨he,h2,λid he=>?_,λb he=>?_⟩
     ·subst he
      simp only[RT,bI]at h3
      refine⟨y8 h3.1,?_⟩
      have h4:=h3.2
      split at h4
      ·rename_i hn;exact hn
      ·cases h4
     ·subst he;exact y8 h3
  ·exact Ua hc.2 r v hm
theorem Lg{a0:Nat}{xs:List Lf}{n:Nat}{x:Lf}(h:pI a0 xs n x=true){qL ρ:List T}(hl:qL.length=a0):(qL++xs.map (Lf.ev ρ))[n]?=some (x.ev ρ):=by
 simp only[pI,bI]at h
 have h1:=Nat.le_of_ble_eq_true h.1
 have h2:=h.2
 split at h2
 ·rename_i y hy
  rw[List.getElem?_append_right (by omega),hl,List.getElem?_map,hy,Lf.beq_eq h2]
  rfl
 ·cases h2
theorem Ub{s:St}{a0 i0:Nat}{xs:List Lf}{rn:Ren}:∀{h:St},xv s a0 i0 xs rn h=true->∀r v,(r,v)∈h->(∃j dp n,r=.o j∧v=.ob dp (.a n)∧
  ((∃id x,pk rn j=some (some id)∧s.get (.o id)=.ob dp x∧pI a0 xs n x=true)∨(pk rn j=some none∧pI a0 xs n .e=true)∨
   (∃x,pk rn j=none∧j<i0∧oR rn j=none∧s.get (.o j)=.ob dp x∧pI a0 xs n x=true)))∨
  ∃j x n m,r=.o j∧v=.tk x (.a n)∧j<i0∧oR rn j=none∧x.jG a0=true∧s.get (.o j)=.tk x m∧pI a0 xs n m=true
 | [],_,r,v,hm=>by simp at hm
 |(r0,v0)::h,hc,r,v,hm=>by
  have j3:xv s a0 i0 xs rn h=true:=by
   unfold xv at hc
   split at hc
   ·rename_i he;cases he
   ·rename_i j dp n ps he;cases he;simp only[bI]at hc;exact hc.2
   ·rename_i j x n ps he;cases he;rw[bI]at hc;exact hc.2
   ·cases hc
  rcases List.mem_cons.1 hm with hm|hm
  ·cases hm
   unfold xv at hc
   split at hc
   ·rename_i he;cases he
   ·rename_i j dp n ps he
    cases he
    simp only[bI]at hc
    refine .inl ⟨j,dp,n,rfl,rfl,?_⟩
    have h1:=hc.1
    split at h1
    ·rename_i id hid
     simp only[bI]at h1
     have h2:=h1.2
     split at h2
     ·rename_i wL x hx
      simp only[bI,beq_iff_eq]at h2
      exact .inl ⟨id,x,hid,by rw[h2.1];exact hx,h2.2⟩
     ·cases h2
    ·rename_i hid
     simp only[bI]at h1
     exact .inr (.inl ⟨hid,h1.2⟩)
    ·rename_i hid
     simp only[bI]at h1
     obtain⟨⟨h2,h3⟩,h4⟩:=h1
     have F_:oR rn j=none:=by
      split at h3
      ·rename_i hn;exact hn
      ·cases h3
     split at h4
     ·rename_i wL x hx
      simp only[bI,beq_iff_eq]at h4
      exact .inr (.inr ⟨x,hid,y8 h2,F_,by rw[h4.1];exact hx,h4.2⟩)
     ·cases h4
   ·rename_i j x n ps he
    cases he
    rw[bI]at hc
    have h1:=hc.1
    simp only[bI]at h1
    obtain⟨⟨⟨h2,h3⟩,h4⟩,h5⟩:=h1
    have F_:oR rn j=none:=by
     split at h3
     ·rename_i hn;exact hn
     ·cases h3
    split at h5
    ·rename_i y m hx
     simp only[bI]at h5
     exact .inr ⟨j,x,n,m,rfl,rfl,y8 h2,F_,h4,by rw[Lf.beq_eq h5.1];exact hx,h5.2⟩
    ·cases h5
   ·cases hc
  ·exact Ub j3 r v hm
theorem Uc{s:St}{a0 i0:Nat}{xs:List Lf}{rn:Ren}:∀{h:St},zL s a0 i0 xs rn h=true->∀r v,(r,v)∈h->∃ag hs cs,v=.v ag hs∧s.get r=.v ag cs∧rI s a0 i0 xs rn cs hs=true∧(∀j,r≠.o j)∧∀b,r=.x b->b<i0
 | [],_,r,v,hm=>by simp at hm
 |(r0,v0)::h,hc,r,v,hm=>by
  have j3:zL s a0 i0 xs rn h=true:=by
   unfold zL at hc
   split at hc
   ·rename_i he;cases he
   ·rename_i he;cases he;simp only[bI]at hc;exact hc.2
   ·cases hc
  rcases List.mem_cons.1 hm with hm|hm
  ·cases hm
   unfold zL at hc
   split at hc
   ·rename_i he;cases he
   ·rename_i r' ag hs ps he
    cases he
    simp only[bI]at hc
    obtain⟨⟨h1,h2⟩,_⟩:=hc
    split at h2
    ·rename_i yK cs lB
     simp only[bI,beq_iff_eq]at h2
     refine⟨ag,hs,cs,rfl,by rw[h2.1];exact lB,h2.2,(λj he=>by subst he;cases h1),λb he=>by subst he;exact y8 h1⟩
    ·cases h2
   ·cases hc
  ·exact Uc j3 r v hm
def Gh.gP(G:Gh)(i0:Nat)(rn:Ren):Gh where
 ω:=λb=>match G.ω b with
  |some .f=>some .f
  |some (.x j)=>if j<i0 then some (.x j)else none
  |some (.o j p)=>match oR rn j with
   |some k=>some (.o k p)
   |none=>if j<i0 then some (.o j p)else none
  |none=>none
 β:=G.β
 H:=λj=>match pk rn j with
  |some (some id)=>G.H id
  |some none=>λ_=>.slice none 0 0
  |none=>G.H j
 hs:=λj p=>by
  rcases hr:pk rn j with _|(_|id)
  ·exact G.hs j p
  ·exact⟨_,_,_,rfl⟩
  ·exact G.hs _ p
section
variable {M:Nat->Prop} {B:eT} {d:Nat} {up:Nat->Nat->Value} {ρ:List T} {G:Gh} {a:Act} {w:World} {s:St}
def Gh.tA(G:Gh)(id tk:Nat):Gh where
 ω:=λb=>match G.ω b with
  |some (.o i p)=>if i=id then(match p with| []=>none|x::p=>some (.o tk (x::p)))else some (.o i p)
  |l=>l
 β:=G.β
 H:=λi=>if i=tk then G.H id else G.H i
 hs:=λi p=>by
  by_cases h:i=tk
  ·simp only[h,if_true];exact G.hs id p
  ·simp only[h,if_false];exact G.hs i p
theorem adx{id tk:Nat}(ht:tk%4=2){I:Lb->Prop}(hI:∀p,I (.o id p)):dA I (λi=>i=tk) G w (G.tA id tk) w:=by
 refine⟨Nat.le_refl _,λb _ hb=>⟨vA hb (λh0=>by simp[Gh.tA,h0]) λl hl hq=>?_,rfl⟩,λb _ hb=>by simp[Gh.tA,hb],λb l hl hn=>⟨?_,rfl⟩,λi hi=>⟨rfl,λp _=>by simp[Gh.tA,hi]⟩⟩
 ·cases l with
  |o i p=>
   simp only[Gh.tA,hl]
   split
   ·cases p with
    |nil=>exact .inl rfl
    |cons x p=>exact .inr ⟨_,rfl,JU ht⟩
   ·exact .inr ⟨_,rfl,hq⟩
  |_=>simp[qt]at hq
 ·cases l with
  |o i p=>
   have:i≠id:=λe=>hn (e▸hI p)
   simp[Gh.tA,hl,this]
  |_=>simp[Gh.tA,hl]
theorem Rel.ady(h:Rel M B d up s ρ G a w){id tk:Nat}{x:Lf}(hx:s.get (.o id)=.ob true x)(ht:tk%4=2)(hM:¬M tk){M':Nat->Prop}(Bv:∀i,M i∨i=tk->M' i):
  ∃G',Rel M' B d up ((s.set (.o id) (.fz (.w tk x (.k (.int .i64 0))) x)).set (.o tk) (.tk x x)) ρ G' a w:=by
 have vR:M id:=h.key id (.inr (by rw[hx];simp))
 have dI:id≠tk:=λe=>hM (e▸vR)
 obtain⟨t,jS,bQ⟩:=(by simpa only[hx]using h.ob id:cM G w ρ id (.ob true x))
 obtain⟨xs,rfl⟩:∃ys,t=.l ys:=by cases bQ<;>exact⟨_,rfl⟩
 have nD:∀i j ys,dP xs i j=some (.l ys)->fg (G.tA id tk) w tk true [(i,j)] (.l ys):=by
  intro i j ys bN
  refine(bQ.rows i j ys bN).move rfl (λb q hb=>⟨?_,rfl⟩) λq=>?_
  ·simp only[List.cons_append,List.nil_append]at hb⊢
   simp[Gh.tA,hb]
  ·simp[Gh.tA]
 have jT:∀p,qC [(bD.o tk,SV.tk x x),(bD.o id,SV.fz (.w tk x (.k (.int .i64 0))) x)] (.o id p):=by
  intro p
  show St.look _ (bD.o id)≠none
  simp only[St.look]
  cases(bD.o tk).beq (.o id)<;>simp[(bD.beq_iff (r:=bD.o id)).2 rfl]
 have Lh:(G.tA id tk).H id []=G.H id []:=by simp[Gh.tA,dI]
 refine⟨G.tA id tk,(h.SP (M':=M') (N:=λi=>i=tk) (W:=[(.o tk,.tk x x),(.o id,.fz (.w tk x (.k (.int .i64 0))) x)]) (adx ht jT) (λi hi=>by subst hi;exact hM) (λi hi=>Bv i (.inl hi)) (λr u hl=>?_) λb l hb=>?_).congr λr=>?_⟩
 ·rcases j8 hl with⟨e1,e2⟩|hl
  ·subst e1 e2
   refine⟨tk,rfl,⟨ht,xs,xs,jS,jS,rfl,λi r hr _=>⟨hr,λj ys hy=>nD i j ys (by simp[dP,hr,hy])⟩⟩,Bv tk (.inr rfl),λi hi=>by simp[dt]at hi⟩
  ·rcases j8 hl with⟨e1,e2⟩|hl
   ·subst e1 e2
    refine⟨id,rfl,⟨.l xs,jS,?_,ht,xs,0,xs,jS,by simp[mY,Lf.fN,lr],rfl,λi r hr=>by rw[Nat.zero_add];exact hr,?_,λ_ b off k c hv=>?_⟩,Bv id (.inl vR),λi hi=>by simp[dt]at hi;subst hi;exact Bv _ (.inr rfl)⟩
    ·rw[Lh]
     cases bQ with
     |nil hH=>rw[hH];exact .nil
     | @l _ _ _ b wd cap arr elem cv g1 g2 g3 g4 g5 g6 g7 g8 g9 g10 g11=>
      rw[g1]
      refine .l (cv:=cv) g6 g2.1 (Cr (by simp[Gh.tA,g3])) (PX g4) (λi j t ht=>by rw[zP g4,Nat.zero_add];exact g7 i j t ht) λi j t j1=>?_
      cases t with
      |c v=>obtain⟨hv,hs⟩:=g8 i j v j1;rw[hv];exact .c hs
      |l ys=>
       have e:=g10 i j ys j1 rfl
       simp only[List.nil_append]at e
       rw[e]
       have:=(nD i j ys j1).R1 (.inl ht) rfl
       rwa[show(G.tA id tk).H tk=G.H id by simp[Gh.tA]]at this
    ·rw[Lh]
     intro b off k c hv
     cases bQ with
     |nil hH=>rw[hH]at hv;cases hv
     | @l _ _ _ b0 wd cap arr elem cv g1 g2 g3 g4 g5 g6 g7 g8 g9 g10 g11=>
      rw[g1]at hv
      cases hv
      refine⟨wd,g6,λi j ys bN=>?_⟩
      rw[zP g4,Nat.zero_add,g7 i j _ bN,g10 i j ys bN rfl]
      simp[Gh.tA]
    ·rw[Lh]at hv
     cases bQ with
     |nil hH=>rw[hH]at hv;cases hv
     |l g1=>rw[g1]at hv;cases hv;rfl
   ·cases hl
 ·cases hg:G.ω b with
  |none=>simp[Gh.tA,hg]at hb
  |some l0=>
   have vP:=h.iO b l0 hg
   refine⟨?_,vP.2⟩
   cases l0 with
   |o i p=>
    simp only[Gh.tA,hg]at hb
    split at hb
    ·cases p with
     |nil=>cases hb
     |cons x p=>cases hb;exact Bv tk (.inr rfl)
    ·cases hb;exact Bv _ (.inl vP.1)
   |_=>simp[Gh.tA,hg]at hb;subst hb;exact Bv _ (.inl vP.1)
 ·simp only[St.fw]
theorem Rel.iV:∀{js:List (Nat×Bool)} {cs:List Ce} {s:St} {ct:Ct} {G:Gh},Rel (λi=>i<ct.i) B d up s ρ G a w->
  (∃G',Rel (λi=>i<(Go.Proofs.YtjimmglpkndemaaGreatC.iV s ct cs js).2.i) B d up (Go.Proofs.YtjimmglpkndemaaGreatC.iV s ct cs js).1 ρ G' a w)∧(Go.Proofs.YtjimmglpkndemaaGreatC.iV s ct cs js).2.a=ct.a∧ct.i<=(Go.Proofs.YtjimmglpkndemaaGreatC.iV s ct cs js).2.i
 | [],cs,s,ct,G,h=>⟨⟨G,h⟩,rfl,Nat.le_refl _⟩
 |(j,b)::js,cs,s,ct,G,h=>by
  unfold Go.Proofs.YtjimmglpkndemaaGreatC.iV
  split
  ·rename_i id _
   split
   ·rename_i x hx
    cases he:Nat.beq (id%2) 0 with
    |false=>exact Rel.iV h
    |true=>
     simp only[cond_true]
     have hle:=RN ct.i
     obtain⟨G',h'⟩:=h.ady hx (RO ct.i) (by omega) (M':=λi=>i<oK ct.i+1) (λi hi=>by rcases hi with hi|hi<;>omega)
     obtain⟨g1,g2,g3⟩:=Rel.iV (js:=js) (cs:=cs) (ct:=⟨ct.a,oK ct.i+1⟩) h'
     exact⟨g1,g2,Nat.le_trans (by show ct.i<=oK ct.i+1;omega) g3⟩
   ·exact Rel.iV h
  ·exact Rel.iV h
theorem Rel.j6{d':Nat}:∀{js:Js} {s:St} {ct:Ct} {G:Gh},Rel (λi=>i<ct.i) B d up s ρ G a w->
  (∃G',Rel (λi=>i<(Go.Proofs.YtjimmglpkndemaaGreatC.j6 d' s ct js).2.i) B d up (Go.Proofs.YtjimmglpkndemaaGreatC.j6 d' s ct js).1 ρ G' a w)∧(Go.Proofs.YtjimmglpkndemaaGreatC.j6 d' s ct js).2.a=ct.a∧ct.i<=(Go.Proofs.YtjimmglpkndemaaGreatC.j6 d' s ct js).2.i
 | [],s,ct,G,h=>⟨⟨G,h⟩,rfl,Nat.le_refl _⟩
 |(n,bx,.rows rj)::l,s,ct,G,h=>by
  simp only[Go.Proofs.YtjimmglpkndemaaGreatC.j6]
  obtain⟨⟨G',h'⟩,g2,g3⟩:=h.iV (js:=rj) (cs:=qR (s.get (rG d' s n bx)))
  obtain⟨f1,f2,f3⟩:=Rel.j6 (d':=d') (js:=l) h'
  exact⟨f1,f2.trans g2,Nat.le_trans g3 f3⟩
 |(n,bx,.drop)::l,s,ct,G,h=>Rel.j6 (js:=l) h
 |(n,bx,.aI _ _)::l,s,ct,G,h=>Rel.j6 (js:=l) h
theorem Rel.Df:∀{l:List (Nat×Bool)} {s:St} {G:Gh},Rel M B d up s ρ G a w->∃G',Rel M B d up (vy s l) ρ G' a w∧iQ G G'
 | [],s,G,h=>⟨G,h,.refl _⟩
 |(id,all)::l,s,G,h=>by
  simp only[vy]
  split
  ·rename_i dp x hx
   cases all with
   |true=>obtain⟨G',h1,h2⟩:=Rel.Df (l:=l) (h.nl hx);exact⟨G',h1,(G.pM id true).trans h2⟩
   |false=>obtain⟨G',h1,h2⟩:=Rel.Df (l:=l) (h.flat hx);exact⟨G',h1,(G.pM id false).trans h2⟩
  ·exact Rel.Df (l:=l) h
theorem Rel.iN:∀{js:List (Nat×Bool)} {cs:List Ce} {s:St} {G:Gh},Rel M B d up s ρ G a w->∃G',Rel M B d up (Go.Proofs.YtjimmglpkndemaaGreatC.iN s cs js) ρ G' a w
 | [],cs,s,G,h=>⟨G,h⟩
 |(j,all)::js,cs,s,G,h=>by
  simp only[Go.Proofs.YtjimmglpkndemaaGreatC.iN]
  split
  ·split
   ·rename_i dp x hx
    cases all with
    |true=>exact Rel.iN (js:=js) (h.nl hx)
    |false=>exact Rel.iN (js:=js) (h.flat hx)
   ·exact Rel.iN (js:=js) h
  ·exact Rel.iN (js:=js) h
theorem Rel.jQ{d':Nat}:∀{js:Js} {s:St} {G:Gh},Rel M B d up s ρ G a w->∃G',Rel M B d up (Go.Proofs.YtjimmglpkndemaaGreatC.jQ d' s js) ρ G' a w
 | [],s,G,h=>⟨G,h⟩
 |(n,bx,.rows js)::l,s,G,h=>by
  simp only[Go.Proofs.YtjimmglpkndemaaGreatC.jQ]
  obtain⟨G',h'⟩:=h.iN (js:=js) (cs:=qR (s.get (rG d' s n bx)))
  exact Rel.jQ (js:=l) h'
 |(n,bx,.drop)::l,s,G,h=>Rel.jQ (js:=l) h
 |(n,bx,.aI _ _)::l,s,G,h=>Rel.jQ (js:=l) h
theorem Ud{a0 i0 i1:Nat}{xs:List Lf}{rn:Ren}(hi:∀j x,pk rn j=some x->j<i1)(Ue:i0<=i1):∀{cs hs:List Ce},rI s a0 i0 xs rn cs hs=true->∀j∈dN hs,j<i1
 | [],[],_,j,hj=>by simp[dN]at hj
 |c::cs,h::hs,hc,j,hj=>by
  simp only[rI,bI]at hc
  rw[zN]at hj
  rcases List.mem_append.1 hj with hj|hj
  ·have h1:=hc.1
   unfold JO at h1
   rw[Bool.or_eq_true]at h1
   rcases h1 with h1|h1
   ·simp only[bI]at h1
    exact Nat.lt_of_lt_of_le (I6 (n:=a0) (i:=i0) (by simp[rH,h1.2]) j hj) Ue
   ·split at h1
    ·simp[dN]at hj
    ·simp[dN]at hj
    ·simp[dN]at hj
    ·simp only[bI]at h1
     have h2:=h1.2
     split at h2
     ·rename_i ul;simp[dN]at hj;subst hj;exact hi _ _ ul
     ·cases h2
    ·simp only[bI]at h1
     have h2:=h1.2
     split at h2
     ·rename_i ul;simp[dN]at hj;subst hj;exact hi _ _ ul
     ·cases h2
    ·simp[dN]at hj
    ·cases h1
  ·exact Ud hi Ue hc.2 j hj
 | [],_::_,hc,_,_=>by simp[rI]at hc
 |_::_,[],hc,_,_=>by simp[rI]at hc
theorem Uf{G':Gh}{a0 i0:Nat}{xs:List Lf}{rn:Ren}{qL e:List T}(hr:Rel M B d up s (qL++e) G a w)(hl:qL.length=a0)(k:dA (λl=>True) (λj=>¬j<i0) G w G' w)
  (hH:∀j x,pk rn j=some x->G'.H j=match x with|some id=>G.H id|none=>λ_=>.slice none 0 0):
  ∀{cs hs:List Ce} {vs:List Value},rI s a0 i0 xs rn cs hs=true->bn G w (qL++e) cs vs->bn G' w (qL++xs.map (Lf.ev (qL++e))) hs vs
 | [],[],[],_,_=>trivial
 |c::cs,h::hs,v::vs,hc,pQ=>by
  simp only[rI,bI]at hc
  refine⟨?_,Uf hr hl k hH hc.2 pQ.2⟩
  have Ah:Ag a0 (qL++e) (qL++xs.map (Lf.ev (qL++e))):=λm hm=>by
   rw[List.getElem?_append_left (by omega),List.getElem?_append_left (by omega)]
  have h1:=hc.1
  have tv:=pQ.1
  clear hc pQ
  unfold JO at h1
  rw[Bool.or_eq_true]at h1
  rcases h1 with h1|h1
  ·simp only[bI]at h1
   have:=Ce.beq_eq h1.1
   subst this
   have hb:∀j∈dN [h],j<i0:=I6 (n:=a0) (by simp[rH,h1.2])
   exact(tv.um Ah h1.2).bp k λj hj hn=>hn (hb j hj)
  ·split at h1
   ·rename_i n x
    obtain⟨t,ht,hd⟩:=tv
    exact⟨t,by rw[<-Lf.bU ht];exact Lg h1 hl,hd.bp k.size k.free⟩
   ·rename_i n
    have hv:v=.slice none 0 0:=tv
    subst hv
    exact⟨.l [],Lg h1 hl,.nil⟩
   ·rename_i n id
    split at h1
    ·rename_i x hx
     have ej:=hr.ob id
     rw[hx]at ej
     obtain⟨t,ht,hd,_⟩:=ej
     obtain⟨p,hp,hv⟩:=tv
     simp only[nz,bF]at hp
     subst hp
     rw[hv]
     exact⟨t,by rw[<-Lf.bU ht];exact Lg h1 hl,hd.bp k.size k.free⟩
    ·cases h1
   ·rename_i j
    simp only[bI]at h1
    have h2:=h1.2
    split at h2
    ·rename_i ul
     have hv:v=.slice none 0 0:=tv
     subst hv
     exact⟨[],rfl,by rw[hH _ _ ul]⟩
    ·cases h2
   ·rename_i j id
    simp only[bI]at h1
    have h2:=h1.2
    split at h2
    ·rename_i Z2 ul
     have:=dU h2
     subst this
     obtain⟨p,hp,hv⟩:=tv
     simp only[nz,bF]at hp
     subst hp
     exact⟨[],rfl,by rw[hH _ _ ul];exact hv⟩
    ·cases h2
   ·exact tv.one
   ·cases h1
 | [],_::_,_,hc,_=>by simp[rI]at hc
 |_::_,[],_,hc,_=>by simp[rI]at hc
 | [],[],_::_,_,h=>h.elim
 |_::_,_::_,[],_,h=>h.elim
theorem Ug{h:Head}{xs:List Lf}{d':Nat}{qL e:List T}(hm:Go.Proofs.YtjimmglpkndemaaGreatC.gP d' h s=some xs)(hr:Rel M B d up s (qL++e) G a w)(hl:qL.length=h.c0.a)(jf:∀i b,B.bt i=some b->i<h.c0.i):
  (qL++xs.map (Lf.ev (qL++e))).length=h.ct.a∧∃G',Rel (λi=>i<h.ct.i) B d up h.st (qL++xs.map (Lf.ev (qL++e))) G' a w:=by
 unfold Go.Proofs.YtjimmglpkndemaaGreatC.gP at hm
 simp only[cN]at hm
 obtain⟨⟨xs',rn⟩,_,hm⟩:=hm
 obtain⟨G1,hr,_⟩:=hr.Df (l:=xu d' h.s0 s h.js)
 generalize vy s (xu d' h.s0 s h.js)=s1 at hm hr
 cases hc:JP h s1 xs' rn with
 |false=>simp[hc]at hm
 |true=>
  simp only[hc,cond_true,bF]at hm
  subst hm
  unfold JP at hc
  simp only[bI]at hc
  obtain⟨⟨⟨⟨⟨⟨c1,c2⟩,c3⟩,c4⟩,c5⟩,c6⟩,c7⟩:=hc
  have hlen:=dU c1
  have I7:=Nat.le_of_ble_eq_true c3
  have adz:=y8 c2
  have Dg:=T9 c4
  refine⟨by rw[List.length_append,List.length_map,hl,hlen],G1.gP h.c0.i rn,?_⟩
  have Ah:Ag h.c0.a (qL++e) (qL++xs'.map (Lf.ev (qL++e))):=λm hm=>by
   rw[List.getElem?_append_left (by omega),List.getElem?_append_left (by omega)]
  have xR:∀b,G1.ω b=none->(G1.gP h.c0.i rn).ω b=none:=λb hb=>by simp[Gh.gP,hb]
  have dB:∀b,G1.q b=none->(G1.gP h.c0.i rn).q b=none:=λb hb=>by
   refine vA hb (xR b) λl hl hq=>?_
   cases l with
   |o j p=>
    simp only[Gh.gP,hl]
    cases ul:oR rn j with
    |some k=>
     refine .inr ⟨.o k p,rfl,xE (T_ c4 _ _ (Ad ul)) λe=>?_⟩
     subst e
     rw[tR (T' c4 _ _ (Ad ul))]at hq
     cases hq
    |none=>
     by_cases hj:j<h.c0.i
     ·exact .inr ⟨.o j p,by simp[hj],hq⟩
     ·exact .inl (by simp[hj])
   |_=>simp[qt]at hq
  have oU:∀j,j<h.c0.i->(G1.gP h.c0.i rn).H j=G1.H j:=by
   intro j hj
   have:pk rn j=none:=by
    cases ul:pk rn j with
    |none=>rfl
    |some x=>have:=(Dg j x (P_ ul)).1;omega
   simp[Gh.gP,this]
  have hHr:∀j x,pk rn j=some x->(G1.gP h.c0.i rn).H j=match x with|some id=>G1.H id|none=>λ_=>.slice none 0 0:=by
   intro j x hj
   show(match pk rn j with|some (some id)=>G1.H id|some none=>_|none=>G1.H j)=_
   rw[hj]
   cases x<;>rfl
  have kI:dA (λl=>match l with| .f=>False| .x j=>¬j<h.c0.i| .o j _=>oR rn j≠none∨¬j<h.c0.i) (λj=>¬j<h.c0.i) G1 w (G1.gP h.c0.i rn) w:=by
   refine⟨Nat.le_refl _,λb _ hb=>⟨dB b hb,rfl⟩,λb _ hb=>xR b hb,λb l hb hl=>⟨?_,rfl⟩,λj hj=>⟨rfl,λp _=>by rw[oU j (Decidable.not_not.1 hj)]⟩⟩
   cases l with
   |f=>simp[Gh.gP,hb]
   |x j=>simp only[Gh.gP,hb];rw[if_pos (Decidable.not_not.1 hl)]
   |o j p=>
    have h1:oR rn j=none:=by
     cases ul:oR rn j with
     |none=>rfl
     |some k=>exact absurd (.inl (by rw[ul];simp)) hl
    have h2:j<h.c0.i:=Decidable.not_not.1 λhn=>hl (.inr hn)
    simp only[Gh.gP,hb,h1];rw[if_pos h2]
  have kT:=kI.mono (I':=λ_=>True) (λ_ _=>trivial) λ_ hn=>hn
  have bQ:∀r v,(r,v)∈h.own->∃j,r=.o j∧j<h.ct.i∧cM (G1.gP h.c0.i rn) w (qL++xs'.map (Lf.ev (qL++e))) j v∧dt v=[]:=by
   intro r v hm
   rcases Ub c6 r v hm with⟨j,dp,n,rfl,rfl,o3⟩|⟨j,x,n,m,rfl,rfl,h1,h2,h3,h4,h5⟩
   case inr=>
    refine⟨j,rfl,by omega,?_,rfl⟩
    have ej:=hr.ob j
    rw[h4]at ej
    obtain⟨g0,F,u,g1,g2,g3,g4⟩:=ej
    refine⟨g0,F,u,by rw[<-Lf.gE Ah h3];exact g1,by rw[<-Lf.bU g2];exact Lg h5 hl,g3,λi r hi dI=>⟨(g4 i r hi dI).1,λc ys hy=>((g4 i r hi dI).2 c ys hy).bp kI (λp hp=>?_) λhn=>hn h1⟩⟩
    rcases hp with hp|hp
    ·exact hp h2
    ·exact hp h1
   rcases o3 with⟨id,x,h1,h2,h3⟩|⟨h1,h3⟩|⟨x,h1,h2,h3,h4,h5⟩
   ·obtain⟨q1,q2,q3⟩:=Dg j (some id) (P_ h1)
    refine⟨j,rfl,q2,?_,rfl⟩
    have ej:=hr.ob id
    rw[h2]at ej
    obtain⟨t,ht,ho⟩:=ej
    refine⟨t,by rw[<-Lf.bU ht];exact Lg h3 hl,?_⟩
    have nK:=q3 id rfl
    have iA:∀c p,G1.ω c=some (.o id p)->(G1.gP h.c0.i rn).ω c=some (.o j p):=λc p qY=>by simp[Gh.gP,qY,nK]
    have hHj:=hHr j _ h1
    cases dp with
    |true=>exact ho.move rfl (λc p qY=>⟨iA c p qY,rfl⟩) λp=>by rw[hHj]
    |false=>exact ho.rU (λc qY=>iA c [] qY) (by rw[hHj]) dB
   ·obtain⟨q1,q2,_⟩:=Dg j none (P_ h1)
    exact⟨j,rfl,q2,⟨.l [],Lg h3 hl,.nil (by rw[hHr j _ h1])⟩,rfl⟩
   ·refine⟨j,rfl,by omega,?_,rfl⟩
    have ej:=hr.ob j
    rw[h4]at ej
    obtain⟨t,ht,ho⟩:=ej
    refine⟨t,by rw[<-Lf.bU ht];exact Lg h5 hl,ho.bp kI (λp hp=>?_) λhn=>hn h2⟩
    rcases hp with hp|hp
    ·exact hp h3
    ·exact hp h2
  have jd:∀r v,(r,v)∈h.new->∃ag hs cs,v=.v ag hs∧s1.get r=.v ag cs∧(∀vs,bn G1 w (qL++e) cs vs->bn (G1.gP h.c0.i rn) w (qL++xs'.map (Lf.ev (qL++e))) hs vs)∧(∀j∈dt v,j<h.ct.i)∧(∀j,r≠.o j)∧∀b,r=.x b->b<h.c0.i:=by
   intro r v hm
   obtain⟨ag,hs,cs,rfl,h1,h2,h3,h4⟩:=Uc c7 r v hm
   exact⟨ag,hs,cs,rfl,h1,λvs hv=>Uf hr hl kT hHr h2 hv,λj hj=>Ud (i1:=h.ct.i) (λj x hj=>(Dg j x (P_ hj)).2.1) I7 h2 j hj,h3,h4⟩
  have cC:∀r,h.st.get r=.un∨(r,h.st.get r)∈h.kept∨(r,h.st.get r)∈h.own∨(r,h.st.get r)∈h.new:=by
   intro r
   rw[St.vC]
   cases CO:h.st.look r with
   |none=>exact .inl rfl
   |some v=>
    have:=FV CO
    simp only[Head.st,List.mem_append]at this
    exact .inr (by simpa[or_assoc]using this)
  have vX:=Ua c5
  refine⟨λx n hx=>?_,λb=>?_,λi=>?_,λr i hi=>?_,λi hi=>?_,λb l hb=>?_,hr.dn,?_,λi b hb=>⟨Nat.lt_of_lt_of_le (jf i b hb) I7,(hr.bt i b hb).2⟩⟩
  ·rcases cC (.t x n)with hu|hm|hm|hm
   ·rw[hu];trivial
   ·rcases vX _ _ hm with hu|⟨he,hb,_,_⟩
    ·rw[hu];trivial
    ·rw[he]
     rw[he]at hb
     exact((hr.tm x n hx).um Ah hb).bp kT λj hj hn=>hn (SV.rq hb j hj)
   ·obtain⟨j,e1,_⟩:=bQ _ _ hm;cases e1
   ·obtain⟨ag,hs,cs,e1,e2,e3,_⟩:=jd _ _ hm
    rw[e1]
    have:=hr.tm x n hx
    rw[e2]at this
    cases ag with
    |true=>obtain⟨vs,g1,g2⟩:=this;exact⟨vs,g1,e3 vs g2⟩
    |false=>
     obtain⟨c,rfl,g2,g3⟩:=this
     have:=e3 [qB up d a x n] ⟨g2,trivial⟩
     match hs,this with
     | [c'],this=>exact⟨c',rfl,this.1,g3⟩
  ·rcases cC (.x b)with hu|hm|hm|hm
   ·rw[hu];trivial
   ·rcases vX _ _ hm with hu|⟨he,hb,_,hxb⟩
    ·rw[hu];trivial
    ·rw[he]
     rw[he]at hb
     have bE:=hxb b rfl
     exact((hr.bx b).um Ah hb).bp kI (λhf=>hf bE) (λhn=>hn bE) λj hj hn=>hn (SV.rq hb j hj)
   ·obtain⟨j,e1,_⟩:=bQ _ _ hm;cases e1
   ·obtain⟨ag,hs,cs,e1,e2,e3,_,_,e4⟩:=jd _ _ hm
    rw[e1]
    have:=hr.bx b
    rw[e2]at this
    obtain⟨g1,arr,elem,g2,g3⟩:=this
    refine⟨?_,arr,elem,g2,e3 _ g3⟩
    show(G1.gP h.c0.i rn).ω (G1.β b)=_
    simp only[Gh.gP,g1]
    rw[if_pos (e4 b rfl)]
  ·rcases cC (.o i)with hu|hm|hm|hm
   ·rw[hu];trivial
   ·rcases vX _ _ hm with hu|⟨he,hb,hoi,_⟩
    ·rw[hu];trivial
    ·rw[he]
     rw[he]at hb
     obtain⟨q1,q2⟩:=hoi i rfl
     refine((hr.ob i).um Ah hb).bp kI (λp hp=>?_) (λhn=>hn q1) λj hj hn=>hn (SV.rq hb j hj)
     rcases hp with hp|hp
     ·exact hp q2
     ·exact hp q1
   ·obtain⟨j,e1,_,e2,_⟩:=bQ _ _ hm;cases e1;exact e2
   ·obtain⟨ag,hs,cs,e1,e2,e3,_,e4,_⟩:=jd _ _ hm;exact absurd rfl (e4 i)
  ·rcases cC r with hu|hm|hm|hm
   ·rw[hu]at hi;simp[dt]at hi
   ·rcases vX _ _ hm with hu|⟨he,hb,_,_⟩
    ·rw[hu]at hi;simp[dt]at hi
    ·exact Nat.lt_of_lt_of_le (SV.rq hb i hi) I7
   ·obtain⟨j,_,_,_,e2⟩:=bQ _ _ hm;rw[e2]at hi;cases hi
   ·obtain⟨ag,hs,cs,e1,e2,e3,e4,_⟩:=jd _ _ hm;exact e4 i hi
  ·have key:∀r:bD,(r=.x i∨r=.o i)->h.st.get r≠.un->i<h.ct.i:=by
    intro r Uh dI
    rcases cC r with hu|hm|hm|hm
    ·exact absurd hu dI
    ·rcases vX _ _ hm with hu|⟨he,hb,g1,g2⟩
     ·exact absurd hu dI
     ·rcases Uh with rfl|rfl
      ·exact Nat.lt_of_lt_of_le (g2 i rfl) I7
      ·exact Nat.lt_of_lt_of_le (g1 i rfl).1 I7
    ·obtain⟨j,e1,e2,_⟩:=bQ _ _ hm
     rcases Uh with rfl|rfl
     ·cases e1
     ·cases e1;exact e2
    ·obtain⟨ag,hs,cs,e1,e2,e3,_,e4,e5⟩:=jd _ _ hm
     rcases Uh with rfl|rfl
     ·exact Nat.lt_of_lt_of_le (e5 i rfl) I7
     ·exact absurd rfl (e4 i)
   rcases hi with hi|hi
   ·exact key _ (.inl rfl) hi
   ·exact key _ (.inr rfl) hi
  ·cases pO:G1.ω b with
   |none=>simp[Gh.gP,pO]at hb
   |some l'=>
    have bE:=(hr.iO b l' pO).2
    refine⟨?_,bE⟩
    cases l' with
    |f=>simp[Gh.gP,pO]at hb;subst hb;exact adz
    |x j=>
     simp only[Gh.gP,pO]at hb
     split at hb
     ·rename_i hj;cases hb;exact Nat.lt_of_lt_of_le hj I7
     ·cases hb
    |o j p=>
     simp only[Gh.gP,pO]at hb
     split at hb
     ·rename_i k hk
      cases hb
      exact(Dg k _ (Ad hk)).2.1
     ·split at hb
      ·rename_i hj;cases hb;exact Nat.lt_of_lt_of_le hj I7
      ·cases hb
  ·obtain⟨b1,b2,b3,b4,b5,b6,b7⟩:=hr.base
   refine⟨b1,b2,b3,b4,λb hb h0=>⟨xR b (b5 b hb h0).1,(b5 b hb h0).2⟩,λb hb=>⟨by simp[Gh.gP,(b6 b hb).1],(b6 b hb).2⟩,b7⟩
end
def Ga:Ex->Exit
 | .normal=>.normal
 | .exit id=>.exit id
 | .ret=>.ret
section
variable {B:eT} {f:Fr} {S:Nat->aB} {P:Program} {cx:Cx} {dL:qQ} {cV ft:Nat} {R:Nat} {out:List T}
theorem Bw.ext{Z Z':Zb}{k:KP}{Ψ:Act->World->Prop}(h:Bw S R out B f Z k Ψ)(hK:∃pre,Z'.K=pre++Z.K)(oN:∃e,Z'.ρ=Z.ρ++e):Bw S R out B f Z' k Ψ:=by
 rintro lv s ct fs p a w hk ⟨K,ρ,G,h1,h2,⟨pre,h3⟩,⟨e,h4⟩,h5⟩
 obtain⟨adB,h6⟩:=hK
 obtain⟨e',h7⟩:=oN
 exact h lv s ct fs p a w hk ⟨K,ρ,G,h1,h2,⟨pre++adB,by rw[h3,h6,List.append_assoc]⟩,⟨e'++e,by rw[h4,h7,List.append_assoc]⟩,h5⟩
theorem Ui{K:List aB}{ρ:List T}{J:aB}{h:Head}{lv tag:Nat}{Ψ:Act->World->Prop}(hlv:K.length=lv)(hl:ρ.length=h.c0.a)(jf:∀i b,B.bt i=some b->i<h.c0.i)
  (hJ:∀ts a w G,J ts=some out->(ρ++ts).length=h.ct.a->Rel (λi=>i<h.ct.i) B f.d f.up h.st (ρ++ts) G a w->a.tmps.size=f.nt->Ψ a w):Bw S R out B f ⟨J::K,ρ⟩ (RU f.d h lv tag) Ψ:=by
 rintro ZT s' iJ jR p a w hk ⟨K2,Gb,G,h1,h2,⟨pre,h3⟩,⟨e,h4⟩,h5,h6,h7,h8,_⟩
 unfold RU at hk
 split at hk
 ·rename_i xs hm
  cases hk
  simp only at h3 h4
  subst h4
  obtain⟨g1,G',g2⟩:=Ug hm h7 hl jf
  simp only[PL.den]at h1
  have adC:K2[ZT-lv-1]?=some J:=by
   rw[h3]
   have:K2.length=pre.length+(K.length+1):=by rw[h3];simp
   rw[List.getElem?_append_right (by omega),show ZT-lv-1-pre.length=0 by omega]
   rfl
  rw[adC]at h1
  exact hJ _ a w G' h1 g1 g2 h8
 ·cases hk;cases h1
theorem Li{Z:Zb}{K0:KP}{h:Head}{lv:Nat}{fs:kj}{k b:PL}{a:Act}{w:World}{s:St}{ct:Ct}{js:Js}{Ψ:Act->World->Prop}(hh:h=Et f.d s ct js)(hk:K0 lv h.st h.ct fs=some k)(hS:Bw S R out B f Z K0 Ψ)
  (bN:At S R out B f Z XT (.join k b) lv s ct fs a w):∃Z',(∃pre,Z'.K=pre++Z.K)∧(∃e,Z'.ρ=Z.ρ++e)∧At S R out B f Z' XT b (lv+1) s ct fs a w∧∀tag,Bw S R out B f Z' (RU f.d h lv tag) Ψ:=by
 obtain⟨K,ρ,G,h1,h2,⟨pre,h3⟩,⟨e,h4⟩,h5,h6,h7,h8,_⟩:=bN
 simp only[PL.den]at h1
 have IL:h.c0=ct:=by rw[hh];rfl
 refine⟨⟨(λts=>k.den S R K (ρ++ts))::K,ρ⟩,⟨_::pre,by simp[h3];rfl⟩,⟨e,h4⟩,⟨_,ρ,G,h1,by simp[h2],⟨[],rfl⟩,⟨[],by simp⟩,h5,h6,h7,h8,trivial⟩,λtag=>?_⟩
 refine Ui h2 (by rw[IL];exact h5) (λi b hb=>by rw[IL];exact(h7.bt i b hb).1) λts a w G' hd hl hr hs=>?_
 exact hS lv h.st h.ct fs k a w hk ⟨K,ρ++ts,G',hd,h2,⟨pre,h3⟩,⟨e++ts,by rw[h4,List.append_assoc]⟩,hl,h6.ext,hr,hs,trivial⟩
theorem At.at{Z:Zb}{X:Gh->World->List T->Prop}{p:PL}{lv:Nat}{s:St}{ct:Ct}{fs:kj}{a:Act}{w:World}(h:At S R out B f Z X p lv s ct fs a w):True:=trivial
theorem Uj{Z:Zb}{c:Operand}{x y:Code}{tag lv:Nat}{s:St}{ct:Ct}{fs:kj}{p:PL}{a:Act}{w:World}{Q:Exit->Act->World->Prop}{cx' cy':kj->Option PL}
  (h:Fk tag (cz f.d s.get c) cx' cy' s fs=some p)(bN:At S R out B f Z XT p lv s ct fs a w)(hx:∀fs p,cx' fs=some p->At S R out B f Z XT p lv s ct fs a w->x.wp P Q a w)
  (hy:∀fs p,cy' fs=some p->At S R out B f Z XT p lv s ct fs a w->y.wp P Q a w):(Code.cond c x y).wp P Q a w:=by
 obtain⟨K,ρ,G,h1,h2,h3,h4,h5,h6,h7,h8,_⟩:=bN
 have pQ:=(Ev h7 c).1
 unfold Fk at h
 split at h
 ·rename_i b hd
  have hc:=F1 hd pQ h6
  refine wp_cond hc ?_
  cases b with
  |true=>exact hx fs p h ⟨K,ρ,G,h1,h2,h3,h4,h5,h6,h7,h8,trivial⟩
  |false=>exact hy fs p h ⟨K,ρ,G,h1,h2,h3,h4,h5,h6,h7,h8,trivial⟩
 ·rename_i n hd
  simp only[cN,bF]at h
  obtain⟨px,hpx,py,hpy,rfl⟩:=h
  obtain⟨b,hb,hp⟩:=K1 h1
  have hc:=F1 (F3 (b:=b) hd) pQ (h6.cons hb)
  refine wp_cond hc ?_
  cases b with
  |true=>exact hx _ px hpx ⟨K,ρ,G,hp,h2,h3,h4,h5,h6.cons hb,h7,h8,trivial⟩
  |false=>exact hy _ py hpy ⟨K,ρ,G,hp,h2,h3,h4,h5,h6.cons hb,h7,h8,trivial⟩
 ·cases h;cases h1
 ·cases h;cases h1
theorem Uk(E:Env P cx S)(hI:F5 P S R out B dL)(yY:P.follows .mixedOrders=true):∀(c:Code) (xw lv:Nat) (s:St) (ct:Ct) (fs:kj) (KE:KE) (p:PL) (a:Act) (w:World) (Z:Zb) (Q:Exit->Act->World->Prop),
  yL f.nt c=true->comp cx dL cV f.d c xw lv s ct fs KE=some p->At S R out B f Z XT p lv s ct fs a w->(∀e,Bw S R out B f Z (KE e) (Q (Ga e)))->c.wp P Q a w:=by
 intro c
 induction c with
 |skip=>intro xw lv s ct fs KE p a w Z Q _ h bN hK;exact wp_skip (hK .normal lv s ct fs p a w h bN)
 |label l=>intro xw lv s ct fs KE p a w Z Q _ h bN hK;exact wp_label (hK .normal lv s ct fs p a w h bN)
 |seq x y ihx ihy=>
  intro xw lv s ct fs KE p a w Z Q hd h bN hK
  simp only[yL,bI]at hd
  refine wp_seq (ihx 0 lv s ct fs _ p a w Z _ hd.1 h bN λe=>?_)
  cases e with
  |normal=>exactλlv s ct fs p a w hk bN=>ihy 0 lv s ct fs KE p a w Z Q hd.2 hk bN hK
  |exit id=>exact hK (.exit id)
  |ret=>exact hK .ret
 |region id ops draw=>
  intro xw lv s ct fs KE p a w Z Q hd h bN hK
  have hn:∀o∈ops.toList,∀n,o.dst=some n->n<f.nt:=by
   intro o ho n hn
   have:=List.all_eq_true.1 hd o ho
   rw[hn]at this
   exact y8 this
  have adD:∀p,At S R out B f Z XT p lv s ct fs a w->At S R out B f Z XT p lv (JQ cx cV f.d id s) ct fs a w:=by
   rintro p ⟨K,ρ,G,h1,h2,h3,h4,h5,h6,h7,h8,_⟩
   unfold JQ
   cases cx.tN cV 4 id with
   |none=>exact⟨K,ρ,G,h1,h2,h3,h4,h5,h6,h7,h8,trivial⟩
   |some js=>
    obtain⟨G',h7'⟩:=h7.jQ (js:=js) (d':=f.d)
    exact⟨K,ρ,G',h1,h2,h3,h4,h5,h6,h7',h8,trivial⟩
  have Ul:∀(s0:St) p,At S R out B f Z XT p lv s0 ct fs a w->At S R out B f Z XT p lv (Fl cx cV f.d id s0 ct).1 (Fl cx cV f.d id s0 ct).2 fs a w:=by
   rintro s0 p ⟨K,ρ,G,h1,h2,h3,h4,h5,h6,h7,h8,_⟩
   unfold Fl
   cases cx.tN cV 5 id with
   |none=>exact⟨K,ρ,G,h1,h2,h3,h4,h5,h6,h7,h8,trivial⟩
   |some js=>
    obtain⟨⟨G',h7'⟩,g2,_⟩:=h7.j6 (js:=js) (d':=f.d)
    exact⟨K,ρ,G',h1,h2,h3,h4,h5.trans g2.symm,h6,h7',h8,trivial⟩
  have ma:=Ul _ p (adD p bN)
  simp only[comp]at h
  split at h
  ·exact T3 E hI yY hn (hK .normal) h ma
  ·rename_i js hj
   simp only[cN,bF]at h
   obtain⟨k,hk,b,hb,rfl⟩:=h
   obtain⟨Z',z1,z2,xP,hS⟩:=Li rfl hk (hK .normal) ma
   exact T3 E hI yY hn (hS _) hb xP
 |cond c x y ihx ihy=>
  intro xw lv s ct fs KE p a w Z Q hd h bN hK
  simp only[yL,bI]at hd
  simp only[comp]at h
  split at h
  ·exact Uj h bN (λfs p hp bN=>ihx 0 lv s ct fs KE p a w Z Q hd.1 hp bN hK) (λfs p hp bN=>ihy 0 lv s ct fs KE p a w Z Q hd.2 hp bN hK)
  ·rename_i js hj
   simp only[cN,bF]at h
   obtain⟨k,hk,b,hb,rfl⟩:=h
   obtain⟨Z',z1,z2,xP,hS⟩:=Li rfl hk (hK .normal) bN
   have hKE:∀tag e,Bw S R out B f Z' (Cp f.d (Et f.d s ct js) lv tag KE e) (Q (Ga e)):=by
    intro tag e
    cases e with
    |normal=>exact hS tag
    |exit id=>exact(hK (.exit id)).ext z1 z2
    |ret=>exact(hK .ret).ext z1 z2
   exact Uj hb xP (λfs p hp bN=>ihx 0 (lv+1) s ct fs _ p a w Z' Q hd.1 hp bN (hKE _)) (λfs p hp bN=>ihy 0 (lv+1) s ct fs _ p a w Z' Q hd.2 hp bN (hKE _))
 |block id body ih=>
  intro xw lv s ct fs KE p a w Z Q hd h bN hK
  have y9:∀(Z:Zb) (KE':Go.Proofs.YtjimmglpkndemaaGreatC.KE),(∀e,Bw S R out B f Z (KE' e) (Q (Ga e)))->∀e,Bw S R out B f Z (Fj id KE' e) (Exit.inBlock id Q (Ga e)):=by
   intro Z KE' hK e
   cases e with
   |normal=>exact hK .normal
   |ret=>exact hK .ret
   |exit i=>
    intro lv s ct fs p a w hk bN
    simp only[Fj]at hk
    show(if i=id then Q .normal a w else Q (.exit i) a w)
    cases hb:Nat.beq i id with
    |true=>
     rw[hb]at hk
     rw[if_pos (dU hb)]
     exact hK .normal lv s ct fs p a w hk bN
    |false=>
     rw[hb]at hk
     rw[if_neg (λe=>by subst e;simp at hb)]
     exact hK (.exit i) lv s ct fs p a w hk bN
  simp only[comp]at h
  split at h
  ·exact wp_block (ih id lv s ct fs _ p a w Z _ hd h bN (y9 Z KE hK))
  ·rename_i js hj
   simp only[cN,bF]at h
   obtain⟨k,hk,b,hb,rfl⟩:=h
   obtain⟨Z',z1,z2,xP,hS⟩:=Li rfl hk (hK .normal) bN
   refine wp_block (ih id (lv+1) s ct fs _ b a w Z' _ hd hb xP (y9 Z' _ λe=>?_))
   cases e with
   |normal=>exact hS _
   |exit id=>exact(hK (.exit id)).ext z1 z2
   |ret=>exact(hK .ret).ext z1 z2
 |loop body ih=>
  intro xw lv s ct fs KE p a w Z Q hd h bN hK
  simp only[comp]at h
  split at h
  ·cases h;obtain⟨K,ρ,G,h1,_⟩:=bN;cases h1
  ·rename_i js hj
   split at h
   ·cases h;obtain⟨K,ρ,G,h1,_⟩:=bN;cases h1
   ·rename_i xs hm
    simp only[cN,bF]at h
    obtain⟨b,hb,rfl⟩:=h
    obtain⟨K,ρ,G,h1,h2,⟨pre,h3⟩,⟨e,h4⟩,h5,h6,h7,h8,_⟩:=bN
    have jf:∀i b,B.bt i=some b->i<(Et f.d s ct js).c0.i:=λi b hb=>(h7.bt i b hb).1
    have key:∀(n:Nat) (ts:List T) (a:Act) (w:World) (G:Gh),iter (λself ts=>b.den S R (self::K) (ρ++ts)) n ts=some out->(ρ++ts).length=(Et f.d s ct js).ct.a->
      Rel (λi=>i<(Et f.d s ct js).ct.i) B f.d f.up (Et f.d s ct js).st (ρ++ts) G a w->a.tmps.size=f.nt->Code.rounds P body Q n a w:=by
     intro n
     induction n with
     |zero=>intro ts a w G hi;cases hi
     |succ n ihn=>
      intro ts a w G hi hl hr hs
      rw[rounds_succ]
      refine ih 0 (lv+1) _ _ fs _ b a w ⟨iter (λself ts=>b.den S R (self::K) (ρ++ts)) n::K,ρ⟩ _ hd hb ⟨_,ρ++ts,G,hi,by simp[h2],⟨[],rfl⟩,⟨ts,rfl⟩,hl,h6.ext,hr,hs,trivial⟩ λe'=>?_
      cases e' with
      |normal=>exact Ui h2 h5 jf λts a w G hJ hl hr hs=>ihn ts a w G hJ hl hr hs
      |exit id=>exact(hK (.exit id)).ext ⟨_::pre,by simp[h3];rfl⟩ ⟨e,h4⟩
      |ret=>exact(hK .ret).ext ⟨_::pre,by simp[h3];rfl⟩ ⟨e,h4⟩
    simp only[PL.den]at h1
    obtain⟨g1,G',g2⟩:=Ug (e:=[]) hm (by rw[List.append_nil];exact h7) h5 jf
    rw[List.append_nil]at g1 g2
    exact wp_loop_rounds R (key R _ a w G' h1 g1 g2 h8)
 |exit id=>intro xw lv s ct fs KE p a w Z Q _ h bN hK;exact wp_exit (hK (.exit id) lv s ct fs p a w h bN)
 |ret=>intro xw lv s ct fs KE p a w Z Q _ h bN hK;exact wp_ret (hK .ret lv s ct fs p a w h bN)
 |_=>intros;rename_i h bN _;simp only[comp,bF]at h;subst h;obtain⟨K,ρ,G,h1,_⟩:=bN;cases h1
end
end Go.Proofs.YtjimmglpkndemaaGreatC

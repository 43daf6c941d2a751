/- The walk by reflection: a part of its laws, for any function. Conditions: none. -/
import Derived.Test.YtjimmglpkndemaaGreatKb
namespace Go.Proofs.YtjimmglpkndemaaGreatC
set_option linter.unusedVariables false
section
variable {M:Nat->Prop} {B:eI} {d:Nat} {up:Nat->Nat->Value} {ρ:List T} {G:Gh} {a:Act} {w:World} {S:Nat->af} {P:Program}
variable {cx:Cx} {cC eW oi:Nat} {s:St} {R:List bn} {ct:Ct} {k':Wk} {o:Oper} {Q:Exit->Act->World->Prop}
theorem RA{k kw:Wk}{G1 G2:Gh}{j:Nat}{W1:St}{V:SV}{val:Value}(h:Rel M B d up s ρ G a w)(hk:dh M B d up ρ G a w k G1)(hn:∀n,o.dst=some n->n<a.tmps.size)(hM:¬M j)
  (K:di (oA W1) (λi=>i=j) G1 w G2 w)(Q2:∀r,kw.w.look r=(W1.look r).or (k.w.look r))
  (wM:∀r u,W1.look r=some u->∃i,r=.o i∧cE G2 w ρ i u∧(M i∨i=j)∧∀x∈de u,M x∨x=j)
  (hV:cD G2 w ρ V val)(gS:∀i∈de V,M i∨i=j)(mi:∀b l,G2.ω b=some l->(M l.id∨l.id=j)∧b<w.heap.size)
  (hx:(execOp a.eval o).run P w=.ok (.value val) w):bJ P (Mn M j (j+1)) B d up ρ a w s o (bX d o kw V).w Q:=by
 have mn:∀{i:Nat},(M i∨i=j)->Mn M j (j+1) i:=λh=>h.imp_right λe=>by subst e;exact⟨Nat.le_refl _,Nat.lt_succ_self _⟩
 have K2:di (oA (fi d o V++W1)) (λi=>i=j) G1 w G2 w:=K.mono (λl hl=>by
  cases l with
  |f=>exact hl
  |x b=>
   exfalso
   obtain⟨u,hu⟩:=Option.ne_none_iff_exists'.1 hl
   obtain⟨i,e1,_⟩:=wM _ _ hu
   cases e1
  |o i p=>
   show St.look _ (bn.o i)≠none
   rw[l_]
   exactλe=>hl (Option.or_eq_none_iff.1 e).2) λ_ hi=>hi
 simp only[bJ,Oper.wp,hx,Oper.upon]
 refine⟨G2,I7 h hk (W2:=fi d o V++W1) (xY (W2:=W1) Q2) K2 (λi hi=>by subst hi;exact hM) (λi hi=>.inl hi) (λn oG=>I9 oG) ⟨rfl,rfl,rfl⟩ ?_,Af _ _ _⟩
 refine⟨λe n u he hl=>?_,λb u hl=>?_,λi u hl=>?_,λr u hl i hi=>?_,λi hi=>?_,λb l hb=>⟨mn (mi b l hb).1,(mi b l hb).2⟩⟩
 ·rcases k_ hl with⟨n',iA,e1,rfl⟩|hl
  ·cases e1
   rw[iA,Qn (hn _ iA)]
   exact hV
  ·obtain⟨i,e1,_⟩:=wM _ _ hl;cases e1
 ·rcases k_ hl with⟨n',iA,e1,rfl⟩|hl
  ·cases e1
  ·obtain⟨i,e1,_⟩:=wM _ _ hl;cases e1
 ·rcases k_ hl with⟨n',iA,e1,rfl⟩|hl
  ·cases e1
  ·obtain⟨i',e1,e2,_⟩:=wM _ _ hl;cases e1;exact e2
 ·rcases k_ hl with⟨n',iA,e1,rfl⟩|hl
  ·exact mn (gS i hi)
  ·obtain⟨i',e1,_,_,e4⟩:=wM _ _ hl;exact mn (e4 i hi)
 ·have:∀r:bn,(r=.x i∨r=.o i)->St.look (fi d o V++W1) r≠none->Mn M j (j+1) i:=by
   intro r hr hl
   obtain⟨u,hu⟩:=Option.ne_none_iff_exists'.1 hl
   rcases k_ hu with⟨n',iA,e1,rfl⟩|hl
   ·rcases hr with rfl|rfl<;>cases e1
   ·obtain⟨i',e1,_,e3,_⟩:=wM _ _ hl
    rcases hr with rfl|rfl
    ·cases e1
    ·cases e1;exact mn e3
  rcases hi with hi|hi
  ·exact this _ (.inl rfl) hi
  ·exact this _ (.inr rfl) hi
def Gh.al(G:Gh)(j:Nat)(v:Value)(hv:∃a n c,v=.slice a n c):Gh where
 ω:=G.ω
 β:=G.β
 H:=λi=>if i=j thenλ_=>v else G.H i
 hs:=λi p=>by
  by_cases h:i=j
  ·simp only[h,if_true];exact hv
  ·simp only[h,if_false];exact G.hs i p
theorem afI{j:Nat}{v:Value}{hv:∃a n c,v=.slice a n c}{I:Lb->Prop}:di I (λi=>i=j) G w (G.al j v hv) w:=
 ⟨Nat.le_refl _,λb _ hb=>⟨hb,rfl⟩,λb _ hb=>hb,λb l hl _=>⟨hl,rfl⟩,λi hi=>⟨rfl,λp _=>by simp[Gh.al,hi]⟩⟩
theorem afJ{ω:Nat->Option Lb}{H:List (Nat×Nat)->Value}{n l h sz:Nat}{ao:Option Addr}{len cap:Nat}{xs:List (List T)}(hd:eM ω w (.l xs) (.slice ao len cap))(hh:ov w H n (.slice ao len cap) xs)(vB:l<=h)(hx:h<=xs.length)(o_:xs.length<=cap)(dQ:okW sz xs=true):
  ov w H (n+l) (sliced ao l h cap sz) ((xs.take h).drop l):=by
 intro b off k c hv
 unfold sliced at hv
 by_cases he:l=h
 ·refine⟨0,λr hr=>?_,λi j ys bE=>?_⟩
  ·subst he;simp at hr
  ·subst he;simp[dK]at bE
 ·have dk:¬(cap=l):=by omega
  rw[if_neg dk]at hv
  cases hd with
  |nil=>simp at hx;omega
  | @l _ b0 AQ wd0 _ cv0 g1 g2 g3 g4 g5 g6=>
   simp only[Option.map_some,Addr.add_lit]at hv
   cases hv
   obtain⟨wd,h1,h2⟩:=hh b AQ _ _ rfl
   have qp:wd=sz:=by
    cases xs with
    |nil=>simp at hx;omega
    |cons r xs=>rw[<-h1 r (by simp)];exact dN dQ
   subst qp
   refine⟨wd,λr hr=>h1 r (List.mem_of_mem_take (List.mem_of_mem_drop hr)),λi j ys bE=>?_⟩
   have:=h2 _ _ _ (Jg bE)
   rw[Nat.add_mul]at this
   rw[show AQ+l*wd+(i*wd+j)=AQ+(l*wd+i*wd+j) by omega,this,Nat.add_assoc]
theorem afK{k k1:Wk}{G1:Gh}(hk:dh M B d up ρ G a w k G1){x:Operand}{ls:List Lf}{f:Operand->SV}(hf:cD G1 w ρ (f x) (a.eval x))
  (h:o9 k f (some x)=some (k1,ls))(hd:k1.bA S ρ):∃y t,ls=[y]∧y.fE ρ=some t∧eM (er G1.ω) w t (a.eval x):=by
 simp only[o9,cG,br,Prod.mk.injEq]at h
 obtain⟨⟨k2,y⟩,h1,rfl,rfl⟩:=h
 obtain⟨_,_,t,e3,e4⟩:=Wk.gW hk h1 hd hf
 exact⟨y,t,rfl,e3,e4⟩
theorem afL(dT:eu P cx)(h:Rel M B d up s ρ G a w)(hn:∀n,o.dst=some n->n<a.tmps.size){t:Nat}{x:Operand}{lo hi mx:Option Operand}(ho:o.op=.slice t x lo hi mx)
  {kv:Wk×SV}(gN:(bif mx.isSome then none else zR cx ⟨s.only R,[],ct,[]⟩ t (ch d (Wk.get ⟨s.only R,[],ct,[]⟩) x) (lo.map (ch d (Wk.get ⟨s.only R,[],ct,[]⟩))) (hi.map (ch d (Wk.get ⟨s.only R,[],ct,[]⟩))))=some kv)
  (hk:bX d o kv.1 kv.2=k')(hd:k'.bA S ρ)(hM:∀i,ct.i<=i->i<k'.ct.i->¬M i):bJ P (Mn M ct.i k'.ct.i) B d up ρ a w s o k'.w Q:=by
 have hw:=dh.start h R ct
 cases mx with
 |some m=>simp at gN
 |none=>
  simp only[Option.isSome_none,cond_false]at gN
  have QY:=(hw.iy x).1
  have tF:=(hw.iy x).2
  unfold zR at gN
  split at gN
  ·rename_i id dV
   rw[dV]at QY tF
   split at gN
   ·rename_i tk x0 l0 y gS
    simp only[cG]at gN
    obtain⟨ti,fJ,te,pF,gN⟩:=gN
    cases hc:(Nat.beq ti.kd 3&&Hv l0)with
    |false=>simp[hc]at gN
    |true=>
     simp only[hc,cond_true,cG,br]at gN
     simp only[bk]at hc
     obtain⟨⟨k3,ls⟩,h1,⟨k4,hs⟩,h2,yd⟩:=gN
     have nN:o9 ⟨s.only R,[],ct,[]⟩ (ch d (Wk.get ⟨s.only R,[],ct,[]⟩)) lo=some (k3,ls):=by
      cases lo with
      |none=>exact h1
      |some l=>exact h1
     have vC:o9 k3 (ch d (Wk.get ⟨s.only R,[],ct,[]⟩)) hi=some (k4,hs):=by
      cases hi with
      |none=>exact h2
      |some l=>exact h2
     subst yd
     have cK:bX d o {((k4.em (.sub te.sz lo.isSome hi.isSome) (y::(ls++hs))).1.set (.o (eT k4.ct.i)) (.fz (.w tk x0 (ls.headD (.k (.int .i64 0)))) (k4.em (.sub te.sz lo.isSome hi.isSome) (y::(ls++hs))).2))with
       ct:=⟨(k4.em (.sub te.sz lo.isSome hi.isSome) (y::(ls++hs))).1.ct.a,eT k4.ct.i+1⟩} (.v false [.o (eT k4.ct.i) []])=k':=by
      rw[<-hk]
      cases lo<;>cases hi<;>rfl
     have fx:(k4.em (.sub te.sz lo.isSome hi.isSome) (y::(ls++hs))).1.bA S ρ:=by
      rw[<-cK]at hd
      have h2:=cL.1 hd
      exact h2
     obtain⟨HA,r,hr,oC⟩:=Wk.bO fx
     have iy:∀z,cD G w ρ (ch d (Wk.get ⟨s.only R,[],ct,[]⟩) z) (a.eval z):=λz=>(hw.iy z).1
     have HL:∀{ka kb:Wk} {b:Option Operand} {zs:List Lf},o9 ka (ch d (Wk.get ⟨s.only R,[],ct,[]⟩)) b=some (kb,zs)->ka.eP kb:=by
      intro ka kb b zs hb
      unfold o9 at hb
      split at hb
      ·simp only[br,Prod.mk.injEq]at hb;obtain⟨rfl,_⟩:=hb;exact .refl _
      ·simp only[cG,br,Prod.mk.injEq]at hb
       obtain⟨⟨k5,y5⟩,h5,rfl,_⟩:=hb
       unfold Wk.one at h5
       split at h5
       ·exact Wk.dO h5
       ·cases h5
     have s3:=HL nN
     have s4:=HL vC
     obtain⟨zn,_,oF⟩:=D8 (hw.same s3) (f:=ch d (Wk.get ⟨s.only R,[],ct,[]⟩)) (λz _=>iy z) vC HA
     obtain⟨_,_,ma⟩:=D8 hw (f:=ch d (Wk.get ⟨s.only R,[],ct,[]⟩)) (λz _=>iy z) nN zn
     have ei:=hw.obj id
     rw[gS]at ei
     obtain⟨tz,hy,dZ,AC,F,n0,zs,hF,tD,rfl,Aw,tg,An⟩:=ei
     have Am:n0=0:=I1 hc.2 tD
     subst Am
     simp only[List.map_cons,Lf.bM hy]at hr
     obtain⟨xs,hxs,dQ,hr⟩:=QX hr
     cases hxs
     obtain⟨l,hh,HM,pi,x_⟩:=Jh (F:=λl h=>if 0<=l then(if l<=h then(if h<=zs.length then some (T.l ((zs.take h.toNat).drop l.toNat))else none)else none)else none) ma oF hr
     split at HM
     ·rename_i h0
      split at HM
      ·rename_i vB
       split at HM
       ·rename_i Q0
        simp only[br]at HM
        subst HM
        obtain⟨e,he,qs,_⟩:=QY
        cases he
        obtain⟨p,hp,gX⟩:=qs
        simp only[l7,br]at hp
        subst hp
        have Av:=dZ
        rw[<-gX]at Av
        obtain⟨ao,cap,sC,o_⟩:=Av.rows
        have hT:=dT.ty _ _ fJ
        have hE:=dT.ty _ _ pF
        obtain⟨i,zz,uO,mO,_⟩:=hE.info
        have rK:zs.length<=cap:=by
         by_cases hz:zs=[]
         ·subst hz;simp
         ·exact o_ hz
        have oH:=QW (P:=P) (w:=w) (hT.sl (dN hc.1)) ⟨i,uO,mO⟩ (ao:=ao) rK pi x_ h0 vB Q0
        rw[<-sC]at oH
        have il:(execOp a.eval o).run P w=.ok (.value (sliced ao l.toNat hh.toNat cap te.sz)) w:=
         CN (x:=Instr.sliceAt t (a.eval x) (lo.map a.eval) (hi.map a.eval) none) (by unfold execOp;rw[ho];rfl) oH
        have hsv:∃a n c,sliced ao l.toNat hh.toNat cap te.sz=.slice a n c:=by unfold sliced;exact⟨_,_,_,rfl⟩
        rw[sC]at Av
        have kX:=Av.sub (l:=l.toNat) (h:=hh.toNat) (sz:=te.sz) (by omega) (by omega) dQ
        have kf:k4.ct.i=ct.i:=by rw[s4.i,s3.i]
        have o8:k'.ct.i=eT ct.i+1:=by rw[<-cK,mM,<-kf]
        have jg:=zP ct.i
        rw[o8,<-cK,<-kf]
        refine bJ.mono (M:=Mn M (eT k4.ct.i) (eT k4.ct.i+1)) ?_ (λi hi=>hi.imp_right λhi=>by rw[kf]at hi⊢;exact⟨by omega,hi.2⟩)
        have tG:M id:=tF id (by simp[de,dF])
        have AR:M tk:=hw.rel.fQ (.o id) tk (by rw[<-Wk.aS,gS];simp[de])
        have Jx:¬M (eT k4.ct.i):=hM _ (by rw[kf];exact jg) (by rw[o8,kf];omega)
        have dk:tk≠eT k4.ct.i:=λe=>Jx (e▸AR)
        refine RA (j:=eT k4.ct.i) (G2:=G.al (eT k4.ct.i) (sliced ao l.toNat hh.toNat cap te.sz) hsv) (W1:=[(.o (eT k4.ct.i),.fz (.w tk x0 (ls.headD (.k (.int .i64 0)))) (k4.em (.sub te.sz lo.isSome hi.isSome) (y::(ls++hs))).2)])
         h (hw.same (s3.trans (s4.trans (Wk.bF k4 (.sub te.sz lo.isSome hi.isSome) (y::(ls++hs)))))) hn Jx afI (λr=>by rw[uL];exact uM (k:=(k4.em (.sub te.sz lo.isSome hi.isSome) (y::(ls++hs))).1) r▸(by rw[uL])) (λr u hl=>?_) ?_ (λi hi=>by simp[de,dF]at hi;exact .inr hi) (λb l hb=>⟨.inl (hw.rel.ia b l hb).1,(hw.rel.ia b l hb).2⟩) il
        ·rcases jI hl with⟨e1,e2⟩|hl
         ·subst e1 e2
          refine⟨_,rfl,⟨_,oC,?_,AC,F,l.toNat,_,hF,?_,rfl,λi r hg=>?_,?_,λtD b off k c hv=>?_⟩,.inr rfl,λi hi=>by simp[de]at hi;subst hi;exact .inl AR⟩
          ·simpa[Gh.al,Gh.q]using kX
          ·rcases pi with⟨e1,rfl⟩|⟨kk,e1⟩
           ·rcases ma with⟨rfl,rfl⟩|⟨z,yy,tt,rfl,_⟩
            ·simp[lI,Lf.fE,j_]
            ·simp at e1
           ·cases lo with
            |none=>simp at e1
            |some z=>
             obtain⟨yy,tt,e5,ht,l8⟩:=afK hw (iy z) nN zn
             subst e5
             simp only[Option.map_some,br]at e1
             rw[e1]at l8
             have htt:tt=.c (.int kk l):=by
              generalize hq:Value.int kk l=q at l8
              cases l8 with
              |c _=>rfl
              |nil=>cases hq
              |l=>cases hq
             rw[htt]at ht
             simp only[List.headD_cons]
             exact QF ht h0
          ·rw[List.getElem?_drop,List.getElem?_take]at hg
           split at hg
           ·have:=Aw _ _ hg
            rw[Nat.zero_add]at this
            exact this
           ·cases hg
          ·have h3:ov w (G.H tk) 0 (.slice ao zs.length cap) zs:=by rw[<-sC,gX];exact tg
           have h4:=afJ Av h3 (l:=l.toNat) (h:=hh.toNat) (sz:=te.sz) (by omega) (by omega) rK dQ
           rw[Nat.zero_add]at h4
           simpa[Gh.al,dk]using h4
          ·simp only[Gh.al,if_true]at hv
           have hl:l.toNat=0:=tD
           unfold sliced at hv
           rw[hl]at hv
           split at hv
           ·cases hv
            exact An rfl b off _ _ (by rw[<-gX];exact sC)
           ·generalize sA:Value.slice ao zs.length cap=vv at Av
            cases Av with
            |nil=>
             cases sA
             rename_i aa _
             cases ao with
             |none=>simp at hv
             |some ad=>
              obtain⟨b0,AQ,r0⟩:=ad
              cases r0 with
              |none=>
               simp only[Option.map_some,Addr.add_lit,Nat.zero_mul,Nat.add_zero]at hv
               cases hv
               exact An rfl b off _ _ (by rw[<-gX];exact sC)
              |some sp=>simp[Addr.add]at hv
            | @l _ b0 AQ wd0 _ cv0 g1 g2 g3 g4 g5 g6=>
             cases sA
             simp only[Option.map_some,Addr.add_lit,Nat.zero_mul,Nat.add_zero]at hv
             cases hv
             exact An rfl b off _ _ (by rw[<-gX];exact sC)
         ·cases hl
        ·exact⟨_,rfl,⟨[],rfl,by simp[Gh.al]⟩,λz hz=>by unfold sliced at hz;cases hz⟩
       ·cases HM
      ·cases HM
     ·cases HM
   ·cases gN
  ·cases gN
theorem Wk.nP:∀(zs:List Ce) (k:Wk) (y ix:Lf) (j wd off:Nat),k.eP (k.mg y ix j wd off zs).1
 | [],k,_,_,_,_,_=>.refl k
 |z::zs,k,y,ix,j,wd,off=>by
  unfold Wk.mg
  cases fB z with
  |true=>exact(Wk.bF k _ _).trans (Wk.nP zs _ y ix j wd (off+1))
  |false=>exact(Wk.bF k _ _).trans (Wk.nP zs _ y ix j wd (off+1))
theorem Wk.na:∀(zs:List Ce) (k:Wk) (y ix:Lf) (j wd off:Nat),(k.mg y ix j wd off zs).1.bA S ρ->k.bA S ρ
 | [],_,_,_,_,_,_,h=>h
 |z::zs,k,y,ix,j,wd,off,h=>by
  unfold Wk.mg at h
  cases hz:fB z with
  |true=>rw[hz]at h;exact(Wk.bO (Wk.na zs _ y ix j wd (off+1) h)).1
  |false=>rw[hz]at h;exact(Wk.bO (Wk.na zs _ y ix j wd (off+1) h)).1
theorem Wk.pO{y ix:Lf}{xs:List (List T)}{i wd j b base:Nat}{Hd:Nat->Value}(hx:y.fE ρ=some (.l xs))(hi:lI ρ ix=some i)
  (gb:∀r,xs[i]?=some r->r.length=wd->∀c t,r[c]?=some t->∃u,w.cell? ⟨b,base+c,none⟩=some u∧(∀v,t=.c v->u=v∧j_ v=true)∧∀ys,t=.l ys->u=Hd c):
  ∀(zs:List Ce) (k:Wk) (off:Nat),(k.mg y ix j wd off zs).1.bA S ρ->
   ∃vs:List Value,vs.length=zs.length∧(∀c v,vs[c]?=some v->w.cell? ⟨b,base+off+c,none⟩=some v)∧(∀i∈dF (k.mg y ix j wd off zs).2.1,i=j)∧
    ((zs.filter fB).length=0->∀G1:Gh,aX G1 w ρ (k.mg y ix j wd off zs).2.1 vs)∧
    ((zs.filter fB).length=1->∃r c0 ys,xs[i]?=some r∧r.length=wd∧r[c0]?=some (.l ys)∧(k.mg y ix j wd off zs).2.2.fE ρ=some (.l ys)∧∀G1:Gh,G1.H j []=Hd c0->aX G1 w ρ (k.mg y ix j wd off zs).2.1 vs)
 | [],k,off,_=>⟨[],rfl,λc v hc=>by simp at hc,λi hi=>by simp[Wk.mg,dF]at hi,λ_ _=>trivial,λh=>by simp at h⟩
 |z::zs,k,off,hd=>by
  unfold Wk.mg at hd⊢
  cases hz:fB z with
  |true=>
   rw[hz]at hd
   simp only[cond_true]at hd⊢
   obtain⟨_,t,ht,CP⟩:=Wk.bO (Wk.na zs _ _ _ _ _ (off+1) hd)
   obtain⟨ys,rfl,bE,r,h1,h2⟩:=DT hx hi ht
   have h3:r[off]?=some (.l ys):=by simpa[dK,h1]using bE
   obtain⟨u,h5,_,h6⟩:=gb r h1 h2 off _ h3
   obtain⟨vs,g1,g2,g3,g4,g5⟩:=Wk.pO hx hi gb zs _ (off+1) hd
   refine⟨u::vs,by simp[g1],λc v hc=>?_,λi hi=>?_,λh0=>by simp[hz]at h0,λh1'=>⟨r,off,ys,h1,h2,h3,CP,λG1 hG=>⟨⟨[],rfl,by rw[h6 ys rfl,hG]⟩,g4 (by simpa[hz]using h1') G1⟩⟩⟩
   ·cases c with
    |zero=>simp at hc;subst hc;simpa using h5
    |succ c=>
     have:=g2 c v (by simpa using hc)
     rwa[show base+(off+1)+c=base+off+(c+1) by omega]at this
   ·simp only[dF,List.mem_cons]at hi
    rcases hi with hi|hi
    ·exact hi
    ·exact g3 i hi
  |false=>
   rw[hz]at hd
   simp only[cond_false]at hd⊢
   obtain⟨_,t,ht,CP⟩:=Wk.bO (Wk.na zs _ _ _ _ _ (off+1) hd)
   obtain⟨r,h1,h2,h3,h4⟩:=I0 (sc:=true) hx hi ht
   obtain⟨c,rfl⟩:=xV (h4 rfl)
   obtain⟨u,h5,h6,_⟩:=gb r h1 h2 off _ h3
   obtain⟨rfl,hs⟩:=h6 c rfl
   obtain⟨vs,g1,g2,g3,g4,g5⟩:=Wk.pO hx hi gb zs _ (off+1) hd
   refine⟨u::vs,by simp[g1],λc v hc=>?_,λi hi=>g3 i (by simpa[dF]using hi),λh0 G1=>⟨⟨.c u,CP,.c hs⟩,g4 (by simpa[hz]using h0) G1⟩,λh1'=>?_⟩
   ·cases c with
    |zero=>simp at hc;subst hc;simpa using h5
    |succ c=>
     have:=g2 c v (by simpa using hc)
     rwa[show base+(off+1)+c=base+off+(c+1) by omega]at this
   ·obtain⟨r',c0,ys,e1,e2,e3,e4,e5⟩:=g5 (by simpa[hz]using h1')
    exact⟨r',c0,ys,e1,e2,e3,e4,λG1 hG=>⟨⟨.c u,CP,.c hs⟩,e5 G1 hG⟩⟩
theorem afN{m i r:T}(h:Prim.ev .xw [m,i]=some r):∃us kk n,m=.l us∧i=.c (.int kk n)∧0<=n∧n.toNat+1<=us.length∧rp us n.toNat 1=true∧r=.l (zj us n.toNat 1):=by
 cases m with
 |c v=>simp[Prim.ev]at h
 |l us=>
  cases i with
  |l _=>simp[Prim.ev]at h
  |c v=>
   cases v with
   |int kk n=>
    simp only[Prim.ev]at h
    split at h
    ·split at h
     ·split at h
      ·cases h
       exact⟨us,kk,n,rfl,rfl,by assumption,by assumption,by assumption,rfl⟩
      ·cases h
     ·cases h
    ·cases h
   |_=>simp[Prim.ev]at h
def Gh.jO(G:Gh)(tk j i c0:Nat):Gh where
 ω:=λb=>match G.ω b with
  |some (.o n ((r,c)::p))=>if n=tk∧r=i∧c=c0 then some (.o j p)else some (.o n ((r,c)::p))
  |l=>l
 β:=G.β
 H:=λn=>if n=j thenλp=>G.H tk ((i,c0)::p)else G.H n
 hs:=λn p=>by
  by_cases h:n=j
  ·simp only[h,if_true];exact G.hs tk _
  ·simp only[h,if_false];exact G.hs n p
theorem afO{tk j i c0:Nat}(h4:j%4=2){I:Lb->Prop}(hI:∀p,I (.o tk p)):di I (λn=>n=j) G w (G.jO tk j i c0) w:=by
 refine⟨Nat.le_refl _,λb _ hb=>⟨s_ hb (λh0=>by simp[Gh.jO,h0]) λl hl hq=>?_,rfl⟩,λb _ hb=>by simp[Gh.jO,hb],λb l hl hn=>⟨?_,rfl⟩,λn hn=>⟨rfl,λp _=>by simp[Gh.jO,hn]⟩⟩
 ·cases l with
  |o n p=>
   cases p with
   |nil=>exact .inr ⟨_,by simp[Gh.jO,hl],hq⟩
   |cons x p=>
    obtain⟨r,c⟩:=x
    simp only[Gh.jO,hl]
    split
    ·exact .inr ⟨_,rfl,IP h4⟩
    ·exact .inr ⟨_,rfl,hq⟩
  |_=>simp[qt]at hq
 ·cases l with
  |o n p=>
   cases p with
   |nil=>simp[Gh.jO,hl]
   |cons x p=>
    obtain⟨r,c⟩:=x
    have:n≠tk:=λe=>hn (e▸hI _)
    simp[Gh.jO,hl,this]
  |_=>simp[Gh.jO,hl]
theorem afP(dT:eu P cx)(h:Rel M B d up s ρ G a w)(hn:∀n,o.dst=some n->n<a.tmps.size){x:Operand}{t:Nat}(ho:o.op=.load t x){kv:Wk×SV}
  (gN:Iz cx ⟨s.only R,[],ct,[]⟩ t (ch d (Wk.get ⟨s.only R,[],ct,[]⟩) x)=some kv)(hk:bX d o kv.1 kv.2=k')(hd:k'.bA S ρ)(hM:∀i,ct.i<=i->i<k'.ct.i->¬M i):
  bJ P (Mn M ct.i k'.ct.i) B d up ρ a w s o k'.w Q:=by
 have hw:=dh.start h R ct
 obtain⟨hr,hm⟩:=hw.iy x
 unfold Iz at gN
 split at gN
 ·rename_i id ix wd off dV
  rw[dV]at hr hm
  simp only[cG]at gN
  obtain⟨ti,fJ,gN⟩:=gN
  split at gN
  ·rename_i tk x0 lo y gS
   split at gN
   ·rename_i y0 m AC
    cases hc:(Hv lo&&x0.beq y0&&Nat.beq (ti.zero.filter fB).length 1&&Nat.beq ti.zero.length ti.sz)with
    |false=>simp[hc]at gN
    |true=>
     simp only[hc,cond_true,br]at gN
     simp only[bk]at hc
     obtain⟨⟨⟨c1,c2⟩,c3⟩,c4⟩:=hc
     have Jq:=Lf.beq_eq c2
     subst Jq
     have pM:=dN c3
     have qD:=dN c4
     subst gN
     obtain⟨kr,hkr⟩:∃kr,(Wk.mg ⟨s.only R,[],ct,[]⟩ y ix (mK ct.i) wd off ti.zero)=kr:=⟨_,rfl⟩
     have cK:bX d o {(((kr.1.em .xw [m,ix]).1.set (.o tk) (.tk x0 (kr.1.em .xw [m,ix]).2)).set (.o (mK ct.i)) (.fl kr.2.2))with ct:=⟨(kr.1.em .xw [m,ix]).1.ct.a,mK ct.i+1⟩} (.v ti.ag kr.2.1)=k':=by
      rw[<-hk,<-hkr]
     have fx:(kr.1.em .xw [m,ix]).1.bA S ρ:=by
      rw[<-cK]at hd
      have h2:=cL.1 hd
      exact h2
     obtain⟨Ec,r1,oE,oC⟩:=Wk.bO fx
     rw[<-hkr]at Ec
     obtain⟨p,b,n,cap,i,e1,e2,e3,e4,e5⟩:=hr
     simp only[l7,br]at e1
     subst e1
     have obj:=hw.obj id
     have Rg:=hw.obj tk
     rw[gS]at obj
     rw[AC]at Rg
     obtain⟨tt,ht,dZ,afQ,F,n0,zs,hF,nN,rfl,Aw,tg,_⟩:=obj
     have Am:n0=0:=I1 c1 nN
     subst Am
     obtain⟨_,F',u,Rh,hu,hlen,mb⟩:=Rg
     rw[hF]at Rh
     cases Rh
     rw[e2]at dZ
     obtain⟨CR,w1,w2⟩:=tg b 0 n cap e2
     obtain⟨vs,g1,g2,g3,_,g5⟩:=Wk.pO (S:=S) (w:=w) (b:=b) (base:=i*wd) (j:=mK ct.i) (Hd:=λc=>G.H tk [(i,c)]) (wd:=wd) ht e3 (λr iN hl c t' jA=>by
      obtain⟨v',hc,oG⟩:=(dZ.row iN hl).2.2 c t' jA
      rw[Nat.zero_add]at hc
      refine⟨v',hc,λv he=>by subst he;exact oG.scalar,λys he=>?_⟩
      subst he
      have qp:CR=wd:=by rw[<-w1 r (List.mem_of_getElem? iN),hl]
      have bE:dK zs i c=some (.l ys):=by simp[dK,iN,jA]
      have:=w2 i c ys bE
      rw[Nat.zero_add,Nat.zero_add,qp,hc]at this
      exact Option.some.inj this) ti.zero _ off Ec
     rw[hkr]at g3 g5
     obtain⟨row,c0,ys,q1,q2,q3,q4,q5⟩:=g5 pM
     have hT:=dT.ty _ _ fJ
     have eB:=Qz (P:=P) (w:=w) hT (b:=b) (off:=i*wd+off) (vs:=vs) (by rw[g1,qD]) g2
     have il:(execOp a.eval o).run P w=.ok (.value (if ti.ag then .agg vs.toArray else vs.getD 0 undef)) w:=by
      refine CN (x:=Instr.loadAt t (a.eval x)) (by unfold execOp;rw[ho]) ?_
      rw[e5];exact eB
     obtain⟨kk,hix⟩:=xM e3
     simp only[List.map_cons,List.map_nil,Lf.bM hu,hix]at oE
     obtain⟨us,kk2,n2,f1,f2,f3,f4,f5,rfl⟩:=afN oE
     cases f1
     cases f2
     have mO:((i:Int)).toNat=i:=Int.toNat_natCast i
     rw[mO]at f4 f5 oC
     have s1:Wk.eP ⟨s.only R,[],ct,[]⟩ kr.1:=by rw[<-hkr];exact Wk.nP _ _ _ _ _ _ _
     have o8:k'.ct.i=mK ct.i+1:=by rw[<-cK,mM]
     have hle:=Qc ct.i
     rw[o8,<-cK]
     refine bJ.mono (M:=Mn M (mK ct.i) (mK ct.i+1)) ?_ (λi hi=>hi.imp_right λhi=>⟨by omega,hi.2⟩)
     have AR:M tk:=hw.rel.fQ (.o id) tk (by rw[<-Wk.aS,gS];simp[de])
     have Jx:¬M (mK ct.i):=hM _ hle (by rw[o8];omega)
     have dk:tk≠mK ct.i:=λe=>Jx (e▸AR)
     have xW:=Qd ct.i
     have free:=Re f4 f5 (i:=0) (by omega)
     obtain⟨r',afR,afS⟩:=free
     obtain⟨o1,o2⟩:=mb _ _ afR afS
     have HN:=Aw _ _ q1
     rw[Nat.zero_add]at HN
     rw[Nat.add_zero,HN]at o1
     cases o1
     have bI:=o2 c0 ys q3
     rw[Nat.add_zero]at bI
     have jx:∀q,oA [(bn.o (mK ct.i),SV.fl kr.2.2),(bn.o tk,SV.tk x0 (kr.1.em .xw [m,ix]).2)] (.o tk q):=by
      intro q
      show St.look _ (bn.o tk)≠none
      simp only[St.look]
      cases(bn.o (mK ct.i)).beq (.o tk)<;>simp[(bn.beq_iff (r:=bn.o tk)).2 rfl]
     refine RA (j:=mK ct.i) (G2:=G.jO tk (mK ct.i) i c0) (W1:=[(.o (mK ct.i),.fl kr.2.2),(.o tk,.tk x0 (kr.1.em .xw [m,ix]).2)])
      h (hw.same (s1.trans (Wk.bF kr.1 .xw [m,ix]))) hn Jx (afO xW jx) (λr=>?_) (λr u' hl=>?_) ?_ (λi hi=>.inr (g3 i hi)) (λb l hb=>?_) il
     ·show(((kr.1.em .xw [m,ix]).1.w.set (.o tk) _).set (.o (mK ct.i)) _).look r=_
      simp only[St.look]
      by_cases h1:bn.o (mK ct.i)=r
      ·subst h1;rw[St.bg];simp[(bn.beq_iff (r:=bn.o (mK ct.i))).2 rfl]
      ·have b1:(bn.o (mK ct.i)).beq r=false:=by
        cases hb:(bn.o (mK ct.i)).beq r with
        |false=>rfl
        |true=>exact absurd (bn.beq_iff.1 hb) h1
       rw[St.cz _ _ h1,b1]
       by_cases h2:bn.o tk=r
       ·subst h2;rw[St.bg];simp[(bn.beq_iff (r:=bn.o tk)).2 rfl]
       ·have b2:(bn.o tk).beq r=false:=by
         cases hb:(bn.o tk).beq r with
         |false=>rfl
         |true=>exact absurd (bn.beq_iff.1 hb) h2
        rw[St.cz _ _ h2,b2];simp
     ·rcases jI hl with⟨e1,e2⟩|hl
      ·subst e1 e2
       refine⟨_,rfl,⟨xW,_,q4,?_⟩,.inr rfl,λi hi=>by simp[de]at hi⟩
       refine bI.move rfl (λb q hb=>⟨?_,rfl⟩) λq=>?_
       ·simp only[List.cons_append,List.nil_append]at hb⊢
        simp only[Gh.jO,hb]
        rw[if_pos (by refine⟨?_,?_,?_⟩<;>trivial)]
       ·simp[Gh.jO]
      ·rcases jI hl with⟨e1,e2⟩|hl
       ·subst e1 e2
        refine⟨tk,rfl,⟨afQ,F,_,hF,oC,by rw[Rc f4];exact hlen,λi' r hg RB=>?_⟩,.inl AR,λi hi=>by simp[de]at hi⟩
        obtain⟨g1,g2⟩:=Rd f4 hg RB
        obtain⟨g3,g4⟩:=mb i' r g1 RB
        refine⟨g3,λc l' qX=>(g4 c l' qX).move rfl (λb q hb=>⟨?_,rfl⟩) λq=>?_⟩
        ·simp only[List.cons_append,List.nil_append]at hb⊢
         simp only[Gh.jO,hb]
         rw[if_neg (by omega)]
        ·simp[Gh.jO,dk]
       ·cases hl
     ·exact Ah hT (q5 _ (by simp[Gh.jO])) (by rw[g1,qD])
     ·cases hg:G.ω b with
      |none=>simp[Gh.jO,hg]at hb
      |some l0=>
       have tD:=hw.rel.ia b l0 hg
       refine⟨?_,tD.2⟩
       cases l0 with
       |o n' p=>
        cases p with
        |nil=>simp[Gh.jO,hg]at hb;subst hb;exact .inl tD.1
        |cons x p=>
         obtain⟨r,c⟩:=x
         simp only[Gh.jO,hg]at hb
         split at hb
         ·cases hb;exact .inr rfl
         ·cases hb;exact .inl tD.1
       |_=>simp[Gh.jO,hg]at hb;subst hb;exact .inl tD.1
   ·cases gN
  ·cases gN
 ·cases gN
end
def bU(G:Gh)(w:World):List Ck->List Value->List T->List (Option Nat)->Prop
 | [],[],[],[]=>True
 | .s::ks,v::vs,t::ts,x::is=>x=none∧eM G.q w t v∧eA t=true∧bU G w ks vs ts is
 | .p::ks,v::vs,t::ts,x::is=>x=none∧eM G.q w t v∧bU G w ks vs ts is
 | .o dp::ks,v::vs,t::ts,none::is=>v=.slice none 0 0∧t=.l []∧bU G w ks vs ts is
 | .o dp::ks,v::vs,t::ts,some id::is=>v=G.H id []∧eX G w id dp [] t∧bU G w ks vs ts is
 |_,_,_,_=>False
def RC(G:Gh)(w:World)(r:Bool×List Ck)(c:Value)(ts:List T)(is:List (Option Nat)):Prop:=
 match r.1 with
 |true=>∃vs:List Value,c=.agg vs.toArray∧bU G w r.2 vs ts is
 |false=>bU G w r.2 [c] ts is∧∀x,c≠.agg x
def iO(G:Gh)(w:World):List (Bool×List Ck)->List Value->List T->List (Option Nat)->Prop
 | [],[],[],[]=>True
 |r::rs,v::vs,ts,is=>∃t1 t2 i1 i2,ts=t1++t2∧is=i1++i2∧RC G w r v t1 i1∧iO G w rs vs t2 i2
 |_,_,_,_=>False
def JB(G:Gh)(w:World)(rs:List (Bool×List Ck))(v:Value)(ts:List T)(is:List (Option Nat)):Prop:=
 match rs with
 | []=>ts=[]∧is=[]
 | [r]=>iO G w [r] [v] ts is
 |rs=>∃vs:List Value,v=.tuple vs.toArray∧iO G w rs vs ts is
section
variable {w:World}
def ib(G:Gh)(w:World)(bl:Nat->Option Nat):Nat->List PS->List T->Prop
 |_,[],ts=>ts=[]
 |i,.v _ _::ps,ts=>ib G w bl (i+1) ps ts
 |i,.x n::ps,ts=>∃b bT elem t1 t2,bl i=some b∧G.ω b=some (.x i)∧w.heap[b]?=some (.cells bT elem (0,0))∧ts=t1++t2∧t1.length=n∧ew G.q w t1 bT.toList∧
   ib G w bl (i+1) ps t2
def ye(ω:Nat->Option Lb)(w:World)(bl:Nat->Option Nat):Nat->List PS->List Value->List T->Prop
 |_,[],args,ts=>args=[]∧ts=[]
 |i,.v ag n::ps,args,ts=>∃c eR vs t1 t2,args=c::eR∧ts=t1++t2∧t1.length=n∧(match ag with|true=>c=.agg vs.toArray|false=>vs=[c]∧∀x,c≠.agg x)∧ew ω w t1 vs∧
   ye ω w bl (i+1) ps eR t2
 |i,.x n::ps,args,ts=>∃c eR b bT elem t1 t2,args=c::eR∧c=.pointer (some ⟨b,0,none⟩)∧bl i=some b∧ω b=some (.x i)∧w.heap[b]?=some (.cells bT elem (0,0))∧ts=t1++t2∧t1.length=n∧ew ω w t1 bT.toList∧
   ye ω w bl (i+1) ps eR t2
structure wO (sg:nw) (nA:Nat->Option Lb) (bl:Nat->Option Nat) (w:World):Prop where
 ia:∀b l,nA b=some l->b<w.heap.size∧(l=.f∨∃i,l=.x i∧bl i=some b)
 bl:∀i b,bl i=some b->i<sg.ps.length∧nA b=some (.x i)
 gl:DR nA w
structure RD (sg:nw) (w:World) (nA:Nat->Option Lb) (bl:Nat->Option Nat) (outs:List T) (v:Value) (w':World) (G:Gh) (is:List (Option Nat)) (o1 o2:List T):Prop where
 so:jk w w'
 size:w.heap.size<=w'.heap.size
 free:∀b,b<w.heap.size->nA b=none->G.ω b=none∧w'.heap[b]?=w.heap[b]?
 CL:∀b,nA b=some .f->G.ω b=some .f∧w'.heap[b]?=w.heap[b]?
 ia:∀b l,G.ω b=some l->b<w'.heap.size
 qq:pC sg=true->∀b,G.q b=none->G.ω b=none
 outs:outs=o1++o2
 nodup:(is.filterMap id).Nodup
 ret:JB G w' sg.rs v o1 is
 box:ib G w' bl 0 sg.ps o2
def Eg(P:Program)(sg:nw)(f:FuncId)(F:af):Prop:=
 ∀(w:World) (nA:Nat->Option Lb) (bl:Nat->Option Nat) (args:List Value) (ts outs:List T),F ts=some outs->wO sg nA bl w->ye nA w bl 0 sg.ps args ts->
  Calls P f args.toArray w λe w'=>∃v G is o1 o2,e=.returned v∧RD sg w nA bl outs v w' G is o1 o2
structure ic (G G':Gh):Prop where
 o:∀b,G'.ω b=G.ω b∨(G'.ω b=none∧∃i p,G.ω b=some (.o i p))
 β:G'.β=G.β
 H:G'.H=G.H
theorem ic.refl(G:Gh):ic G G:=⟨λ_=>.inl rfl,rfl,rfl⟩
theorem ic.trans{G1 G2 G3:Gh}(h:ic G1 G2)(h':ic G2 G3):ic G1 G3:=by
 refine⟨λb=>?_,h'.β.trans h.β,h'.H.trans h.H⟩
 rcases h'.o b with h1|⟨h1,i,p,h2⟩
 ·rcases h.o b with h3|⟨h3,h4⟩
  ·exact .inl (h1.trans h3)
  ·exact .inr ⟨h1.trans h3,h4⟩
 ·rcases h.o b with h3|⟨h3,h4⟩
  ·exact .inr ⟨h1,i,p,by rw[<-h3];exact h2⟩
  ·rw[h3]at h2;cases h2
theorem ic.non{G G':Gh}(h:ic G G'){b:Nat}(hb:G.ω b=none):G'.ω b=none:=by
 rcases h.o b with h1|⟨h1,_⟩
 ·rw[h1,hb]
 ·exact h1
theorem ic.q{G G':Gh}(h:ic G G'){b:Nat}(hb:G.q b=none):G'.q b=none:=by
 refine s_ hb h.non λl hl hq=>?_
 rcases h.o b with h1|⟨h1,_⟩
 ·exact .inr ⟨l,by rw[h1,hl],hq⟩
 ·exact .inl h1
theorem ic.x{G G':Gh}(h:ic G G'){b:Nat}{l:Lb}(hb:G.ω b=some l)(hl:∀i p,l≠.o i p):G'.ω b=some l:=by
 rcases h.o b with h1|⟨_,i,p,h1⟩
 ·rw[h1,hb]
 ·rw[hb]at h1;cases h1;exact absurd rfl (hl i p)
theorem ic.er{G G':Gh}(h:ic G G'){b:Nat}(hb:er G.ω b=none):er G'.ω b=none:=by
 unfold Go.Proofs.YtjimmglpkndemaaGreatC.er at hb⊢
 cases hg:G.ω b with
 |none=>rw[h.non hg]
 |some l=>
  rw[hg]at hb
  cases l with
  |f=>cases hb
  |x i=>cases hb
  |o i p=>
   rcases h.o b with h1|⟨h1,_⟩
   ·rw[h1,hg]
   ·rw[h1]
theorem ic.aY{G G':Gh}(h:ic G G')(w:World):di (λl=>∃i p,l=.o i p) (λ_=>False) G w G' w:=
 ⟨Nat.le_refl _,λb _ hb=>⟨h.q hb,rfl⟩,λb _ hb=>h.non hb,λb l hb hl=>⟨h.x hb λi p e=>hl ⟨i,p,e⟩,rfl⟩,λ_ _=>⟨by rw[h.β],λ_ _=>by rw[h.H]⟩⟩
theorem Gh.nQ(G:Gh)(id:Nat)(all:Bool):ic G (G.free id all):=by
 refine⟨λb=>?_,rfl,rfl⟩
 cases hg:G.ω b with
 |none=>exact .inl (Gh.jH hg)
 |some l=>
  cases l with
  |f=>exact .inl (by simp[Gh.free,hg])
  |x i=>exact .inl (by simp[Gh.free,hg])
  |o i p=>
   simp only[Gh.free,hg]
   split
   ·exact .inr ⟨rfl,i,p,rfl⟩
   ·exact .inl rfl
variable {M:Nat->Prop} {B:eI} {d:Nat} {up:Nat->Nat->Value} {ρ:List T} {G:Gh} {a:Act} {S:Nat->af} {P:Program}
theorem dh.RE{k k':Wk}{G1:Gh}(h:dh M B d up ρ G a w k G1){id:Nat}(hk:k.lQ id=some k'):∃G2,dh M B d up ρ G a w k' G2∧ic G1 G2:=by
 unfold Wk.lQ at hk
 split at hk
 ·rename_i dp x hx
  cases hk
  rw[Wk.aS]at hx
  refine⟨_,⟨(h.rel.lQ hx).congr (Hx _ _ _ _),(h.aY.mono (λl hl=>Hw hl) λ_ hn=>hn).trans ((G1.fg id true w).mono ?_ λ_ hn=>hn)⟩,G1.nQ id true⟩
  rintro l ⟨p,rfl⟩
  show(k.w.set _ _).look (.o id)≠none
  rw[St.bg];simp
 ·cases hk;exact⟨G1,h,.refl _⟩
 ·cases hk
theorem dh.nR:∀{cs:List Ce} {k k1:Wk} {G1:Gh},dh M B d up ρ G a w k G1->k.et cs=some k1->∃G2,dh M B d up ρ G a w k1 G2∧ic G1 G2
 | [],k,k1,G1,h,hk=>by
  simp[Wk.et]at hk
  subst hk
  exact⟨G1,h,.refl _⟩
 |c::cs,k,k1,G1,h,hk=>by
  cases c with
  |o id q=>
   simp only[Wk.et,cG]at hk
   obtain⟨k2,h1,h2⟩:=hk
   obtain⟨G2,g1,g2⟩:=h.RE h1
   obtain⟨G3,f1,f2⟩:=dh.nR g1 h2
   exact⟨G3,f1,g2.trans f2⟩
  |p x=>exact dh.nR h (show k.et cs=some k1 from hk)
  |n=>exact dh.nR h (show k.et cs=some k1 from hk)
  |d=>exact dh.nR h (show k.et cs=some k1 from hk)
def cP(G:Gh)(w:World)(ρ:List T):List SV->List Value->Prop
 | [],[]=>True
 |v::vs,c::cs=>cD G w ρ v c∧cP G w ρ vs cs
 |_,_=>False
theorem cP.aY{I:Lb->Prop}{G G':Gh}{w w':World}(k:di I (λ_=>False) G w G' w'):∀{vs:List SV} {cs:List Value},cP G w ρ vs cs->cP G' w' ρ vs cs
 | [],[],_=>trivial
 |_::_,_::_,h=>⟨h.1.aY k λ_ _ hf=>hf,cP.aY k h.2⟩
 | [],_::_,h=>h.elim
 |_::_,[],h=>h.elim
def tI(G:Gh)(w:World)(ρ:List T)(pl:Bool):List PS->List Value->List Lf->List (Nat×Bool×Nat)->Prop
 | [],args,xs,bs=>args=[]∧xs=[]∧bs=[]
 | .v ag n::ps,args,xs,bs=>∃c eR vs x1 x2,args=c::eR∧xs=x1++x2∧x1.length=n∧(match ag with|true=>c=.agg vs.toArray|false=>vs=[c]∧∀x,c≠.agg x)∧ew (er G.ω) w (x1.map (Lf.ev ρ)) vs∧
   (pl=true->ew G.q w (x1.map (Lf.ev ρ)) vs)∧tI G w ρ pl ps eR x2 bs
 | .x n::ps,args,xs,bs=>∃c eR bx ag xZ bT elem x1 x2,args=c::eR∧bs=(bx,ag,n)::xZ∧c=.pointer (some ⟨G.β bx,0,none⟩)∧G.ω (G.β bx)=some (.x bx)∧w.heap[G.β bx]?=some (.cells bT elem (0,0))∧
   xs=x1++x2∧x1.length=n∧ew G.q w (x1.map (Lf.ev ρ)) bT.toList∧tI G w ρ pl ps eR x2 xZ
theorem JC{pl:Bool}:∀{ps:List PS} {vs:List SV} {cs:List Value} {k k1:Wk} {xs:List Lf} {bs:List (Nat×Bool×Nat)} {G1:Gh},dh M B d up ρ G a w k G1->cP G1 w ρ vs cs->(pl=true->Aq k (ve vs))->
  k.args vs ps=some (k1,xs,bs)->k1.bA S ρ->k.bA S ρ∧k1.ct.i=k.ct.i∧∃G2,dh M B d up ρ G a w k1 G2∧ic G1 G2∧
   ∀G3,ic G2 G3->tI G3 w ρ pl ps cs xs bs
 | [],[],cs,k,k1,xs,bs,G1,hk,hr,hf,h,hd=>by
  simp only[Wk.args,br,Prod.mk.injEq]at h
  obtain⟨rfl,rfl,rfl⟩:=h
  cases cs with
  |nil=>exact⟨hd,rfl,G1,hk,.refl _,λ_ _=>⟨rfl,rfl,rfl⟩⟩
  |cons _ _=>exact hr.elim
 | .v wx n::ps,.v ag es::vs,cs,k,k1,xs,bs,G1,hk,hr,hf,h,hd=>by
  cases cs with
  |nil=>exact hr.elim
  |cons c cs=>
   simp only[Wk.args]at h
   cases hc:((ag==wx)&&Nat.beq es.length n)with
   |false=>simp[hc]at h
   |true=>
    simp only[hc,cond_true,cG,br,Prod.mk.injEq]at h
    simp only[bk,beq_iff_eq]at hc
    obtain⟨rfl,hn⟩:=hc
    obtain⟨⟨k2,x1⟩,h1,⟨k3,x2,bs2⟩,h2,rfl,rfl,rfl⟩:=h
    have hs:=Wk.gK h1
    obtain⟨d2,i2,G2,w2,l2,f2⟩:=JC (hk.same hs) hr.2 (λhp id gS=>by
     obtain⟨pv,x,hx⟩:=hf hp id (by simp only[ve];rw[I3];exact List.mem_append_right _ gS)
     exact⟨pv,x,by rw[hs.get];exact hx⟩) h2 hd
    have fx:=Wk.ld h1 d2
    refine⟨fx,i2.trans hs.i,G2,w2,l2,λG3 l3=>?_⟩
    have be:=l2.trans l3
    have hlen:x1.length=n:=by
     have:=dN hn
     obtain⟨tJ,o7⟩:∃tJ:List Value,aX G1 w ρ es tJ:=by
      have h0:=hr.1
      cases ag with
      |true=>obtain⟨tJ,_,h0⟩:=h0;exact⟨tJ,h0⟩
      |false=>obtain⟨e,rfl,h0,_⟩:=h0;exact⟨[c],h0,trivial⟩
     obtain⟨_,_,_,_,e4⟩:=Wk.gL h1 d2 o7 hk
     rw[e4,<-o7.length,this]
    have key:∀tJ:List Value,aX G1 w ρ es tJ->ew (er G3.ω) w (x1.map (Lf.ev ρ)) tJ∧(pl=true->ew G3.q w (x1.map (Lf.ev ρ)) tJ):=by
     intro tJ o7
     obtain⟨ts,e1,e2,e3,e4⟩:=Wk.gL h1 d2 o7 hk
     rw[e1]
     refine⟨e2.aY (Nat.le_refl _) λb _ hb=>⟨be.er hb,rfl⟩,λhp=>(e3 λid gS=>hf hp id ?_).aY (Nat.le_refl _) λb _ hb=>⟨be.q hb,rfl⟩⟩
     simp only[ve,Dn]
     rw[I3]
     exact List.mem_append_left _ gS
    have h0:=hr.1
    cases ag with
    |true=>
     obtain⟨tJ,rfl,h0⟩:=h0
     obtain⟨q1,q2⟩:=key tJ h0
     exact⟨_,cs,tJ,x1,x2,rfl,rfl,hlen,rfl,q1,q2,f2 G3 l3⟩
    |false=>
     obtain⟨e,rfl,h0,h0'⟩:=h0
     obtain⟨q1,q2⟩:=key [c] ⟨h0,trivial⟩
     exact⟨c,cs,[c],x1,x2,rfl,rfl,hlen,⟨rfl,h0'⟩,q1,q2,f2 G3 l3⟩
 | .x n::ps,.pt bx 0::vs,cs,k,k1,xs,bs,G1,hk,hr,hf,h,hd=>by
  cases cs with
  |nil=>exact hr.elim
  |cons c cs=>
   simp only[Wk.args]at h
   split at h
   ·rename_i ag es uK
    cases hc:Nat.beq es.length n with
    |false=>simp[hc]at h
    |true=>
     simp only[hc,cond_true,cG,br,Prod.mk.injEq]at h
     obtain⟨k2,h0,⟨k3,x1⟩,h1,⟨k4,x2,bs2⟩,h2,rfl,rfl,rfl⟩:=h
     obtain⟨Gt,wt,lt⟩:=hk.nR h0
     obtain⟨_,_,_,_,t4,t5,tf,t7,_⟩:=hk.et h0
     have hs:=Wk.gK h1
     obtain⟨d2,i2,G2,w2,l2,f2⟩:=JC (wt.same hs) (hr.2.aY (lt.aY w)) (λhp id gS=>by
      obtain⟨pv,x,hx⟩:=hf hp id (by simp only[ve];rw[I3];exact List.mem_append_right _ gS)
      exact⟨pv,x,by rw[hs.get];exact t7 _ _ _ hx⟩) h2 hd
     have fx:=Wk.ld h1 d2
     have RF:k.bA S ρ:=by unfold Wk.bA at fx⊢;rw[<-t4,<-t5];exact fx
     have pP:=hk.rel.bx bx
     rw[<-Wk.aS,uK]at pP
     obtain⟨b1,bT,elem,b2,b3⟩:=pP
     obtain⟨ts,e1,e2,e3,e4⟩:=Wk.gL h1 d2 (b3.aY (lt.aY w) λ_ _ hf=>hf) wt
     have hp:c=.pointer (some ⟨G1.β bx,0,none⟩):=hr.1
     refine⟨RF,by rw[i2,hs.i,t4],G2,w2,lt.trans l2,λG3 l3=>?_⟩
     have rQ:=(lt.trans l2).trans l3
     refine⟨c,cs,bx,ag,bs2,bT,elem,x1,x2,rfl,rfl,by rw[rQ.β];exact hp,by rw[rQ.β];exact rQ.x b1 (λ_ _ e=>by cases e),by rw[rQ.β];exact b2,rfl,?_,?_,f2 G3 l3⟩
     ·rw[e4,<-b3.length];exact dN hc
     ·rw[e1];exact(e3 tf).aY (Nat.le_refl _) λb _ hb=>⟨(l2.trans l3).q hb,rfl⟩
   ·cases h
 | [],_::_,cs,k,k1,xs,bs,G1,hk,hr,hf,h,hd=>by simp[Wk.args]at h
 |_::_,[],cs,k,k1,xs,bs,G1,hk,hr,hf,h,hd=>by simp[Wk.args]at h
 | .x _::_,.pt _ (_+1)::_,cs,k,k1,xs,bs,G1,hk,hr,hf,h,hd=>by simp[Wk.args]at h
 | .v _ _::_,.un::_,cs,k,k1,xs,bs,G1,hk,hr,hf,h,hd=>by simp[Wk.args]at h
 | .v _ _::_,.pt _ _::_,cs,k,k1,xs,bs,G1,hk,hr,hf,h,hd=>by simp[Wk.args]at h
 | .v _ _::_,.ep _ _ _ _ _::_,cs,k,k1,xs,bs,G1,hk,hr,hf,h,hd=>by simp[Wk.args]at h
 | .v _ _::_,.fp _ _ _ _::_,cs,k,k1,xs,bs,G1,hk,hr,hf,h,hd=>by simp[Wk.args]at h
 | .v _ _::_,.tp _::_,cs,k,k1,xs,bs,G1,hk,hr,hf,h,hd=>by simp[Wk.args]at h
 | .v _ _::_,.cl _ _::_,cs,k,k1,xs,bs,G1,hk,hr,hf,h,hd=>by simp[Wk.args]at h
 | .v _ _::_,.ob _ _::_,cs,k,k1,xs,bs,G1,hk,hr,hf,h,hd=>by simp[Wk.args]at h
 | .v _ _::_,.fz _ _::_,cs,k,k1,xs,bs,G1,hk,hr,hf,h,hd=>by simp[Wk.args]at h
 | .v _ _::_,.tk _ _::_,cs,k,k1,xs,bs,G1,hk,hr,hf,h,hd=>by simp[Wk.args]at h
 | .v _ _::_,.fl _::_,cs,k,k1,xs,bs,G1,hk,hr,hf,h,hd=>by simp[Wk.args]at h
 | .v _ _::_,.fr _::_,cs,k,k1,xs,bs,G1,hk,hr,hf,h,hd=>by simp[Wk.args]at h
 | .x _::_,.un::_,cs,k,k1,xs,bs,G1,hk,hr,hf,h,hd=>by simp[Wk.args]at h
 | .x _::_,.v _ _::_,cs,k,k1,xs,bs,G1,hk,hr,hf,h,hd=>by simp[Wk.args]at h
 | .x _::_,.ep _ _ _ _ _::_,cs,k,k1,xs,bs,G1,hk,hr,hf,h,hd=>by simp[Wk.args]at h
 | .x _::_,.fp _ _ _ _::_,cs,k,k1,xs,bs,G1,hk,hr,hf,h,hd=>by simp[Wk.args]at h
 | .x _::_,.tp _::_,cs,k,k1,xs,bs,G1,hk,hr,hf,h,hd=>by simp[Wk.args]at h
 | .x _::_,.cl _ _::_,cs,k,k1,xs,bs,G1,hk,hr,hf,h,hd=>by simp[Wk.args]at h
 | .x _::_,.ob _ _::_,cs,k,k1,xs,bs,G1,hk,hr,hf,h,hd=>by simp[Wk.args]at h
 | .x _::_,.fz _ _::_,cs,k,k1,xs,bs,G1,hk,hr,hf,h,hd=>by simp[Wk.args]at h
 | .x _::_,.tk _ _::_,cs,k,k1,xs,bs,G1,hk,hr,hf,h,hd=>by simp[Wk.args]at h
 | .x _::_,.fl _::_,cs,k,k1,xs,bs,G1,hk,hr,hf,h,hd=>by simp[Wk.args]at h
 | .x _::_,.fr _::_,cs,k,k1,xs,bs,G1,hk,hr,hf,h,hd=>by simp[Wk.args]at h
end
theorem Eh{W:St}{r:bn}{u:SV}(h:W.look r=some u):(r,u)∈W:=by
 induction W with
 |nil=>cases h
 |cons x W ih=>
  obtain⟨r',v⟩:=x
  rcases jI h with⟨rfl,rfl⟩|h
  ·exact List.mem_cons_self
  ·exact List.mem_cons_of_mem _ (ih h)
def ki:Nat->List Ck->List (Option Nat)->mL
 |i,.o _::ks,x::is=>(nx i,x)::ki (nx i+1) ks is
 |i,_::ks,_::is=>ki i ks is
 |_,_,_=>[]
theorem JD:∀{ks:List Ck} {is:List (Option Nat)} {i j:Nat} {x:Option Nat},(j,x)∈ki i ks is->i<=j∧x∈is
 | [],is,i,j,x,h=>by simp[ki]at h
 |_::_,[],i,j,x,h=>by simp[ki]at h
 | .o _::ks,y::is,i,j,x,h=>by
  simp only[ki,List.mem_cons,Prod.mk.injEq]at h
  have RG:=Iy i
  rcases h with⟨rfl,rfl⟩|h
  ·exact⟨RG,by simp⟩
  ·have:=JD h;exact⟨by omega,by simp[this.2]⟩
 | .s::ks,y::is,i,j,x,h=>by have:=JD (show(j,x)∈ki i ks is from h);exact⟨this.1,by simp[this.2]⟩
 | .p::ks,y::is,i,j,x,h=>by have:=JD (show(j,x)∈ki i ks is from h);exact⟨this.1,by simp[this.2]⟩
theorem Ei:∀{ks:List Ck} {is:List (Option Nat)} {i j:Nat} {x:Option Nat},(j,x)∈ki i ks is->ny (ki i ks is) j=some x
 | [],is,i,j,x,h=>by simp[ki]at h
 |_::_,[],i,j,x,h=>by simp[ki]at h
 | .o _::ks,y::is,i,j,x,h=>by
  simp only[ki,List.mem_cons,Prod.mk.injEq]at h
  rcases h with⟨rfl,rfl⟩|h
  ·simp[ki,ny]
  ·have h1:=(JD h).1
   have:Nat.beq (nx i) j=false:=by
    cases hb:Nat.beq (nx i) j with
    |false=>rfl
    |true=>have:=dN hb;omega
   simp only[ki,ny,this,cond_false]
   exact Ei h
 | .s::ks,y::is,i,j,x,h=>Ei (ks:=ks) (is:=is) h
 | .p::ks,y::is,i,j,x,h=>Ei (ks:=ks) (is:=is) h
theorem AS:∀{ks:List Ck} {is:List (Option Nat)} {i j k:Nat},(is.filterMap id).Nodup->(j,some k)∈ki i ks is->mW (ki i ks is) k=some j
 | [],is,i,j,k,_,h=>by simp[ki]at h
 |_::_,[],i,j,k,_,h=>by simp[ki]at h
 | .o _::ks,none::is,i,j,k,hn,h=>by
  simp only[ki,List.mem_cons,Prod.mk.injEq]at h
  rcases h with⟨_,h⟩|h
  ·cases h
  ·simp only[ki,mW];exact AS (by simpa using hn) h
 | .o _::ks,some y::is,i,j,k,hn,h=>by
  simp only[List.filterMap_cons_some (f:=id) (a:=some y) rfl,List.nodup_cons]at hn
  simp only[ki,List.mem_cons,Prod.mk.injEq]at h
  rcases h with⟨rfl,h⟩|h
  ·cases h;simp[ki,mW]
  ·have dk:Nat.beq y k=false:=by
    cases hb:Nat.beq y k with
    |false=>rfl
    |true=>
     have:=dN hb
     subst this
     exact absurd (show y∈is.filterMap id from List.mem_filterMap.2 ⟨some y,(JD h).2,rfl⟩) hn.1
   simp only[ki,mW,dk,cond_false]
   exact AS hn.2 h
 | .s::ks,y::is,i,j,k,hn,h=>by
  refine AS (ks:=ks) (is:=is) ?_ h
  cases y with
  |none=>simpa using hn
  |some y=>simp only[List.filterMap_cons_some (f:=id) (a:=some y) rfl,List.nodup_cons]at hn;exact hn.2
 | .p::ks,y::is,i,j,k,hn,h=>by
  refine AS (ks:=ks) (is:=is) ?_ h
  cases y with
  |none=>simpa using hn
  |some y=>simp only[List.filterMap_cons_some (f:=id) (a:=some y) rfl,List.nodup_cons]at hn;exact hn.2
theorem O7:∀{rn:mL} {k j:Nat},mW rn k=some j->(j,some k)∈rn
 | [],k,j,h=>by simp[mW]at h
 |(i,none)::rn,k,j,h=>List.mem_cons_of_mem _ (O7 (show mW rn k=some j from h))
 |(i,some y)::rn,k,j,h=>by
  simp only[mW]at h
  cases hb:Nat.beq y k with
  |true=>simp[hb]at h;subst h;rw[dN hb];exact List.mem_cons_self
  |false=>simp[hb]at h;exact List.mem_cons_of_mem _ (O7 h)
theorem O8:∀{rn:mL} {j:Nat} {x:Option Nat},ny rn j=some x->(j,x)∈rn
 | [],k,j,h=>by simp[ny]at h
 |(i,y)::rn,j,x,h=>by
  simp only[ny]at h
  cases hb:Nat.beq i j with
  |true=>simp[hb]at h;subst h;rw[dN hb];exact List.mem_cons_self
  |false=>simp[hb]at h;exact List.mem_cons_of_mem _ (O8 h)
def kP:Ck->Bool
 | .p| .o false=>true
 |_=>false
theorem eX.pQ{G G':Gh}{w:World}{id j:Nat}{t:T}(h:eX G w id false [] t)(gV:∀c,G.ω c=some (.o id [])->G'.ω c=some (.o j []))(hH:G'.H j []=G.H id [])
  (hn:∀b,G.q b=none->G'.q b=none):eX G' w j false [] t:=by
 cases h with
 |nil h=>exact .nil (by rw[hH];exact h)
 | @l _ _ xs b wd cap bT elem cv h1 h2 h3 h4 h5 h6 h7 h8 h9 nz wE=>
  exact .l (by rw[hH];exact h1) h2 (gV _ h3) h4 h5 h6 h7 h8 (λi j ys hy hd=>(h9 i j ys hy hd).aY (Nat.le_refl _) λb _ hb=>⟨hn b hb,rfl⟩) (λ_ _ _ _ hd=>by cases hd) λ_ _ _ _ hd=>by cases hd
section
variable {w':World} {ρ:List T} {G' G2:Gh}
theorem AU{rn:mL}(hH:∀j x,ny rn j=some x->G2.H j=match x with|some id=>G'.H id|none=>λ_=>.slice none 0 0)
  (gV:∀j id,mW rn id=some j->∀c r,G'.ω c=some (.o id r)->G2.ω c=some (.o j r)):
  ∀{ks:List Ck} {us:List Value} {ts:List T} {is:List (Option Nat)} {ct:Ct},bU G' w' ks us ts is->(∀j t,ts[j]?=some t->ρ[ct.a+j]?=some t)->
   (∀k∈ks,kP k=true->∀b,G'.q b=none->G2.q b=none)->(∀j x,(j,x)∈ki ct.i ks is->ny rn j=some x)->(∀j id,(j,some id)∈ki ct.i ks is->mW rn id=some j)->
   aX G2 w' ρ (fD ct ks).2.1 us∧(fD ct ks).1.a=ct.a+ts.length∧ct.i<=(fD ct ks).1.i∧(∀i∈dF (fD ct ks).2.1,ct.i<=i∧i<(fD ct ks).1.i)∧
   (∀j x,(j,x)∈ki ct.i ks is->j<(fD ct ks).1.i)∧
   ∀r u,(r,u)∈(fD ct ks).2.2->∃j,r=.o j∧ct.i<=j∧j<(fD ct ks).1.i∧cE G2 w' ρ j u∧de u=[]
 | [],[],[],[],ct,_,_,_,_,_=>⟨trivial,rfl,Nat.le_refl _,λi hi=>by simp[fD,dF]at hi,λj x h=>by simp[ki]at h,λr u h=>by simp[fD]at h⟩
 | .s::ks,u::us,t::ts,x::is,ct,h,mQ,hp,h1,h2=>by
  obtain⟨rfl,hd,hs,h⟩:=h
  obtain⟨g1,g2,g3,g4,g5,g6⟩:=AU hH gV (ct:=⟨ct.a+1,ct.i⟩) h (λj t' hj=>by have:=mQ (j+1) t' (by simpa using hj);rw[<-this];congr 1;show ct.a+1+j=_;omega) (λk hk=>hp k (by simp[hk])) h1 h2
  have h0:ρ[ct.a]?=some t:=mQ 0 t rfl
  obtain⟨v,rfl⟩:=xV hs
  obtain⟨rfl,hv⟩:=hd.scalar
  refine⟨⟨⟨.c u,h0,.c hv⟩,g1⟩,?_,g3,?_,g5,g6⟩
  ·simp only[fD,List.length_cons];rw[g2];show ct.a+1+_=_;omega
  ·intro i hi;simp only[fD,dF]at hi;exact g4 i hi
 | .p::ks,u::us,t::ts,x::is,ct,h,mQ,hp,h1,h2=>by
  obtain⟨rfl,hd,h⟩:=h
  obtain⟨g1,g2,g3,g4,g5,g6⟩:=AU hH gV (ct:=⟨ct.a+1,ct.i⟩) h (λj t' hj=>by have:=mQ (j+1) t' (by simpa using hj);rw[<-this];congr 1;show ct.a+1+j=_;omega) (λk hk=>hp k (by simp[hk])) h1 h2
  have h0:ρ[ct.a]?=some t:=mQ 0 t rfl
  refine⟨⟨⟨t,h0,hd.aY (Nat.le_refl _) λb _ hb=>⟨hp .p (by simp) rfl b hb,rfl⟩⟩,g1⟩,?_,g3,?_,g5,g6⟩
  ·simp only[fD,List.length_cons];rw[g2];show ct.a+1+_=_;omega
  ·intro i hi;simp only[fD,dF]at hi;exact g4 i hi
 | .o dp::ks,u::us,t::ts,none::is,ct,h,mQ,hp,h1,h2=>by
  obtain⟨rfl,rfl,h⟩:=h
  obtain⟨g1,g2,g3,g4,g5,g6⟩:=AU hH gV (ct:=⟨ct.a+1,nx ct.i+1⟩) h (λj t' hj=>by have:=mQ (j+1) t' (by simpa using hj);rw[<-this];congr 1;show ct.a+1+j=_;omega) (λk hk=>hp k (by simp[hk]))
   (λj x hj=>h1 j x (by simp[ki,hj])) (λj id hj=>h2 j id (by simp[ki,hj]))
  have h0:ρ[ct.a]?=some (.l []):=mQ 0 _ rfl
  have hr:=hH (nx ct.i) none (h1 (nx ct.i) none (by simp[ki]))
  simp only at hr
  have g3':nx ct.i+1<=(fD ⟨ct.a+1,nx ct.i+1⟩ ks).1.i:=g3
  have RG:=Iy ct.i
  refine⟨⟨⟨[],rfl,by rw[hr]⟩,g1⟩,?_,by simp only[fD];omega,?_,?_,?_⟩
  ·simp only[fD,List.length_cons];rw[g2];show ct.a+1+_=_;omega
  ·intro i hi
   simp only[fD,dF,List.mem_cons]at hi⊢
   rcases hi with rfl|hi
   ·omega
   ·have:=g4 i hi
    have h3:nx ct.i+1<=i:=this.1
    omega
  ·intro j x hj
   simp only[ki,List.mem_cons,Prod.mk.injEq]at hj
   simp only[fD]
   rcases hj with⟨rfl,_⟩|hj
   ·omega
   ·exact g5 j x hj
  ·intro r u' qu
   simp only[fD,List.mem_cons,Prod.mk.injEq]at qu⊢
   rcases qu with⟨rfl,rfl⟩|qu
   ·exact⟨nx ct.i,rfl,RG,by omega,⟨.l [],h0,.nil (by rw[hr])⟩,rfl⟩
   ·obtain⟨j,e1,e2,e3,e4,e5⟩:=g6 r u' qu
    have e2':nx ct.i+1<=j:=e2
    exact⟨j,e1,by omega,e3,e4,e5⟩
 | .o dp::ks,u::us,t::ts,some id::is,ct,h,mQ,hp,h1,h2=>by
  obtain⟨rfl,bI,h⟩:=h
  obtain⟨g1,g2,g3,g4,g5,g6⟩:=AU hH gV (ct:=⟨ct.a+1,nx ct.i+1⟩) h (λj t' hj=>by have:=mQ (j+1) t' (by simpa using hj);rw[<-this];congr 1;show ct.a+1+j=_;omega) (λk hk=>hp k (by simp[hk]))
   (λj x hj=>h1 j x (by simp[ki,hj])) (λj id hj=>h2 j id (by simp[ki,hj]))
  have h0:ρ[ct.a]?=some t:=mQ 0 _ rfl
  have hr:=hH (nx ct.i) (some id) (h1 (nx ct.i) (some id) (by simp[ki]))
  simp only at hr
  have ht:=gV (nx ct.i) id (h2 (nx ct.i) id (by simp[ki]))
  have g3':nx ct.i+1<=(fD ⟨ct.a+1,nx ct.i+1⟩ ks).1.i:=g3
  have RG:=Iy ct.i
  refine⟨⟨⟨[],rfl,by rw[hr]⟩,g1⟩,?_,by simp only[fD];omega,?_,?_,?_⟩
  ·simp only[fD,List.length_cons];rw[g2];show ct.a+1+_=_;omega
  ·intro i hi
   simp only[fD,dF,List.mem_cons]at hi⊢
   rcases hi with rfl|hi
   ·omega
   ·have:=g4 i hi
    have h3:nx ct.i+1<=i:=this.1
    omega
  ·intro j x hj
   simp only[ki,List.mem_cons,Prod.mk.injEq]at hj
   simp only[fD]
   rcases hj with⟨rfl,_⟩|hj
   ·omega
   ·exact g5 j x hj
  ·intro r u' qu
   simp only[fD,List.mem_cons,Prod.mk.injEq]at qu⊢
   rcases qu with⟨rfl,rfl⟩|qu
   ·refine⟨nx ct.i,rfl,RG,by omega,⟨t,h0,?_⟩,rfl⟩
    cases dp with
    |true=>exact bI.move rfl (λc r hc=>⟨ht c r hc,rfl⟩) λr=>by rw[hr]
    |false=>exact bI.pQ (λc hc=>ht c [] hc) (by rw[hr]) (hp (.o false) (by simp) rfl)
   ·obtain⟨j,e1,e2,e3,e4,e5⟩:=g6 r u' qu
    have e2':nx ct.i+1<=j:=e2
    exact⟨j,e1,by omega,e3,e4,e5⟩
 | [],_::_,_,_,ct,h,_,_,_,_=>by simp[bU]at h
 | [],[],_::_,_,ct,h,_,_,_,_=>by simp[bU]at h
 | [],[],[],_::_,ct,h,_,_,_,_=>by simp[bU]at h
 |k::_,[],_,_,ct,h,_,_,_,_=>by cases k<;>simp[bU]at h
 |k::_,_::_,[],_,ct,h,_,_,_,_=>by cases k<;>simp[bU]at h
 |k::_,_::_,_::_,[],ct,h,_,_,_,_=>by cases k<;>simp[bU]at h
theorem O9:∀(k1 k2:List Ck) (ct:Ct),fD ct (k1++k2)=((fD (fD ct k1).1 k2).1,(fD ct k1).2.1++(fD (fD ct k1).1 k2).2.1,(fD ct k1).2.2++(fD (fD ct k1).1 k2).2.2)
 | [],k2,ct=>by simp[fD]
 | .o dp::k1,k2,ct=>by simp[fD,O9 k1 k2]
 | .s::k1,k2,ct=>by simp[fD,O9 k1 k2]
 | .p::k1,k2,ct=>by simp[fD,O9 k1 k2]
def mm:List (Bool×List Ck)->List Ck
 | []=>[]
 |r::rs=>r.2++mm rs
theorem RH:∀(rs:List (Bool×List Ck)) (ct:Ct),(nK ct rs).1=(fD ct (mm rs)).1∧(nK ct rs).2.2=(fD ct (mm rs)).2.2
 | [],ct=>⟨rfl,rfl⟩
 |r::rs,ct=>by
  obtain⟨h1,h2⟩:=RH rs (fD ct r.2).1
  simp only[nK,mm,O9]
  exact⟨h1,by rw[h2]⟩
theorem aX.split{G:Gh}{w:World}:∀{c1 c2:List Ce} {v1 v2:List Value},c1.length=v1.length->aX G w ρ (c1++c2) (v1++v2)->aX G w ρ c1 v1∧aX G w ρ c2 v2
 | [],_,[],_,_,h=>⟨trivial,h⟩
 | [],_,_::_,_,h,_=>by simp at h
 |_::_,_,[],_,h,_=>by simp at h
 |c::c1,_,v::v1,_,h,hr=>by
  obtain⟨h1,h2⟩:=aX.split (by simpa using h) hr.2
  exact⟨⟨hr.1,h1⟩,h2⟩
theorem RI:∀(ks:List Ck) (ct:Ct),(fD ct ks).2.1.length=ks.length
 | [],ct=>rfl
 | .o dp::ks,ct=>by simp[fD,RI ks]
 | .s::ks,ct=>by simp[fD,RI ks]
 | .p::ks,ct=>by simp[fD,RI ks]
theorem bU.len:∀{ks:List Ck} {us:List Value} {ts:List T} {is:List (Option Nat)},bU G' w' ks us ts is->us.length=ks.length∧ts.length=ks.length∧is.length=ks.length
 | [],[],[],[],_=>⟨rfl,rfl,rfl⟩
 | .s::ks,_::us,_::ts,x::is,h=>by have:=bU.len h.2.2.2;simp[this]
 | .p::ks,_::us,_::ts,x::is,h=>by have:=bU.len h.2.2;simp[this]
 | .o _::ks,_::us,_::ts,none::is,h=>by have:=bU.len h.2.2;simp[this]
 | .o _::ks,_::us,_::ts,some _::is,h=>by have:=bU.len h.2.2;simp[this]
 | [],_::_,_,_,h=>by simp[bU]at h
 | [],[],_::_,_,h=>by simp[bU]at h
 | [],[],[],_::_,h=>by simp[bU]at h
 |k::_,[],_,_,h=>by cases k<;>simp[bU]at h
 |k::_,_::_,[],_,h=>by cases k<;>simp[bU]at h
 |k::_,_::_,_::_,[],h=>by cases k<;>simp[bU]at h
theorem bU.append:∀{k1:List Ck} {u1:List Value} {t1:List T} {i1:List (Option Nat)} {k2:List Ck} {u2:List Value} {t2:List T} {i2:List (Option Nat)},bU G' w' k1 u1 t1 i1->bU G' w' k2 u2 t2 i2->
  bU G' w' (k1++k2) (u1++u2) (t1++t2) (i1++i2)
 | [],[],[],[],_,_,_,_,_,h=>h
 | .s::ks,_::us,_::ts,x::is,_,_,_,_,h,h'=>⟨h.1,h.2.1,h.2.2.1,bU.append h.2.2.2 h'⟩
 | .p::ks,_::us,_::ts,x::is,_,_,_,_,h,h'=>⟨h.1,h.2.1,bU.append h.2.2 h'⟩
 | .o _::ks,_::us,_::ts,none::is,_,_,_,_,h,h'=>⟨h.1,h.2.1,bU.append h.2.2 h'⟩
 | .o _::ks,_::us,_::ts,some _::is,_,_,_,_,h,h'=>⟨h.1,h.2.1,bU.append h.2.2 h'⟩
 | [],_::_,_,_,_,_,_,_,h,_=>by simp[bU]at h
 | [],[],_::_,_,_,_,_,_,h,_=>by simp[bU]at h
 | [],[],[],_::_,_,_,_,_,h,_=>by simp[bU]at h
 |k::_,[],_,_,_,_,_,_,h,_=>by cases k<;>simp[bU]at h
 |k::_,_::_,[],_,_,_,_,_,h,_=>by cases k<;>simp[bU]at h
 |k::_,_::_,_::_,[],_,_,_,_,h,_=>by cases k<;>simp[bU]at h
theorem RJ:∀{rs:List (Bool×List Ck)} {vs:List Value} {ts:List T} {is:List (Option Nat)},iO G' w' rs vs ts is->
  ∃us:List Value,bU G' w' (mm rs) us ts is∧∀(G2:Gh) (w2:World) (ct:Ct),aX G2 w2 ρ (fD ct (mm rs)).2.1 us->gn G2 w2 ρ (nK ct rs).2.1 vs
 | [],[],[],[],_=>⟨[],trivial,λ_ _ _ _=>trivial⟩
 |r::rs,v::vs,ts,is,h=>by
  obtain⟨t1,t2,i1,i2,rfl,rfl,h1,h2⟩:=h
  obtain⟨us,g1,g2⟩:=RJ h2
  obtain⟨ag,ks⟩:=r
  have key:∀u1:List Value,bU G' w' ks u1 t1 i1->(∀(G2:Gh) (w2:World) (cs:List Ce),aX G2 w2 ρ cs u1->cs.length=ks.length->eY G2 w2 ρ ag cs v)->
    ∃us:List Value,bU G' w' (mm ((ag,ks)::rs)) us (t1++t2) (i1++i2)∧∀(G2:Gh) (w2:World) (ct:Ct),aX G2 w2 ρ (fD ct (mm ((ag,ks)::rs))).2.1 us->gn G2 w2 ρ (nK ct ((ag,ks)::rs)).2.1 (v::vs):=by
   intro u1 hu hv
   refine⟨u1++us,hu.append g1,λG2 w2 ct hr=>?_⟩
   simp only[mm,O9]at hr
   obtain⟨r1,r2⟩:=aX.split (by rw[RI,(bU.len hu).1]) hr
   exact⟨hv G2 w2 _ r1 (RI _ _),g2 G2 w2 _ r2⟩
  cases ag with
  |true=>
   obtain⟨u1,rfl,hu⟩:=h1
   exact key u1 hu λG2 w2 cs hr _=>⟨u1,rfl,hr⟩
  |false=>
   obtain⟨hu,DX⟩:=h1
   refine key [v] hu λG2 w2 cs hr hl=>?_
   have:=(bU.len hu).1
   rw[<-this]at hl
   match cs,hl with
   | [c],_=>exact⟨c,rfl,hr.1,DX⟩
 | [],[],_::_,_,h=>h.elim
 | [],[],[],_::_,h=>h.elim
 | [],_::_,_,_,h=>h.elim
 |_::_,[],_,_,h=>h.elim
def gO:Nat->List PS->List (Nat×Bool×Nat)->List (Nat×Nat)
 |i,.v _ _::ps,bs=>gO (i+1) ps bs
 |i,.x _::ps,b::bs=>(i,b.1)::gO (i+1) ps bs
 |_,_,_=>[]
def tK:List (Nat×Bool×Nat)->Nat
 | []=>0
 |b::bs=>b.2.2+tK bs
theorem RK:∀(bs:List (Nat×Bool×Nat)) (a:Nat),(s6 a bs).1=a+tK bs
 | [],a=>rfl
 |b::bs,a=>by obtain⟨bx,ag,n⟩:=b;simp only[s6,tK,RK bs];omega
theorem Ej{w:World}{G:Gh}:∀{n a:Nat} {ts:List T} {vs:List Value},ts.length=n->ew G.q w ts vs->(∀j t,ts[j]?=some t->ρ[a+j]?=some t)->aX G w ρ (CJ a n) vs∧dF (CJ a n)=[]
 |0,a,[],[],_,_,_=>⟨trivial,rfl⟩
 |0,a,[],_::_,_,h,_=>h.elim
 |0,a,_::_,_,h,_,_=>by simp at h
 |n+1,a,[],_,h,_,_=>by simp at h
 |n+1,a,_::_,[],_,h,_=>h.elim
 |n+1,a,t::ts,v::vs,hl,h,mQ=>by
  obtain⟨g1,g2⟩:=Ej (a:=a+1) (by simpa using hl) h.2 (λj t' hj=>by have:=mQ (j+1) t' (by simpa using hj);rw[<-this];congr 1;omega)
  exact⟨⟨⟨t,mQ 0 t rfl,h.1⟩,g1⟩,by simp[CJ,dF,g2]⟩
theorem JE{bl:Nat->Option Nat}(hn:∀b,G'.q b=none->G2.q b=none){G1:Gh}{w:World}{pl:Bool}:
  ∀{ps:List PS} {args:List Value} {xs:List Lf} {bs:List (Nat×Bool×Nat)} {i a:Nat} {ts:List T},tI G1 w ρ pl ps args xs bs->ib G' w' bl i ps ts->(∀j t,ts[j]?=some t->ρ[a+j]?=some t)->
   (∀j bx,(j,bx)∈gO i ps bs->bl j=some (G2.β bx)∧G2.ω (G2.β bx)=some (.x bx))->
   ts.length=tK bs∧∀r u,(r,u)∈(s6 a bs).2->∃j bx,(j,bx)∈gO i ps bs∧r=.x bx∧fP G2 w' ρ bx u∧de u=[]
 | [],args,xs,bs,i,a,ts,hA,hB,mQ,hp=>by
  obtain⟨_,_,rfl⟩:=hA
  cases hB
  exact⟨rfl,λr u h=>by simp[s6]at h⟩
 | .v ag n::ps,args,xs,bs,i,a,ts,hA,hB,mQ,hp=>by
  obtain⟨c,eR,vs,x1,x2,_,_,_,_,_,_,hA⟩:=hA
  exact JE (ps:=ps) (i:=i+1) hn hA hB mQ hp
 | .x n::ps,args,xs,bs,i,a,ts,hA,hB,mQ,hp=>by
  obtain⟨c,eR,bx,ag,xZ,afU,RL,x1,x2,_,rfl,_,_,_,_,_,_,hA⟩:=hA
  obtain⟨b,bT,elem,t1,t2,hb,gV,hh,rfl,hl,hd,hB⟩:=hB
  obtain⟨q1,q2⟩:=hp i bx (by simp[gO])
  rw[hb]at q1
  cases q1
  obtain⟨g1,g2⟩:=JE hn (a:=a+n) hA hB (λj t hj=>by
   have:=mQ (n+j) t (by rw[List.getElem?_append_right (by omega)];rw[hl];simpa using hj)
   rw[<-this];congr 1;omega) (λj bx hj=>hp j bx (by simp[gO,hj]))
  obtain⟨g3,g4⟩:=Ej (a:=a) (G:=G2) (w:=w') hl (hd.aY (Nat.le_refl _) λb _ hb=>⟨hn b hb,rfl⟩) (λj t hj=>mQ j t (by rw[List.getElem?_append_left (List.getElem?_eq_some_iff.1 hj).1];exact hj))
  refine⟨by simp[tK,hl,g1],λr u qu=>?_⟩
  simp only[s6,List.mem_cons,Prod.mk.injEq]at qu
  rcases qu with⟨rfl,rfl⟩|qu
  ·exact⟨i,bx,by simp[gO],rfl,⟨q2,bT,elem,hh,g3⟩,g4⟩
  ·obtain⟨j,wP,e1,e2⟩:=g2 r u qu
   exact⟨j,wP,by simp[gO,e1],e2⟩
end
def fF(P:Program)(g:FuncId):Prop:=∃fn,P.funcs[g]?=some fn∧(fn.name== "runtime.NumGoroutine")=false∧fn.body.isNone=false
theorem RM{P:Program}{w:World}{g:FuncId}(h:fF P g)(args:Array Value):(callFunc g args).run P w=.ok (.enter g args) w:=by
 obtain⟨fn,h1,h2,h3⟩:=h
 simp only[callFunc,Sem.run_bind,run_program,Result.andThen_ok,h1,h2,h3,dS,if_false,Sem.run_pure]
section
variable {M:Nat->Prop} {B:eI} {d:Nat} {up:Nat->Nat->Value} {ρ:List T} {G:Gh} {a:Act} {w:World} {S:Nat->af} {P:Program}
variable {cx:Cx} {cC eW oi:Nat} {s:St} {R:List bn} {ct:Ct} {k':Wk} {o:Oper} {Q:Exit->Act->World->Prop}
theorem JF:∀{l:List Nat},vg l=true->l.Nodup
 | [],_=>List.nodup_nil
 |x::xs,h=>by
  simp only[vg,bk,Bool.not_eq_true']at h
  refine List.nodup_cons.2 ⟨λhm=>?_,JF h.2⟩
  have:=h.1
  rw[List.any_eq_false]at this
  exact this x hm (by simp)
theorem AV:∀{ps:List PS} {bs:List (Nat×Bool×Nat)} {i j bx:Nat},(j,bx)∈gO i ps bs->i<=j∧j<i+ps.length
 | [],bs,i,j,bx,h=>by simp[gO]at h
 | .v _ _::ps,bs,i,j,bx,h=>by have:=AV (show(j,bx)∈gO (i+1) ps bs from h);simp only[List.length_cons];omega
 | .x _::ps,[],i,j,bx,h=>by simp[gO]at h
 | .x _::ps,b::bs,i,j,bx,h=>by
  simp only[gO,List.mem_cons,Prod.mk.injEq]at h
  simp only[List.length_cons]
  rcases h with⟨rfl,_⟩|h
  ·omega
  ·have:=AV h;omega
theorem AW:∀{ps:List PS} {bs:List (Nat×Bool×Nat)} {i j bx:Nat},(j,bx)∈gO i ps bs->bx∈bs.map (·.1)
 | [],bs,i,j,bx,h=>by simp[gO]at h
 | .v _ _::ps,bs,i,j,bx,h=>AW (show(j,bx)∈gO (i+1) ps bs from h)
 | .x _::ps,[],i,j,bx,h=>by simp[gO]at h
 | .x _::ps,b::bs,i,j,bx,h=>by
  simp only[gO,List.mem_cons,Prod.mk.injEq]at h
  rcases h with⟨_,rfl⟩|h
  ·simp
  ·have:=AW h;simp only[List.map_cons,List.mem_cons];exact .inr this
theorem JG:∀{ps:List PS} {bs:List (Nat×Bool×Nat)} {i:Nat},(bs.map (·.1)).Nodup->
  (∀j bx wP,(j,bx)∈gO i ps bs->(j,wP)∈gO i ps bs->bx=wP)∧(∀j j' bx,(j,bx)∈gO i ps bs->(j',bx)∈gO i ps bs->j=j')
 | [],bs,i,_=>⟨λ_ _ _ h=>by simp[gO]at h,λ_ _ _ h=>by simp[gO]at h⟩
 | .v _ _::ps,bs,i,hn=>JG (ps:=ps) (i:=i+1) hn
 | .x _::ps,[],i,_=>⟨λ_ _ _ h=>by simp[gO]at h,λ_ _ _ h=>by simp[gO]at h⟩
 | .x _::ps,b::bs,i,hn=>by
  simp only[List.map_cons,List.nodup_cons]at hn
  obtain⟨g1,g2⟩:=JG (ps:=ps) (i:=i+1) hn.2
  constructor
  ·intro j bx wP h h'
   simp only[gO,List.mem_cons,Prod.mk.injEq]at h h'
   rcases h with⟨rfl,rfl⟩|h<;>rcases h' with⟨h1,rfl⟩|h'
   ·rfl
   ·have:=AV h';omega
   ·have:=AV h;omega
   ·exact g1 j bx wP h h'
  ·intro j j' bx h h'
   simp only[gO,List.mem_cons,Prod.mk.injEq]at h h'
   rcases h with⟨rfl,rfl⟩|h<;>rcases h' with⟨h1,h2⟩|h'
   ·exact h1.symm
   ·exact absurd (AW h') hn.1
   ·subst h2;exact absurd (AW h) hn.1
   ·exact g2 j j' bx h h'
def tL(β:Nat->Nat)(pr:List (Nat×Nat))(j:Nat):Option Nat:=(pr.find? λp=>p.1==j).map λp=>β p.2
def yf(pr:List (Nat×Nat))(bx:Nat):Option Nat:=(pr.find? λp=>p.2==bx).map (·.1)
theorem AX{β:Nat->Nat}{pr:List (Nat×Nat)}{j b:Nat}(h:tL β pr j=some b):∃bx,(j,bx)∈pr∧b=β bx:=by
 unfold tL at h
 cases hf:pr.find? (λp=>p.1==j)with
 |none=>simp[hf]at h
 |some p=>
  simp[hf]at h
  have h1:=List.mem_of_find?_eq_some hf
  have h2:=List.find?_some hf
  simp at h2
  exact⟨p.2,by rw[<-h2];exact h1,h.symm⟩
theorem afV{β:Nat->Nat}{pr:List (Nat×Nat)}{j bx:Nat}(hi:∀j bx wP,(j,bx)∈pr->(j,wP)∈pr->bx=wP)(h:(j,bx)∈pr):tL β pr j=some (β bx):=by
 cases hf:tL β pr j with
 |none=>
  unfold tL at hf
  simp only[Option.map_eq_none_iff,List.find?_eq_none]at hf
  exact absurd (by simp) (hf _ h)
 |some b=>
  obtain⟨wP,h1,rfl⟩:=AX hf
  rw[hi j bx wP h h1]
theorem RN{pr:List (Nat×Nat)}{bx j:Nat}(h:yf pr bx=some j):(j,bx)∈pr:=by
 unfold yf at h
 cases hf:pr.find? (λp=>p.2==bx)with
 |none=>simp[hf]at h
 |some p=>
  simp[hf]at h
  have h1:=List.mem_of_find?_eq_some hf
  have h2:=List.find?_some hf
  simp at h2
  rw[<-h,<-h2];exact h1
theorem afW{pr:List (Nat×Nat)}{j bx:Nat}(hi:∀j j' bx,(j,bx)∈pr->(j',bx)∈pr->j=j')(h:(j,bx)∈pr):yf pr bx=some j:=by
 cases hf:yf pr bx with
 |none=>
  unfold yf at hf
  simp only[Option.map_eq_none_iff,List.find?_eq_none]at hf
  exact absurd (by simp) (hf _ h)
 |some j'=>rw[hi j j' bx h (RN hf)]
theorem qx{G:Gh}{b bx:Nat}(h:G.ω b=some (.x bx)):G.q b=some (.x bx):=Aa h rfl
def sH(pl:Bool)(G:Gh)(pr:List (Nat×Nat))(b:Nat):Option Lb:=
 match G.q b with
 |none=>none
 |some .f=>some .f
 |some (.o _ _)=>if pl then some .f else none
 |some (.x bx)=>if b=G.β bx then(match yf pr bx with|some j=>some (.x j)|none=>some .f)else some .f
theorem afX{pl:Bool}{pr:List (Nat×Nat)}{b:Nat}(h:(if pl then G.q b else er G.ω b)=none):sH pl G pr b=none:=by
 unfold sH
 cases hg:G.q b with
 |none=>rfl
 |some l=>
  cases pl with
  |true=>simp[hg]at h
  |false=>
   have QE:=IL hg
   cases l<;>simp[er,QE]at h⊢
theorem JH{pl:Bool}{ωc:Nat->Option Lb}{bl:Nat->Option Nat}(gV:∀b,(if pl then G.q b else er G.ω b)=none->ωc b=none):
  ∀{ps:List PS} {args:List Value} {xs:List Lf} {bs:List (Nat×Bool×Nat)} {i:Nat},tI G w ρ pl ps args xs bs->(∀j bx,(j,bx)∈gO i ps bs->bl j=some (G.β bx)∧ωc (G.β bx)=some (.x j))->
   ye ωc w bl i ps args (xs.map (Lf.ev ρ))∧∀j bx,(j,bx)∈gO i ps bs->G.ω (G.β bx)=some (.x bx)
 | [],args,xs,bs,i,h,_=>by
  obtain⟨rfl,rfl,rfl⟩:=h
  exact⟨⟨rfl,rfl⟩,λj bx h=>by simp[gO]at h⟩
 | .v ag n::ps,args,xs,bs,i,h,hp=>by
  obtain⟨c,eR,vs,x1,x2,rfl,rfl,hl,nB,fx,oB,h⟩:=h
  obtain⟨g1,g2⟩:=JH gV h (i:=i+1) hp
  refine⟨⟨c,eR,vs,_,_,rfl,List.map_append,by rw[List.length_map];exact hl,nB,?_,g1⟩,g2⟩
  cases pl with
  |true=>exact(oB rfl).aY (Nat.le_refl _) λb _ hb=>⟨gV b (by simpa using hb),rfl⟩
  |false=>exact fx.aY (Nat.le_refl _) λb _ hb=>⟨gV b (by simpa using hb),rfl⟩
 | .x n::ps,args,xs,bs,i,h,hp=>by
  obtain⟨c,eR,bx,ag,xZ,bT,elem,x1,x2,rfl,rfl,hc,hb,hh,rfl,hl,hd,h⟩:=h
  obtain⟨g1,g2⟩:=JH gV h (i:=i+1) λj bx hj=>hp j bx (by simp[gO,hj])
  obtain⟨q1,q2⟩:=hp i bx (by simp[gO])
  refine⟨⟨c,eR,G.β bx,bT,elem,_,_,rfl,hc,q1,q2,hh,List.map_append,by rw[List.length_map];exact hl,?_,g1⟩,λj wP hj=>?_⟩
  ·refine hd.aY (Nat.le_refl _) λb _ jz=>⟨gV b ?_,rfl⟩
   cases pl with
   |true=>simpa using jz
   |false=>simpa using Qo jz
  ·simp only[gO,List.mem_cons,Prod.mk.injEq]at hj
   rcases hj with⟨_,rfl⟩|hj
   ·exact hb
   ·exact g2 j wP hj
theorem JI{pl:Bool}:∀{ps:List PS} {args:List Value} {xs:List Lf} {bs:List (Nat×Bool×Nat)} {i:Nat},tI G w ρ pl ps args xs bs->∀j bx,(j,bx)∈gO i ps bs->G.ω (G.β bx)=some (.x bx)
 | [],args,xs,bs,i,h,j,bx,hj=>by simp[gO]at hj
 | .v ag n::ps,args,xs,bs,i,h,j,bx,hj=>by
  obtain⟨c,eR,vs,x1,x2,rfl,rfl,hl,nB,fx,oB,h⟩:=h
  exact JI (ps:=ps) (i:=i+1) h j bx hj
 | .x n::ps,args,xs,bs,i,h,j,bx,hj=>by
  obtain⟨c,eR,wP,ag,xZ,bT,elem,x1,x2,rfl,rfl,hc,hb,hh,rfl,hl,hd,h⟩:=h
  simp only[gO,List.mem_cons,Prod.mk.injEq]at hj
  rcases hj with⟨_,rfl⟩|hj
  ·exact hb
  ·exact JI (ps:=ps) (i:=i+1) h j bx hj
def Gh.call(G G':Gh)(sz:Nat)(rn:mL):Gh where
 ω:=λb=>if b<sz then G.ω b else match G'.ω b with
  |some (.o id p)=>(mW rn id).map λj=>.o j p
  |_=>none
 β:=G.β
 H:=λj=>match ny rn j with
  |some (some id)=>G'.H id
  |some none=>λ_=>.slice none 0 0
  |none=>G.H j
 hs:=λj p=>by
  rcases hr:ny rn j with _|(_|id)
  ·exact G.hs j p
  ·exact⟨_,_,_,rfl⟩
  ·exact G'.hs _ p
theorem RO{sg:nw}(h:pC sg=false):(∀k∈mm sg.rs,kP k=false)∧∀p∈sg.ps,∀n,p≠.x n:=by
 simp only[pC,Bool.or_eq_false_iff]at h
 obtain⟨h1,h2⟩:=h
 constructor
 ·generalize sg.rs=rs at h1
  induction rs with
  |nil=>intro k hk;simp[mm]at hk
  |cons r rs ih=>
   simp only[List.any_cons,Bool.or_eq_false_iff]at h1
   intro k hk
   simp only[mm,List.mem_append]at hk
   rcases hk with hk|hk
   ·have:=List.any_eq_false.1 h1.1 k hk
    cases k with
    |s=>rfl
    |p=>simp at this
    |o dp=>cases dp<;>simp at this⊢;rfl
   ·exact ih h1.2 k hk
 ·intro p hp n he
  subst he
  have:=List.any_eq_false.1 h2 _ hp
  simp at this
theorem RP{pl:Bool}:∀{ps:List PS} {args:List Value} {xs:List Lf} {bs:List (Nat×Bool×Nat)},(∀p∈ps,∀n,p≠.x n)->tI G w ρ pl ps args xs bs->bs=[]
 | [],_,_,_,_,h=>h.2.2
 | .v _ _::ps,args,xs,bs,hp,h=>by
  obtain⟨c,eR,vs,x1,x2,_,_,_,_,_,_,h⟩:=h
  exact RP (λp rR=>hp p (by simp[rR])) h
 | .x n::ps,args,xs,bs,hp,h=>absurd rfl (hp (.x n) (by simp) n)
theorem JJ{pl:Bool}{G':Gh}{w':World}{bl:Nat->Option Nat}:∀{ps:List PS} {args:List Value} {xs:List Lf} {bs:List (Nat×Bool×Nat)} {i:Nat} {ts:List T},tI G w ρ pl ps args xs bs->ib G' w' bl i ps ts->ts.length=tK bs
 | [],args,xs,bs,i,ts,hA,hB=>by
  obtain⟨_,_,rfl⟩:=hA
  cases hB
  rfl
 | .v _ _::ps,args,xs,bs,i,ts,hA,hB=>by
  obtain⟨c,eR,vs,x1,x2,_,_,_,_,_,_,hA⟩:=hA
  exact JJ (ps:=ps) (i:=i+1) hA hB
 | .x n::ps,args,xs,bs,i,ts,hA,hB=>by
  obtain⟨c,eR,bx,ag,xZ,afU,RL,x1,x2,_,rfl,_,_,_,_,_,_,hA⟩:=hA
  obtain⟨b,bT,elem,t1,t2,hb,gV,hh,rfl,hl,hd,hB⟩:=hB
  have:=JJ hA hB
  simp[tK,hl,this]
theorem Ek:∀(ks:List Ck) (ct:Ct),(fD ct ks).1.a=ct.a+ks.length
 | [],ct=>rfl
 | .o dp::ks,ct=>by simp only[fD,Ek ks,List.length_cons];omega
 | .s::ks,ct=>by simp only[fD,Ek ks,List.length_cons];omega
 | .p::ks,ct=>by simp only[fD,Ek ks,List.length_cons];omega
theorem RQ:∀{bs:List (Nat×Bool×Nat)} {a bx:Nat},bx∈bs.map (·.1)->(s6 a bs).2.look (.x bx)≠none
 | [],a,bx,h=>by simp at h
 |b::bs,a,bx,h=>by
  obtain⟨b0,ag,n⟩:=b
  simp only[s6,St.look]
  cases hb:(bn.x b0).beq (.x bx)with
  |true=>simp
  |false=>
   simp only[List.map_cons,List.mem_cons]at h
   rcases h with rfl|h
   ·simp[bn.beq]at hb
   ·exact RQ h
theorem afZ{G':Gh}{w':World}{rs:List (Bool×List Ck)}{v:Value}{ts:List T}{is:List (Option Nat)}(h:JB G' w' rs v ts is):∃vs:List Value,iO G' w' rs vs ts is∧
  ∀(G2:Gh) (w2:World) (ct:Ct),gn G2 w2 ρ (nK ct rs).2.1 vs->cD G2 w2 ρ (s7 (nK ct rs).2.1) v:=by
 match rs,h with
 | [],h=>obtain⟨rfl,rfl⟩:=h;exact⟨[],trivial,λ_ _ _ _=>trivial⟩
 | [r],h=>exact⟨[v],h,λG2 w2 ct hr=>hr.1⟩
 |r::r'::rs,h=>
  obtain⟨vs,hv,h'⟩:=h
  exact⟨vs,h',λG2 w2 ct hr=>⟨vs,hv,hr⟩⟩
theorem RR:∀(rs:List (Bool×List Ck)) (ct:Ct),ry (nK ct rs).2.1=dF (fD ct (mm rs)).2.1
 | [],ct=>rfl
 |r::rs,ct=>by
  simp only[nK,mm,O9,ry,I3]
  rw[RR rs]
theorem af0(vs:List (Bool×List Ce)):∀i∈de (s7 vs),i∈ry vs:=by
 intro i hi
 match vs,hi with
 | [],hi=>simp[s7,de]at hi
 | [v],hi=>simpa[s7,de,ry]using hi
 |v::v'::vs,hi=>exact hi
theorem af1(h:Rel M B d up s ρ G a w)(hn:∀n,o.dst=some n->n<a.tmps.size){c:Call}{g:Nat}(ho:o.op=.call c)(hc:c.callee=.value (.func g))(hg:fF P g)
  {sg:nw}(hsg:cx.sg g=some sg)(hC:Eg P sg g (S g))(hk:iI cx cC eW d o oi ⟨s.only R,[],ct,[]⟩=some k')(hd:k'.bA S ρ)(hM:∀i,ct.i<=i->i<k'.ct.i->¬M i):
  bJ P (Mn M ct.i k'.ct.i) B d up ρ a w s o k'.w Q:=by
 have hw:=dh.start h R ct
 simp only[iI,ho,hc,hsg,Option.bind_some]at hk
 unfold Qe at hk
 simp only[cG]at hk
 obtain⟨k1,ya,⟨k2,xs,bs⟩,eZ,hk⟩:=hk
 cases CX:vg (bs.map (·.1))with
 |false=>simp[CX]at hk
 |true=>
  simp only[CX,cond_true,br]at hk
  have af2:=JF CX
  have JK:∀G1,ic G G1->cP G1 w ρ (c.args.toList.map λx=>ch d (Wk.get ⟨s.only R,[],ct,[]⟩) x) (c.args.toList.map a.eval):=by
   intro G1 hl
   generalize c.args.toList=l
   induction l with
   |nil=>trivial
   |cons x l ih=>exact⟨(hw.iy x).1.aY (hl.aY w) λ_ _ hf=>hf,ih⟩
  obtain⟨pl,D0⟩:∃pl,pl=pC sg:=⟨_,rfl⟩
  obtain⟨G1,w1,l1,i1,sE,hD1⟩:∃G1,dh M B d up ρ G a w k1 G1∧ic G G1∧k1.ct=ct∧(pl=true->Aq k1 (ve (c.args.toList.map λx=>ch d (Wk.get ⟨s.only R,[],ct,[]⟩) x)))∧k1.is=[]:=by
   cases hp:pC sg with
   |false=>
    rw[hp]at ya
    simp only[cond_false,br]at ya
    subst ya
    exact⟨G,hw,.refl _,rfl,(λhe=>by rw[D0,hp]at he;cases he),rfl⟩
   |true=>
    rw[hp]at ya
    simp only[cond_true]at ya
    obtain⟨G1,q1,q2⟩:=hw.nR ya
    obtain⟨_,_,_,_,q3,q4,q5,_⟩:=hw.et ya
    exact⟨G1,q1,q2,q3,λ_=>q5,q4⟩
  have RF:bA S ρ k'.ct.a k'.is:=hd
  rw[<-hk]at RF
  simp only at RF
  obtain⟨n0,outs,e1,hS,bE,oB⟩:=RF
  obtain⟨f1,f2⟩:=RH sg.rs k2.ct
  have hma:k2.ct.a<=(nK k2.ct sg.rs).1.a:=by
   have key:∀(ks:List Ck) (ct:Ct),ct.a<=(fD ct ks).1.a:=by
    intro ks
    induction ks with
    |nil=>intro ct;exact Nat.le_refl _
    |cons k ks ih=>
     intro ct
     cases k with
     |s=>have:=ih ⟨ct.a+1,ct.i⟩;simp only[fD]at this⊢;omega
     |p=>have:=ih ⟨ct.a+1,ct.i⟩;simp only[fD]at this⊢;omega
     |o dp=>have:=ih ⟨ct.a+1,nx ct.i+1⟩;simp only[fD]at this⊢;omega
   rw[f1];exact key _ _
  have hba:=RK bs (nK k2.ct sg.rs).1.a
  have Am:n0=k2.ct.a:=by omega
  subst Am
  have af3:k2.bA S ρ:=oB
  obtain⟨_,i2,G2,w2,l2,hA⟩:=JC (pl:=pl) w1 (JK G1 l1) sE eZ af3
  have hA:=hA G2 (.refl _)
  have hlG:ic G G2:=l1.trans l2
  have tM:=JG (ps:=sg.ps) (i:=0) af2
  have hx:=JI (i:=0) hA
  have uP:∀j bx,(j,bx)∈gO 0 sg.ps bs->tL G2.β (gO 0 sg.ps bs) j=some (G2.β bx)∧sH pl G2 (gO 0 sg.ps bs) (G2.β bx)=some (.x j):=by
   intro j bx hj
   refine⟨afV tM.1 hj,?_⟩
   simp only[sH,qx (hx j bx hj),if_true,afW tM.2 hj]
  obtain⟨jl,_⟩:=JH (w:=w) (λb hb=>afX (pr:=gO 0 sg.ps bs) hb) hA uP
  have cm:wO sg (sH pl G2 (gO 0 sg.ps bs)) (tL G2.β (gO 0 sg.ps bs)) w:=by
   constructor
   ·intro b l hb
    cases nS:G2.q b with
    |none=>simp[sH,nS]at hb
    |some l0=>
     refine⟨(w2.rel.ia b l0 (IL nS)).2,?_⟩
     cases l0 with
     |f=>simp[sH,nS]at hb;exact .inl hb.symm
     |o i p=>cases pl<;>simp[sH,nS]at hb;exact .inl hb.symm
     |x bx=>
      simp only[sH,nS]at hb
      split at hb
      ·rename_i zt
       split at hb
       ·rename_i j hj
        cases hb
        exact .inr ⟨j,rfl,by rw[zt];exact(uP j bx (RN hj)).1⟩
       ·cases hb;exact .inl rfl
      ·cases hb;exact .inl rfl
   ·intro i b hb
    obtain⟨bx,h1,rfl⟩:=AX hb
    exact⟨by have:=AV h1;omega,(uP i bx h1).2⟩
   ·intro x hx
    obtain⟨h1,h2,h3⟩:=w2.rel.base.adZ x hx
    exact⟨h1,by simp[sH,show G2.q x.1=none from z' h2],h3⟩
  have pR:=hC w _ _ (c.args.toList.map a.eval) _ outs hS cm jl
  have il:(execOp a.eval o).run P w=.ok (.enter g (c.args.toList.map a.eval).toArray) w:=by
   unfold execOp
   rw[ho]
   show Sem.run P (do let d <-resolve a.eval c o.type;invoke d.target d.args) w=_
   simp only[resolve,hc,Act.eval,Deferred.ofValue,pure_bind,invoke]
   rw[RM hg]
   congr 2
   exact Array.ext' (by simp)
  simp only[bJ,Oper.wp,il,Oper.upon]
  refine pR.mono ?_
  rintro e w' ⟨v,G',is,o1,o2,rfl,gG⟩
  simp only
  let ks:=mm sg.rs
  obtain⟨rn,hrn⟩:∃rn,rn=ki k2.ct.i ks is:=⟨_,rfl⟩
  let GG:=G2.call G' w.heap.size rn
  have hold:∀b,b<w.heap.size->GG.ω b=G2.ω b:=λb hb=>by show(if b<w.heap.size then _ else _)=_;rw[if_pos hb]
  have AY:∀b,¬b<w.heap.size->GG.ω b=match G'.ω b with|some (.o id p)=>(mW rn id).map λj=>.o j p|_=>none:=λb hb=>by show(if b<w.heap.size then _ else _)=_;rw[if_neg hb]
  have af4:∀b,G2.q b=none->sH pl G2 (gO 0 sg.ps bs) b=none:=λb hb=>by simp[sH,hb]
  have pP:∀j bx,(j,bx)∈gO 0 sg.ps bs->G'.ω (G2.β bx)=some (.x j):=by
   intro j bx hj
   have key:∀{ps:List PS} {i0:Nat} {ts:List T} {xZ:List (Nat×Bool×Nat)},ib G' w' (tL G2.β (gO 0 sg.ps bs)) i0 ps ts->(j,bx)∈gO i0 ps xZ->G'.ω (G2.β bx)=some (.x j):=by
    intro ps
    induction ps with
    |nil=>intro i0 ts xZ _ hm;simp[gO]at hm
    |cons p ps ih=>
     intro i0 ts xZ hB hm
     cases p with
     |v ag n=>exact ih (i0:=i0+1) hB hm
     |x n=>
      obtain⟨b',bT,elem,t1,t2,jz,af5,hh',_,_,_,hB⟩:=hB
      cases xZ with
      |nil=>simp[gO]at hm
      |cons b0 bs0=>
       simp only[gO,List.mem_cons,Prod.mk.injEq]at hm
       rcases hm with⟨rfl,_⟩|hm
       ·rw[(uP j bx hj).1]at jz;cases jz;exact af5
       ·exact ih hB hm
   exact key gG.box hj
  have JL:∀b,b<w.heap.size->∀i p,G'.ω b≠some (.o i p):=by
   intro b hb i p hi
   cases oI:sH pl G2 (gO 0 sg.ps bs) b with
   |none=>have:=(gG.free b hb oI).1;rw[hi]at this;cases this
   |some l=>
    rcases(cm.ia b l oI).2 with rfl|⟨j,rfl,hj⟩
    ·have:=(gG.CL b oI).1;rw[hi]at this;cases this
    ·obtain⟨bx,h1,rfl⟩:=AX hj
     rw[pP j bx h1]at hi;cases hi
  have cS:pl=true->∀b,G'.q b=none->GG.q b=none:=by
   intro hp b hb
   replace hb:=gG.qq (by rw[<-D0];exact hp) b hb
   by_cases be:b<w.heap.size
   ·rw[Gh.vw (hold b be)]
    cases oI:sH pl G2 (gO 0 sg.ps bs) b with
    |none=>
     cases nS:G2.q b with
     |none=>rfl
     |some l=>
      exfalso
      cases l with
      |f=>simp[sH,nS]at oI
      |o i p=>simp[sH,nS,hp]at oI
      |x bx=>
       simp only[sH,nS]at oI
       split at oI
       ·split at oI<;>cases oI
       ·cases oI
    |some l=>
     exfalso
     rcases(cm.ia b l oI).2 with rfl|⟨j,rfl,hj⟩
     ·have:=(gG.CL b oI).1;rw[hb]at this;cases this
     ·obtain⟨bx,h1,rfl⟩:=AX hj
      rw[pP j bx h1]at hb;cases hb
   ·exact z' (by rw[AY b be,hb])
  obtain⟨vs,o7,af6⟩:=afZ (ρ:=ρ) gG.ret
  obtain⟨us,Rt,htp⟩:=RJ (ρ:=ρ) o7
  have Qq:=bU.len Rt
  have pi:(nK k2.ct sg.rs).1.a=k2.ct.a+o1.length:=by rw[f1,Ek,Qq.2.1]
  have x_:o2.length=tK bs:=JJ hA gG.box
  have hm:(s6 (nK k2.ct sg.rs).1.a bs).1-k2.ct.a=o1.length+o2.length:=by omega
  have af7:∀j t,o1[j]?=some t->ρ[k2.ct.a+j]?=some t:=by
   intro j t hj
   have be:=(List.getElem?_eq_some_iff.1 hj).1
   rw[bE j (by omega),gG.outs,List.getD_eq_getElem?_getD,List.getElem?_append_left be,hj]
   rfl
  have af8:∀j t,o2[j]?=some t->ρ[(nK k2.ct sg.rs).1.a+j]?=some t:=by
   intro j t hj
   have be:=(List.getElem?_eq_some_iff.1 hj).1
   have:=bE (o1.length+j) (by omega)
   rw[pi,Nat.add_assoc,this,gG.outs,List.getD_eq_getElem?_getD,List.getElem?_append_right (by omega),show o1.length+j-o1.length=j by omega,hj]
   rfl
  obtain⟨r1,r2,r3,r4,r5,r6⟩:=AU (G2:=GG) (rn:=rn) (w':=w') (ρ:=ρ) (λj x hj=>by show(match ny rn j with|some (some id)=>G'.H id|some none=>_|none=>G2.H j)=_;rw[hj];cases x<;>rfl)
   (λj id hj c r hcr=>by
    have be:¬c<w.heap.size:=λbe=>JL c be _ _ hcr
    rw[AY c be,hcr];simp only[hj,Option.map_some]) Rt (ct:=k2.ct) af7
   (λk hk hkp=>cS (by
    rw[D0]
    cases hh:pC sg with
    |true=>rfl
    |false=>have:=(RO hh).1 k hk;rw[hkp]at this;cases this)) (λj x hj=>by rw[hrn];exact Ei hj) (λj id hj=>by rw[hrn];exact AS gG.nodup hj)
  have uK:∀r u,(r,u)∈(s6 (nK k2.ct sg.rs).1.a bs).2->∃j bx,(j,bx)∈gO 0 sg.ps bs∧r=.x bx∧fP GG w' ρ bx u∧de u=[]:=by
   cases hp:pC sg with
   |false=>
    have QN:bs=[]:=RP (RO hp).2 hA
    subst QN
    intro r u qu
    simp[s6]at qu
   |true=>
    refine(JE (cS (by rw[D0,hp])) hA gG.box af8 λj bx hj=>?_).2
    have be:=(w2.rel.ia _ _ (hx j bx hj)).2
    exact⟨(uP j bx hj).1,by show GG.ω (G2.β bx)=_;rw[hold _ be];exact hx j bx hj⟩
  have kf:k2.ct.i=ct.i:=by rw[i2,i1]
  have hki:k'.ct.i=(fD k2.ct ks).1.i:=by rw[<-hk];show(nK k2.ct sg.rs).1.i=_;rw[f1]
  have hW:k'.w=(fi d o (s7 (nK k2.ct sg.rs).2.1)++((fD k2.ct ks).2.2++(s6 (nK k2.ct sg.rs).1.a bs).2))++k2.w:=by
   rw[<-hk]
   show(_++((nK k2.ct sg.rs).2.2++_))++_=_
   rw[f2];rfl
  have hN:∀i,ct.i<=i->i<k'.ct.i->¬M i:=hM
  have hK:di (oA (fi d o (s7 (nK k2.ct sg.rs).2.1)++((fD k2.ct ks).2.2++(s6 (nK k2.ct sg.rs).1.a bs).2))) (λi=>ct.i<=i∧i<k'.ct.i) G2 w GG w':=by
   refine⟨gG.size,λb hb h0=>⟨by rw[Gh.vw (hold b hb)];exact h0,(gG.free b hb (af4 b h0)).2⟩,λb hb h0=>by rw[hold b hb];exact h0,λb l hb hl=>?_,λi hi=>⟨rfl,?_⟩⟩
   ·have be:=(w2.rel.ia b l hb).2
    refine⟨by rw[hold b be];exact hb,?_⟩
    cases oI:sH pl G2 (gO 0 sg.ps bs) b with
    |none=>exact(gG.free b be oI).2
    |some l'=>
     rcases(cm.ia b l' oI).2 with rfl|⟨j,rfl,hj⟩
     ·exact(gG.CL b oI).2
     ·exfalso
      obtain⟨bx,h1,rfl⟩:=AX hj
      rw[hx j bx h1]at hb
      cases hb
      refine hl ?_
      show St.look _ (bn.x bx)≠none
      rw[l_,l_]
      intro e
      have e1:=(Option.or_eq_none_iff.1 (Option.or_eq_none_iff.1 e).2).2
      exact RQ (AW h1) e1
   ·intro p _
    refine congrFun (?_:(match ny rn i with|some (some id)=>G'.H id|some none=>λ_=>.slice none 0 0|none=>G2.H i)=G2.H i) p
    cases rS:ny rn i with
    |none=>rfl
    |some x=>
     have iB:=O8 rS
     rw[hrn]at iB
     exact absurd ⟨by rw[<-kf];exact(JD iB).1,by rw[hki];exact r5 i x iB⟩ hi
  rw[hW]
  refine⟨GG,I7 h w2 (λr=>l_ _ _ r) hK (λi hi=>hN i hi.1 hi.2) (λi hi=>.inl hi) (λn oG=>I9 oG) gG.so ?_,Af _ _ _⟩
  have bI:∀r u,(r,u)∈(fD k2.ct ks).2.2->∃j,r=.o j∧ct.i<=j∧j<k'.ct.i∧cE GG w' ρ j u∧de u=[]:=by
   intro r u qu
   obtain⟨j,g1,g2,g3,g4⟩:=r6 r u qu
   exact⟨j,g1,by rw[<-kf];exact g2,by rw[hki];exact g3,g4⟩
  have hmb:∀j bx,(j,bx)∈gO 0 sg.ps bs->M bx:=λj bx hj=>(w2.rel.ia _ _ (hx j bx hj)).1
  have pS:∀r u,St.look ((fD k2.ct ks).2.2++(s6 (nK k2.ct sg.rs).1.a bs).2) r=some u->(r,u)∈(fD k2.ct ks).2.2∨(r,u)∈(s6 (nK k2.ct sg.rs).1.a bs).2:=
   λr u hl=>List.mem_append.1 (Eh hl)
  refine⟨λe n u he hl=>?_,λb u hl=>?_,λi u hl=>?_,λr u hl i hi=>?_,λi hi=>?_,λb l hb=>?_⟩
  ·rcases k_ hl with⟨n',iA,e1,rfl⟩|hl
   ·cases e1
    rw[iA,Qn (hn _ iA)]
    exact af6 GG w' k2.ct (htp GG w' k2.ct r1)
   ·rcases pS _ _ hl with hm|hm
    ·obtain⟨j,e1,_⟩:=bI _ _ hm;cases e1
    ·obtain⟨j,bx,_,e1,_⟩:=uK _ _ hm;cases e1
  ·rcases k_ hl with⟨n',iA,e1,rfl⟩|hl
   ·cases e1
   ·rcases pS _ _ hl with hm|hm
    ·obtain⟨j,e1,_⟩:=bI _ _ hm;cases e1
    ·obtain⟨j,bx,_,e1,e2,_⟩:=uK _ _ hm;cases e1;exact e2
  ·rcases k_ hl with⟨n',iA,e1,rfl⟩|hl
   ·cases e1
   ·rcases pS _ _ hl with hm|hm
    ·obtain⟨j,e1,_,_,e2,_⟩:=bI _ _ hm;cases e1;exact e2
    ·obtain⟨j,bx,_,e1,_⟩:=uK _ _ hm;cases e1
  ·rcases k_ hl with⟨n',iA,e1,rfl⟩|hl
   ·have:=af0 _ i hi
    rw[RR]at this
    have:=r4 i this
    exact .inr ⟨by omega,by rw[hki];exact this.2⟩
   ·rcases pS _ _ hl with hm|hm
    ·obtain⟨j,_,_,_,_,e2⟩:=bI _ _ hm;rw[e2]at hi;cases hi
    ·obtain⟨j,bx,_,_,_,e2⟩:=uK _ _ hm;rw[e2]at hi;cases hi
  ·have:∀r:bn,(r=.x i∨r=.o i)->St.look (fi d o (s7 (nK k2.ct sg.rs).2.1)++((fD k2.ct ks).2.2++(s6 (nK k2.ct sg.rs).1.a bs).2)) r≠none->Mn M ct.i k'.ct.i i:=by
    intro r hr hl
    obtain⟨u,hu⟩:=Option.ne_none_iff_exists'.1 hl
    rcases k_ hu with⟨n',iA,e1,rfl⟩|hl
    ·rcases hr with rfl|rfl<;>cases e1
    ·rcases pS _ _ hl with hm|hm
     ·obtain⟨j,e1,g1,g2,_⟩:=bI _ _ hm
      rcases hr with rfl|rfl
      ·cases e1
      ·cases e1;exact .inr ⟨g1,g2⟩
     ·obtain⟨j,bx,hj,e1,_⟩:=uK _ _ hm
      rcases hr with rfl|rfl
      ·cases e1;exact .inl (hmb j _ hj)
      ·cases e1
   rcases hi with hi|hi
   ·exact this _ (.inl rfl) hi
   ·exact this _ (.inr rfl) hi
  ·by_cases be:b<w.heap.size
   ·rw[hold b be]at hb
    have:=w2.rel.ia b l hb
    exact⟨.inl this.1,by have:=gG.size;omega⟩
   ·rw[AY b be]at hb
    cases nS:G'.ω b with
    |none=>rw[nS]at hb;cases hb
    |some l'=>
     rw[nS]at hb
     cases l' with
     |f=>cases hb
     |x i=>cases hb
     |o i p=>
      simp only[Option.map_eq_some_iff]at hb
      obtain⟨j,hj,rfl⟩:=hb
      have iB:=O7 hj
      rw[hrn]at iB
      exact⟨.inr ⟨by rw[<-kf];exact(JD iB).1,by rw[hki];exact r5 j _ iB⟩,gG.ia b _ nS⟩
structure Env (P:Program) (cx:Cx) (S:Nat->af):Prop where
 dT:eu P cx
 fns:∀g sg,cx.sg g=some sg->fF P g∧Eg P sg g (S g)
 cR:∀g fn,cx.fn g=some fn->P.funcs[g]?=some fn∧fF P g
theorem bJ.quiet{W:St}(h:bJ P M B d up ρ a w s o W Q∧k'.ct.i=ct.i):bJ P (Mn M ct.i k'.ct.i) B d up ρ a w s o W Q:=h.1.mono λi hi=>.inl hi
theorem af9(E:Env P cx S)(h:Rel M B d up s ρ G a w)(hn:∀n,o.dst=some n->n<a.tmps.size)
  (hk:iI cx cC eW d o oi ⟨s.only R,[],ct,[]⟩=some k')(hd:k'.bA S ρ)(hM:∀i,ct.i<=i->i<k'.ct.i->¬M i):bJ P (Mn M ct.i k'.ct.i) B d up ρ a w s o k'.w Q:=by
 have hw:=dh.start h R ct
 cases dV:o.op with
 |move x=>exact bJ.quiet (Qt h hn (.inl dV) hk)
 |assign x=>exact bJ.quiet (Qt h hn (.inr dV) hk)
 |alloc t=>exact aeF E.dT h hn dV hk hM
 |box t x=>exact aeG E.dT h hn dV hk hM
 |build t ps=>exact bJ.quiet (aeA E.dT h hn dV hk)
 |buildSlice t n ps=>exact afB E.dT h hn dV hk hd hM
 |makeSlice t x y=>exact ae1 E.dT h hn dV hk hd hM
 |load t x=>
  simp only[iI,dV,cG,br]at hk
  obtain⟨⟨k1,v⟩,hv,hk⟩:=hk
  split at hv
  ·rename_i r hT
   cases sE:cx.fz cC eW oi with
   |false=>rw[sE]at hT;cases hT
   |true=>rw[sE]at hT;cases hv;exact afP E.dT h hn dV hT hk hd hM
  ·exact bJ.quiet (aer E.dT h hn dV ⟨k1,v,hv,hk⟩ hd)
 |store t x y=>
  simp only[iI,dV,cG,br]at hk
  obtain⟨k1,cm,hk⟩:=hk
  split at cm
  ·rename_i k2 hD
   cases cm
   cases sE:cx.fz cC eW oi with
   |true=>rw[sE]at hD;cases hD
   |false=>rw[sE]at hD;exact bJ.quiet (afG E.dT h hn dV ⟨k1,hD,hk⟩ hd)
  ·exact bJ.quiet (aeR E.dT h hn dV ⟨k1,cm,hk⟩ hd)
 |nilCheck x=>exact bJ.quiet (aem h hn dV hk)
 |binOp op t x y yt=>
  have RS:=hk
  simp only[iI,dV]at hk
  split at hk
  ·rename_i c e xQ DW;exact bJ.quiet (aea E.dT h hn dV xQ DW RS hd)
  ·rename_i es bs xQ DW;exact bJ.quiet (afE E.dT h hn dV xQ DW RS hd)
  ·cases hk
 |unOp op t x=>exact bJ.quiet (aed h hn dV hk hd)
 |slice t x lo hi mx=>
  cases hT:(bif mx.isSome then none else zR cx ⟨s.only R,[],ct,[]⟩ t (ch d (Wk.get ⟨s.only R,[],ct,[]⟩) x) (lo.map (ch d (Wk.get ⟨s.only R,[],ct,[]⟩))) (hi.map (ch d (Wk.get ⟨s.only R,[],ct,[]⟩))))with
  |none=>exact bJ.quiet (aeU E.dT h hn dV hT hk hd)
  |some kv=>
   refine afL E.dT h hn dV hT ?_ hd hM
   simp only[iI,dV]at hk
   rw[hT]at hk
   exact Option.some.inj hk
 |fieldAddr t x f=>exact bJ.quiet (aeo E.dT h hn dV hk)
 |indexAddr t x y=>exact bJ.quiet (aex E.dT h hn dV hk hd)
 |index t x y=>
  simp only[iI,dV,cG]at hk
  obtain⟨ti,fJ,⟨k1,y1⟩,h1,⟨k2,y2⟩,h2,hk⟩:=hk
  cases hc:Nat.beq ti.kd 2 with
  |false=>simp[hc]at hk
  |true=>
   simp only[hc,cond_true,br]at hk
   have cK:bX d o (k2.em .idx [y1,y2]).1 (.v false [.p (k2.em .idx [y1,y2]).2])=k':=hk
   subst cK
   exact bJ.quiet (ael h hn dV E.dT fJ (dN hc) hw h1 h2 hd)
 |extract x i=>exact bJ.quiet (aen h hn dV hk)
 |makeFunc f first xC=>exact bJ.quiet (aeH h hn dV hk)
 |call c=>
  have RS:=hk
  simp only[iI,dV]at hk
  split at hk
  ·rename_i x hc eZ
   simp only[cG]at hk
   obtain⟨ti,fJ,⟨k1,y⟩,h1,hk⟩:=hk
   cases h3:Nat.beq ti.kd 3 with
   |true=>
    simp only[h3,cond_true,br]at hk
    have cK:bX d o (k1.em .len [y]).1 (.v false [.p (k1.em .len [y]).2])=k':=hk
    subst cK
    exact bJ.quiet (aej h hn E.dT dV hc eZ (Option.bind_eq_some_iff.2 fJ) (dN h3) hw h1 hd)
   |false=>
    simp only[h3,cond_false]at hk
    cases h2:Nat.beq ti.kd 2 with
    |false=>simp[h2]at hk
    |true=>
     simp only[h2,cond_true,br]at hk
     have cK:bX d o (k1.em .lens [y]).1 (.v false [.p (k1.em .lens [y]).2])=k':=hk
     subst cK
     exact bJ.quiet (aek h hn E.dT dV hc eZ (Option.bind_eq_some_iff.2 fJ) (dN h2) hw h1 hd)
  ·rename_i x y hc eZ
   simp only[cG,br]at hk
   obtain⟨⟨k1,y1⟩,h1,⟨k2,y2⟩,h2,hk⟩:=hk
   have cK:bX d o (k2.em .mx [y1,y2]).1 (.v false [.p (k2.em .mx [y1,y2]).2])=k':=hk
   subst cK
   exact bJ.quiet (Qy h hn dV eZ (.inl ⟨hc,rfl⟩) hw h1 h2 hd)
  ·rename_i x y hc eZ
   simp only[cG,br]at hk
   obtain⟨⟨k1,y1⟩,h1,⟨k2,y2⟩,h2,hk⟩:=hk
   have cK:bX d o (k2.em .mn [y1,y2]).1 (.v false [.p (k2.em .mn [y1,y2]).2])=k':=hk
   subst cK
   exact bJ.quiet (Qy h hn dV eZ (.inr ⟨hc,rfl⟩) hw h1 h2 hd)
  ·rename_i x y hc eZ
   exact afq E.dT h hn dV hc eZ RS hd hM
  ·rename_i x0 xs0 g hc
   simp only[cG]at hk
   obtain⟨sg,hsg,_⟩:=hk
   obtain⟨q1,q2⟩:=E.fns g sg hsg
   exact af1 h hn dV hc q1 hsg q2 RS hd hM
  ·cases hk
 |convert t1 t2 x=>exact bJ.quiet (aeh E.dT h hn dV hk hd)
 |_=>simp[iI,dV]at hk
end
theorem Lf.gT{ρ e:List T}{x:Lf}{t:T}(h:x.fE ρ=some t):x.fE (ρ++e)=some t:=by
 cases x with
 |k v=>exact h
 |a n=>simp only[Lf.fE]at h⊢;rw[List.getElem?_append_left (List.getElem?_eq_some_iff.1 h).1];exact h
 |e=>exact h
theorem El{ρ e:List T}{x:Lf}{i:Nat}(h:lI ρ x=some i):lI (ρ++e) x=some i:=by
 unfold lI at h⊢
 cases hx:x.fE ρ with
 |none=>simp[hx]at h
 |some t=>rw[Lf.gT hx];rw[hx]at h;exact h
theorem RT{ρ e:List T}:∀{q:mJ} {p:List (Nat×Nat)},gD ρ q=some p->gD (ρ++e) q=some p
 | [],p,h=>h
 |(x,w,j)::q,p,h=>by
  simp only[gD,cG,br]at h⊢
  obtain⟨i,h1,p',h2,rfl⟩:=h
  exact⟨i,El h1,p',RT h2,rfl⟩
theorem RU{ρ e:List T}{id:Nat}{q:mJ}{p:List (Nat×Nat)}(h:kR ρ id q=some p):kR (ρ++e) id q=some p:=by
 cases q with
 |nil=>exact h
 |cons x q=>
  simp only[kR]at h⊢
  split at h
  ·rename_i hi;rw[if_pos hi];exact RT h
  ·cases h
section
variable {G:Gh} {w:World} {ρ e:List T}
theorem fT.ext{c:Ce}{v:Value}(h:fT G w ρ c v):fT G w (ρ++e) c v:=by
 cases c with
 |p x=>obtain⟨t,h1,h2⟩:=h;exact⟨t,Lf.gT h1,h2⟩
 |o id q=>obtain⟨p,h1,h2⟩:=h;exact⟨p,RU h1,h2⟩
 |n=>exact h
 |d=>exact h
theorem aX.ext:∀{cs:List Ce} {vs:List Value},aX G w ρ cs vs->aX G w (ρ++e) cs vs
 | [],[],_=>trivial
 |_::_,_::_,h=>⟨h.1.ext,aX.ext h.2⟩
 | [],_::_,h=>h.elim
 |_::_,[],h=>h.elim
theorem eY.ext{ag:Bool}{cs:List Ce}{c:Value}(h:eY G w ρ ag cs c):eY G w (ρ++e) ag cs c:=by
 cases ag with
 |true=>obtain⟨vs,h1,h2⟩:=h;exact⟨vs,h1,h2.ext⟩
 |false=>obtain⟨x,rfl,h2,h3⟩:=h;exact⟨x,rfl,h2.ext,h3⟩
theorem gn.ext:∀{cs:List (Bool×List Ce)} {vs:List Value},gn G w ρ cs vs->gn G w (ρ++e) cs vs
 | [],[],_=>trivial
 |_::_,_::_,h=>⟨h.1.ext,gn.ext h.2⟩
 | [],_::_,h=>h.elim
 |_::_,[],h=>h.elim
theorem cD.ext{v:SV}{c:Value}(h:cD G w ρ v c):cD G w (ρ++e) v c:=by
 cases v with
 |un=>trivial
 |v ag cs=>exact eY.ext h
 |pt b off=>exact h
 |ep id q ix wd off=>obtain⟨p,b,n,cap,i,h1,h2,h3,h4⟩:=h;exact⟨p,b,n,cap,i,RU h1,h2,El h3,h4⟩
 |fp s ix wd off=>obtain⟨xs,i,r,b,base,h1,h2,h3⟩:=h;exact⟨xs,i,r,b,base,Lf.gT h1,El h2,h3⟩
 |tp vs=>obtain⟨us,h1,h2⟩:=h;exact⟨us,h1,h2.ext⟩
 |cl f bs=>exact h
 |ob dp x=>exact h
 |fz pv x=>exact h
 |tk x m=>exact h
 |fl x=>exact h
 |fr x=>exact h
theorem fP.ext{b:Nat}{v:SV}(h:fP G w ρ b v):fP G w (ρ++e) b v:=by
 cases v with
 |v ag cs=>obtain⟨h1,bT,elem,h2,h3⟩:=h;exact⟨h1,bT,elem,h2,h3.ext⟩
 |_=>exact h
theorem cE.ext{b:Nat}{v:SV}(h:cE G w ρ b v):cE G w (ρ++e) b v:=by
 cases v with
 |ob dp x=>obtain⟨t,h1,h2⟩:=h;exact⟨t,Lf.gT h1,h2⟩
 |fz pv x=>
  obtain⟨t,h1,h2,h3⟩:=h
  refine⟨t,Lf.gT h1,h2,?_⟩
  cases pv with
  |z=>trivial
  |w tk x0 lo=>obtain⟨g0,F,n,zs,g1,g2,g3⟩:=h3;exact⟨g0,F,n,zs,Lf.gT g1,El g2,g3⟩
 |tk x m=>obtain⟨h0,F,u,h1,h2,h3⟩:=h;exact⟨h0,F,u,Lf.gT h1,Lf.gT h2,h3⟩
 |fl x=>obtain⟨h0,t,h1,h2⟩:=h;exact⟨h0,t,Lf.gT h1,h2⟩
 |fr x=>obtain⟨h0,t,h1,h2⟩:=h;exact⟨h0,t,Lf.gT h1,h2⟩
 |_=>exact h
theorem Rel.ext{M:Nat->Prop}{B:eI}{d:Nat}{up:Nat->Nat->Value}{s:St}{a:Act}(h:Rel M B d up s ρ G a w):Rel M B d up s (ρ++e) G a w:=
 ⟨λx n hx=>(h.tm x n hx).ext,λb=>(h.bx b).ext,λi=>(h.ob i).ext,h.fQ,h.key,h.ia,h.dn,h.base,h.bt⟩
end
theorem Lf.rT{ρ e:List T}{x:Lf}(h:x.iZ ρ.length=true):x.ev (ρ++e)=x.ev ρ:=by
 cases x with
 |k v=>rfl
 |a n=>
  have be:n<ρ.length:=Nat.lt_of_succ_le (by simpa[Lf.iZ,Nat.blt]using h)
  simp only[Lf.ev,List.getD_eq_getElem?_getD]
  rw[List.getElem?_append_left be]
 |e=>rfl
theorem RV{ρ e:List T}{xs:List Lf}(h:xs.all (Lf.iZ ρ.length)=true):xs.map (Lf.ev (ρ++e))=xs.map (Lf.ev ρ):=
 List.map_congr_left λx hx=>Lf.rT (List.all_eq_true.1 h x hx)
theorem JM(ts:List T):∀(m i:Nat),(fS ts i m).length=m
 |0,_=>rfl
 |m+1,i=>by simp[fS,JM ts m]
theorem RW(ts:List T):∀(m i j:Nat),j<m->(fS ts i m)[j]?=some (ts.getD (i+j) T.cp)
 |0,_,j,h=>by omega
 |m+1,i,0,_=>by simp[fS]
 |m+1,i,j+1,h=>by
  simp only[fS,List.getElem?_cons_succ]
  rw[RW ts m (i+1) j (by omega)]
  congr 2;omega
section
variable {S:Nat->af} {R:Nat} {K:List af} {out:List T}
theorem Em:∀{is:List Dm} {p:PL} {ρ:List T},ru (ρ.length+qo is) is=true->(wrap is p).den S R K ρ=some out->
  ∃ts,ts.length=qo is∧p.den S R K (ρ++ts)=some out∧∀e,bA S (ρ++ts++e) (ρ.length+qo is) is
 | [],p,ρ,_,h=>⟨[],rfl,by rw[List.append_nil];exact h,λ_=>trivial⟩
 | .pr q xs::is,p,ρ,dQ,h=>by
  simp only[ru,qo,bk]at dQ
  have e0:ρ.length+(qo is+1)-1=ρ.length+qo is:=by omega
  rw[e0]at dQ
  obtain⟨ts,h1,h2,h3⟩:=Em (is:=is) dQ.2 (show(wrap is (.ins (.pr q xs) p)).den S R K ρ=some out from h)
  simp only[PL.den,cG]at h2
  obtain⟨t,h4,h5⟩:=h2
  have hl:(ρ++ts).length=ρ.length+qo is:=by simp[h1]
  refine⟨ts++[t],by simp[qo,h1],by simpa using h5,λe=>⟨ρ.length+qo is,t,rfl,?_,?_,?_⟩⟩
  ·have:=RV (ρ:=ρ++ts) (e:=t::e) (xs:=xs) (by rw[hl];exact dQ.1.2)
   simp only[List.append_assoc,List.cons_append,List.nil_append]at this⊢
   rw[this]
   simpa using h4
  ·rw[<-hl];simp
  ·have:=h3 (t::e)
   simpa using this
 | .cl g xs m::is,p,ρ,dQ,h=>by
  simp only[ru,qo,bk]at dQ
  have e0:ρ.length+(qo is+m)-m=ρ.length+qo is:=by omega
  rw[e0]at dQ
  obtain⟨ts,h1,h2,h3⟩:=Em (is:=is) dQ.2 (show(wrap is (.ins (.cl g xs m) p)).den S R K ρ=some out from h)
  simp only[PL.den,cG]at h2
  obtain⟨us,h4,h5⟩:=h2
  have hl:(ρ++ts).length=ρ.length+qo is:=by simp[h1]
  refine⟨ts++fS us 0 m,by simp[qo,h1,JM],by simpa using h5,λe=>⟨ρ.length+qo is,us,by simp only[qo];omega,?_,λi hi=>?_,?_⟩⟩
  ·have:=RV (ρ:=ρ++ts) (e:=fS us 0 m++e) (xs:=xs) (by rw[hl];exact dQ.1.2)
   simp only[List.append_assoc]at this⊢
   rw[this]
   simpa using h4
  ·rw[<-hl,List.append_assoc,List.append_assoc,<-List.append_assoc ρ ts,List.getElem?_append_right (by omega),show(ρ++ts).length+i-(ρ++ts).length=i by omega,
    List.getElem?_append_left (by rw[JM];exact hi),RW _ _ _ _ hi]
   simp
  ·have:=h3 (fS us 0 m++e)
   simpa using this
end
def da(fs:jF)(ρ:List T):Prop:=∀n b,fact fs n=some b->ρ[n]?=some (.c (.bool b))
theorem da.ext{fs:jF}{ρ e:List T}(h:da fs ρ):da fs (ρ++e):=λn b hn=>by
 have:=h n b hn
 rw[List.getElem?_append_left (List.getElem?_eq_some_iff.1 this).1];exact this
theorem da.cons{fs:jF}{ρ:List T}{n:Nat}{b:Bool}(h:da fs ρ)(hn:ρ[n]?=some (.c (.bool b))):da ((n,b)::fs) ρ:=by
 intro m c hm
 simp only[fact]at hm
 cases hb:Nat.beq n m with
 |true=>simp[hb]at hm;subst hm;rw[<-dN hb];exact hn
 |false=>simp[hb]at hm;exact h m c hm
section
variable {G:Gh} {w:World} {ρ:List T} {fs:jF}
theorem En{sv:SV}{c:Value}{b:Bool}(h:qC fs sv=.is b)(hr:cD G w ρ sv c)(hf:da fs ρ):c=.bool b:=by
 unfold qC at h
 split at h
 ·cases h
 ·split at h
  ·rename_i b' hb
   cases h
   unfold ID at hb
   split at hb
   ·cases hb
    obtain⟨e,he,qs,_⟩:=hr
    cases he
    obtain⟨t,h1,h2⟩:=qs
    simp only[Lf.fE,j_,cond_true,br]at h1
    subst h1
    exact h2.scalar.1
   ·cases hb
  ·rename_i n hb
   unfold ID at hb
   split at hb
   ·cases hb
    split at h
    ·rename_i b' RX
     cases h
     obtain⟨e,he,qs,_⟩:=hr
     cases he
     obtain⟨t,h1,h2⟩:=qs
     have:=hf n b RX
     simp only[Lf.fE]at h1
     rw[this]at h1
     cases h1
     exact h2.scalar.1
    ·cases h
   ·cases hb
  ·cases h
theorem af_{sv:SV}{c:Value}(h:qC fs sv=.nil)(hr:cD G w ρ sv c):∃us,c=.tuple us:=by
 unfold qC at h
 split at h
 ·obtain⟨us,h1,_⟩:=hr;exact⟨_,h1⟩
 ·split at h
  ·cases h
  ·split at h<;>cases h
  ·cases h
end
section
variable {M:Nat->Prop} {B:eI} {d:Nat} {up:Nat->Nat->Value} {ρ:List T} {G:Gh} {a:Act} {w:World} {S:Nat->af} {P:Program}
variable {cx:Cx} {cC eW oi:Nat} {s:St} {R:Nat} {ct:Ct} {k':Wk} {o:Oper} {Q:Exit->Act->World->Prop} {ops:Array Oper} {nt:Nat} {fs:jF}
def gw(d:Nat)(ops:Array Oper)(o:Oper)(fs:jF)(s:St):Option Bool:=
 match o.guard with
 |none=>some true
 |some (j,iv)=>match(ops[j]?).bind (·.dst)with
  |none=>none
  |some g=>match qC fs (s.get (.t d g))with
   | .nil=>some false
   | .is b=>some (b==iv)
   |_=>none
theorem JN{s':St}(h:∀r∈zk d ops o,s'.get r=s.get r):gw d ops o fs s'=gw d ops o fs s:=by
 unfold gw zk at*
 cases hg:o.guard with
 |none=>rfl
 |some jw=>
  obtain⟨j,iv⟩:=jw
  simp only[hg]at h
  cases hb:(ops[j]?).bind (·.dst)with
  |none=>simp only[hb]
  |some g=>
   simp only[hb]at h⊢
   simp only[h (.t d g) (by simp)]
theorem Eo{x:Bool}(h:gw d ops o fs s=some x)(hr:Rel M B d up s ρ G a w)(hf:da fs ρ):Region.wanted o (yielded ops a.tmps)=x:=by
 unfold gw at h
 unfold Region.wanted
 cases hg:o.guard with
 |none=>simp[hg]at h;simp[h]
 |some jw=>
  obtain⟨j,iv⟩:=jw
  simp only[hg]at h
  cases hb:(ops[j]?).bind (·.dst)with
  |none=>simp[hb]at h
  |some g=>
   simp only[hb]at h
   have ht:=hr.tm d g (Nat.le_refl _)
   simp only[oz,if_true]at ht
   cases hd:qC fs (s.get (.t d g))with
   |nil=>
    simp only[hd,br]at h
    subst h
    obtain⟨us,hu⟩:=af_ hd ht
    simp only[yielded,hb,Option.bind_some]
    rw[Array.getD_eq_getD_getElem?]at hu
    cases hx:a.tmps[g]? with
    |none=>simp
    |some v=>rw[hx]at hu;simp only[Option.getD_some]at hu;subst hu;simp
   |is b=>
    simp only[hd,br]at h
    have hu:=En hd ht hf
    simp only[yielded,hb,Option.bind_some]
    rw[Array.getD_eq_getD_getElem?]at hu
    cases hx:a.tmps[g]? with
    |none=>rw[hx]at hu;simp[undef]at hu
    |some v=>
     rw[hx]at hu;simp only[Option.getD_some]at hu;subst hu
     rw[<-h]
     cases b<;>cases iv<;>rfl
   |ask n=>simp[hd]at h
   |no=>simp[hd]at h
theorem Ep{sv:SV}{n:Nat}{b:Bool}(h:qC fs sv=.ask n):qC ((n,b)::fs) sv=.is b:=by
 unfold qC at h⊢
 split at h
 ·cases h
 ·split at h
  ·cases h
  ·rename_i m hm
   split at h
   ·cases h
   ·cases h
    simp only[fact]
    simp
  ·cases h
def tN(P:Program)(ops:Array Oper)(Q:Exit->Act->World->Prop)(B:eI)(d:Nat)(up:Nat->Nat->Value)(nt:Nat)(ρ:List T)(i:Nat)(rd:List bn)(wr:St)(lo hi:Nat)(sI:St):Prop:=
 ∀(M:Nat->Prop) (s:St) (G:Gh) (a:Act) (w:World) (Kn:Act->World->Prop),(∀r∈rd,s.get r=sI.get r)->Rel M B d up s ρ G a w->a.tmps.size=nt->(∀j,lo<=j->j<hi->¬M j)->
  (∀G' a' w',Rel (Mn M lo hi) B d up (s.fe wr) ρ G' a' w'->a'.tmps.size=nt->Kn a' w')->wpOp P ops Q i Kn a w
theorem RY{s':St}:∀{R:List bn},(∀r∈R,s'.get r=s.get r)->s'.only R=s.only R
 | [],_=>rfl
 |r::R,h=>by simp only[St.only];rw[h r (by simp),RY λr hr=>h r (by simp[hr])]
theorem af'{i:Nat}{R:List bn}(E:Env P cx S)(ho:ops[i]?=some o)(hn:∀n,o.dst=some n->n<nt)(hg:gw d ops o fs s=some true)(hf:da fs ρ)
  (hk:iI cx cC eW d o oi ⟨s.only R,[],ct,[]⟩=some k')(hd:k'.bA S ρ):tN P ops Q B d up nt ρ i (zk d ops o++R) k'.w ct.i k'.ct.i s:=by
 intro M s' G a w Kn nB hr mP hM hK
 have RZ:=JN (fs:=fs) (o:=o) (ops:=ops) (d:=d) (s:=s) (s':=s') λr hr=>nB r (List.mem_append_left _ hr)
 have hw:=Eo (RZ.trans hg) hr hf
 have mZ:iI cx cC eW d o oi ⟨s'.only R,[],ct,[]⟩=some k':=by rw[RY λr hr=>nB r (List.mem_append_right _ hr)];exact hk
 have:=af9 (Q:=Q) E hr (λn h=>by rw[mP];exact hn n h) mZ hd hM
 unfold wpOp
 simp only[ho,hw,if_true]
 exact .inl (Oper.wp_mono (λa' w' ⟨G',h1,h2⟩=>hK G' a' w' h1 (h2.trans mP)) this)
theorem R0(s:St)(r:bn)(v:SV):s.fe [(r,v)]=s.set r v:=rfl
theorem aga{i lo:Nat}(ho:ops[i]?=some o)(hn:∀n,o.dst=some n->n<nt)(hg:gw d ops o fs s=some false)(hf:da fs ρ):
  tN P ops Q B d up nt ρ i (zk d ops o) (fi d o (.tp [])) lo lo s:=by
 intro M s' G a w Kn nB hr mP hM hK
 have RZ:=JN (fs:=fs) (o:=o) (ops:=ops) (d:=d) (s:=s) (s':=s') nB
 have hw:=Eo (RZ.trans hg) hr hf
 unfold wpOp
 simp only[ho,hw,dS,if_false]
 have zu:∀i,M i->Mn M lo lo i:=λi h=>.inl h
 cases hd:o.dst with
 |none=>
  refine hK G _ w ?_ (by simpa[Act.put]using mP)
  simp only[fi,hd,Act.put]
  exact hr.mono zu
 |some n=>
  refine hK G _ w ?_ (by rw[Af];exact mP)
  simp only[fi,hd,R0]
  exact(hr.DS (x:=.tp []) (v:=undef) (by rw[mP];exact hn n hd) ⟨[],rfl,trivial⟩ (λi hi=>by simp[de,ry]at hi)).mono zu
theorem agb{x:Operand}{t:Tmp}(h:x∈o.op.operands)(hx:x=.tmp t):t∈vi o:=by
 subst hx
 exact List.mem_filterMap.2 ⟨.tmp t,by simpa using h,rfl⟩
theorem JO{s':St}{x:Operand}(hx:x∈o.op.operands)(h:∀r∈(vi o).map (bn.t d),s'.get r=s.get r):ch d s'.get x=ch d s.get x:=by
 cases x with
 |tmp t=>exact h _ (List.mem_map.2 ⟨t,agb hx rfl,rfl⟩)
 |_=>rfl
theorem agc{i lo n:Nat}{b:Bool}{va vb:SV}(ho:ops[i]?=some o)(agd:o.dst=some n)(hn:n<nt)(hg:gw d ops o fs s=some true)(hf:da fs ρ)(hp:vj d s o fs=some (.is b,va,vb)):
  tN P ops Q B d up nt ρ i (zk d ops o++(vi o).map (bn.t d)) [(.t d n,bif b then va else vb)] lo lo s:=by
 intro M s' G a w Kn nB hr mP hM hK
 have RZ:=JN (fs:=fs) (o:=o) (ops:=ops) (d:=d) (s:=s) (s':=s') λr hr=>nB r (List.mem_append_left _ hr)
 have hw:=Eo (RZ.trans hg) hr hf
 have zu:∀i,M i->Mn M lo lo i:=λi h=>.inl h
 unfold vj at hp
 split at hp
 ·rename_i c x y dV
  simp only[br,Prod.mk.injEq]at hp
  obtain⟨h1,rfl,rfl⟩:=hp
  have hT:∀r∈(vi o).map (bn.t d),s'.get r=s.get r:=λr hr=>nB r (List.mem_append_right _ hr)
  have oc:=JO (s':=s') (s:=s) (d:=d) (o:=o) (x:=c) (by rw[dV];simp[Op.operands]) hT
  have ox:=JO (s':=s') (s:=s) (d:=d) (o:=o) (x:=x) (by rw[dV];simp[Op.operands]) hT
  have oy:=JO (s':=s') (s:=s) (d:=d) (o:=o) (x:=y) (by rw[dV];simp[Op.operands]) hT
  have hc:=En (by rw[oc];exact h1) (CM hr c).1 hf
  unfold wpOp
  simp only[ho,hw,if_true]
  left
  have il:(execOp a.eval o).run P w=.ok (.value (if b then a.eval x else a.eval y)) w:=by
   unfold execOp
   simp only[dV,hc,asBool,pure_bind]
   cases b<;>rfl
  simp only[Oper.wp,il,Oper.upon,agd]
  refine hK G _ w ?_ (by rw[Af];exact mP)
  rw[R0]
  refine(hr.DS (by rw[mP];exact hn) ?_ ?_).mono zu
  ·cases b
   ·simp only[cond_false,dS,if_false];rw[<-oy];exact(CM hr y).1
   ·simp only[cond_true,if_true];rw[<-ox];exact(CM hr x).1
  ·cases b
   ·simp only[cond_false];rw[<-oy];exact(CM hr y).2
   ·simp only[cond_true];rw[<-ox];exact(CM hr x).2
 ·cases hp
end
section
variable {B:eI} {d:Nat} {up:Nat->Nat->Value} {S:Nat->af} {P:Program} {cx:Cx} {cR:mV} {cC eW:Nat} {R:Nat} {o:Oper} {Q:Exit->Act->World->Prop} {ops:Array Oper} {nt:Nat} {draw:Bool}
variable {K:List af} {out:List T} {i:Nat} {rc:Rec}
def AZ(P:Program)(S:Nat->af)(R:Nat)(K:List af)(out:List T)(ops:Array Oper)(Q:Exit->Act->World->Prop)(B:eI)(d:Nat)(up:Nat->Nat->Value)(nt:Nat)(i:Nat)(rc:Rec)
  (tr:List Tr)(lv:Nat)(s:St)(ct:Ct)(ρ:List T):Prop:=
 ∃rd wr gI e jf p',(∀e',tN P ops Q B d up nt (ρ++e++e') i rd wr ct.i gI.i s)∧ct.i<=gI.i∧rc (tr++[⟨rd,wr.map (·.1)⟩]) lv (s.fe wr) gI jf=some p'∧p'.den S R K (ρ++e)=some out∧
  (ρ++e).length=gI.a∧da jf (ρ++e)
def JP(S:Nat->af)(R:Nat)(K:List af)(out:List T)(cx:Cx)(cR:mV)(ops:Array Oper)(d:Nat)(o:Oper)(rc:Rec)(tr:List Tr)(lv:Nat)(s:St)(ct:Ct)(ρ:List T):Prop:=
 ∃g vs jf p',gw d ops o jf s=some true∧Du cx d s o=some (g,vs)∧da jf ρ∧cR (d+1) g vs lv s ct jf (Dw d o rc tr)=some p'∧p'.den S R K ρ=some out
theorem JQ{n:Nat}{x y:PL}{ρ:List T}(h:(PL.ite n x y).den S R K ρ=some out):∃b,ρ[n]?=some (.c (.bool b))∧(bif b then x.den S R K ρ else y.den S R K ρ)=some out:=by
 simp only[PL.den]at h
 cases hn:ρ[n]? with
 |none=>rw[List.getD_eq_getElem?_getD,hn]at h;simp[T.cp]at h
 |some t=>
  rw[List.getD_eq_getElem?_getD,hn]at h
  simp only[Option.getD_some]at h
  split at h
  ·exact⟨_,rfl,h⟩
  ·cases h
theorem R1{tr:List Tr}{lv:Nat}{s:St}{ct:Ct}{fs:jF}{ρ:List T}{p:PL}(ho:ops[i]?=some o)(hn:∀n,o.dst=some n->n<nt)(hg:gw d ops o fs s=some false)
  (h:Dv d ops o rc tr lv s ct fs=some p)(hp:p.den S R K ρ=some out)(hl:ρ.length=ct.a)(hf:da fs ρ):AZ P S R K out ops Q B d up nt i rc tr lv s ct ρ:=by
 refine⟨zk d ops o,fi d o (.tp []),ct,[],fs,p,λe'=>aga ho hn hg (by rw[List.append_nil];exact hf.ext),Nat.le_refl _,?_,by rw[List.append_nil];exact hp,by rw[List.append_nil];exact hl,by rw[List.append_nil];exact hf⟩
 unfold Dv at h
 unfold fi
 cases hd:o.dst with
 |none=>rw[hd]at h;exact h
 |some n=>rw[hd]at h;exact h
theorem Er{tr:List Tr}{lv:Nat}{s:St}{ct:Ct}{fs:jF}{ρ:List T}{p:PL}{b:Bool}{va vb:SV}(ho:ops[i]?=some o)(hn:∀n,o.dst=some n->n<nt)(hg:gw d ops o fs s=some true)
  (vG:vj d s o fs=some (.is b,va,vb))(h:xE d ops o rc tr lv s ct fs (bif b then va else vb)=some p)(hp:p.den S R K ρ=some out)(hl:ρ.length=ct.a)(hf:da fs ρ):AZ P S R K out ops Q B d up nt i rc tr lv s ct ρ:=by
 unfold xE at h
 cases hd:o.dst with
 |none=>rw[hd]at h;cases h
 |some n=>
  rw[hd]at h
  exact⟨zk d ops o++(vi o).map (bn.t d),[(.t d n,bif b then va else vb)],ct,[],fs,p,λe'=>agc ho hd (hn n hd) hg (by rw[List.append_nil];exact hf.ext) vG,Nat.le_refl _,h,
   by rw[List.append_nil];exact hp,by rw[List.append_nil];exact hl,by rw[List.append_nil];exact hf⟩
theorem R2{fs:jF}{s:St}{x:Bool}{m:Nat}{b:Bool}(h:gw d ops o fs s=some x)(hm:fact fs m=none):gw d ops o ((m,b)::fs) s=some x:=by
 unfold gw at h⊢
 cases hg:o.guard with
 |none=>rw[hg]at h;exact h
 |some jw=>
  obtain⟨j,iv⟩:=jw
  simp only[hg]at h⊢
  cases hb:(ops[j]?).bind (·.dst)with
  |none=>simp only[hb]at h;cases h
  |some g=>
   simp only[hb]at h⊢
   have key:∀dc,qC fs (s.get (.t d g))=dc->(∀n,dc≠.ask n)->dc≠.no->qC ((m,b)::fs) (s.get (.t d g))=dc:=by
    intro dc uQ h1 h2
    unfold qC at uQ⊢
    split at uQ
    ·exact uQ
    ·split at uQ
     ·exact uQ
     ·rename_i n hn
      split at uQ
      ·rename_i b' jz
       have dk:Nat.beq m n=false:=by
        cases hbq:Nat.beq m n with
        |false=>rfl
        |true=>rw[dN hbq,jz]at hm;cases hm
       simp only[fact,dk,cond_false,jz]
       exact uQ
      ·exact absurd uQ.symm (h1 _)
     ·exact absurd uQ.symm h2
   cases uQ:qC fs (s.get (.t d g))with
   |nil=>rw[key _ uQ (by simp) (by simp)];rw[uQ]at h;exact h
   |is b'=>rw[key _ uQ (by simp) (by simp)];rw[uQ]at h;exact h
   |ask n=>rw[uQ]at h;cases h
   |no=>rw[uQ]at h;cases h
theorem age{sv:SV}{fs:jF}{n:Nat}(h:qC fs sv=.ask n):fact fs n=none:=by
 unfold qC at h
 split at h
 ·cases h
 ·split at h
  ·cases h
  ·split at h
   ·cases h
   ·rename_i hn;cases h;exact hn
  ·cases h
theorem R3{tr:List Tr}{lv:Nat}{s:St}{ct:Ct}{fs:jF}{ρ:List T}{p:PL}(E:Env P cx S)(ho:ops[i]?=some o)(hn:∀n,o.dst=some n->n<nt)(hg:gw d ops o fs s=some true)
  (h:doO cx cR cC eW d ops draw o i rc tr lv s ct fs=some p)(hp:p.den S R K ρ=some out)(hl:ρ.length=ct.a)(hf:da fs ρ):
  AZ P S R K out ops Q B d up nt i rc tr lv s ct ρ∨(draw=false∧JP S R K out cx cR ops d o rc tr lv s ct ρ):=by
 unfold doO at h
 split at h
 ·rename_i dc va vb vG
  left
  split at h
  ·exact Er (b:=true) ho hn hg vG h hp hl hf
  ·exact Er (b:=false) ho hn hg vG h hp hl hf
  ·rename_i n
   simp only[cG,br]at h
   obtain⟨x,hx,y,hy,rfl⟩:=h
   obtain⟨b,hb,hp⟩:=JQ hp
   have R4:∀b,vj d s o ((n,b)::fs)=some (.is b,va,vb):=by
    intro b
    unfold vj at vG⊢
    split at vG
    ·simp only[br,Prod.mk.injEq]at vG⊢
     exact⟨Ep vG.1,vG.2⟩
    ·cases vG
   have cS:fact fs n=none:=by
    unfold vj at vG
    split at vG
    ·simp only[br,Prod.mk.injEq]at vG;exact age vG.1
    ·cases vG
   cases b with
   |true=>exact Er (b:=true) ho hn (R2 hg cS) (R4 true) hx hp hl (hf.cons hb)
   |false=>exact Er (b:=false) ho hn (R2 hg cS) (R4 false) hy hp hl (hf.cons hb)
  ·cases h;cases hp
  ·cases h;cases hp
 ·split at h
  ·rename_i g vs hi
   cases hd:draw with
   |true=>rw[hd]at h;simp only[cond_true,br]at h;subst h;cases hp
   |false=>
    rw[hd]at h
    simp only[cond_false]at h
    exact .inr ⟨rfl,g,vs,fs,p,hg,hi,hf,h,hp⟩
  ·left
   split at h
   ·cases h;cases hp
   ·rename_i k hk
    cases hc:(Nat.beq k.ct.a (ct.a+qo k.is)&&Nat.ble ct.i k.ct.i&&ru k.ct.a k.is)with
    |false=>rw[hc]at h;cases h
    |true=>
     rw[hc]at h
     simp only[cond_true,cG,br]at h
     obtain⟨p',rR,rfl⟩:=h
     simp only[bk]at hc
     obtain⟨⟨c1,c2⟩,c3⟩:=hc
     have c1:=dN c1
     obtain⟨ts,w1,w2,w3⟩:=Em (S:=S) (R:=R) (K:=K) (out:=out) (ρ:=ρ) (by rw[hl,<-c1];exact c3) hp
     refine⟨zk d ops o++Dq d s o,k.w,k.ct,ts,fs,p',λe'=>af' E ho hn hg (by rw[List.append_assoc];exact hf.ext) hk ?_,Nat.le_of_ble_eq_true c2,rR,w2,by rw[List.length_append,w1,hl,c1],hf.ext⟩
     show bA S (ρ++ts++e') k.ct.a k.is
     rw[c1,<-hl]
     exact w3 e'
theorem R5{tr:List Tr}{lv:Nat}{s:St}{ct:Ct}{fs:jF}{ρ:List T}{p:PL}(E:Env P cx S)(ho:ops[i]?=some o)(hn:∀n,o.dst=some n->n<nt)
  (h:zU cx cR cC eW d ops draw o i rc tr lv s ct fs=some p)(hp:p.den S R K ρ=some out)(hl:ρ.length=ct.a)(hf:da fs ρ):
  AZ P S R K out ops Q B d up nt i rc tr lv s ct ρ∨(draw=false∧JP S R K out cx cR ops d o rc tr lv s ct ρ):=by
 unfold zU at h
 simp only at h
 cases Jy:o.guard with
 |none=>
  rw[Jy]at h
  exact R3 E ho hn (by unfold gw;rw[Jy]) h hp hl hf
 |some jw=>
  obtain⟨j,iv⟩:=jw
  rw[Jy]at h
  simp only at h
  cases hb:(ops[j]?).bind (·.dst)with
  |none=>rw[hb]at h;cases h
  |some g=>
   rw[hb]at h
   simp only at h
   have hgw:∀fs x,(match qC fs (s.get (.t d g))with| .nil=>some false| .is b=>some (b==iv)|_=>none)=some x->gw d ops o fs s=some x:=by
    intro fs x hx
    unfold gw
    simp only[Jy,hb]
    exact hx
   have both:∀(fs:jF) (b:Bool) (p:PL),qC fs (s.get (.t d g))=.is b->(bif b==iv then doO cx cR cC eW d ops draw o i rc tr lv s ct fs else Dv d ops o rc tr lv s ct fs)=some p->p.den S R K ρ=some out->da fs ρ->
     AZ P S R K out ops Q B d up nt i rc tr lv s ct ρ∨(draw=false∧JP S R K out cx cR ops d o rc tr lv s ct ρ):=by
    intro fs b p hd h hp hf
    have hg:=hgw fs (b==iv) (by rw[hd])
    cases hbw:(b==iv)with
    |true=>rw[hbw]at h hg;exact R3 E ho hn hg h hp hl hf
    |false=>rw[hbw]at h hg;exact .inl (R1 ho hn hg h hp hl hf)
   cases hd:qC fs (s.get (.t d g))with
   |nil=>
    rw[hd]at h
    exact .inl (R1 ho hn (hgw fs false (by rw[hd])) h hp hl hf)
   |is b=>rw[hd]at h;exact both fs b p hd h hp hf
   |ask n=>
    rw[hd]at h
    simp only[cG,br]at h
    obtain⟨x,hx,y,hy,rfl⟩:=h
    obtain⟨b,jz,hp⟩:=JQ hp
    cases b with
    |true=>exact both _ true x (Ep hd) hx hp (hf.cons jz)
    |false=>exact both _ false y (Ep hd) hy hp (hf.cons jz)
   |no=>rw[hd]at h;cases h;cases hp
end
structure Fr where
 d:Nat
 up:Nat->Nat->Value
 nt:Nat
structure Zb where
 K:List af
 ρ:List T
def At(S:Nat->af)(R:Nat)(out:List T)(B:eI)(f:Fr)(K0:Zb)(X:Gh->World->List T->Prop)(p:PL)(lv:Nat)(s:St)(ct:Ct)(fs:jF)(a:Act)(w:World):Prop:=
 ∃K ρ G,p.den S R K ρ=some out∧K.length=lv∧(∃pre,K=pre++K0.K)∧(∃e,ρ=K0.ρ++e)∧ρ.length=ct.a∧da fs ρ∧Rel (λi=>i<ct.i) B f.d f.up s ρ G a w∧a.tmps.size=f.nt∧X G w ρ
def XT:Gh->World->List T->Prop:=λ_ _ _=>True
def yg(S:Nat->af)(R:Nat)(out:List T)(B:eI)(f:Fr)(K0:Zb)(k:KP)(Ψ:Act->World->Prop):Prop:=
 ∀lv s ct fs p a w,k lv s ct fs=some p->At S R out B f K0 XT p lv s ct fs a w->Ψ a w
def nc(us:List Value):Value:=if h:us.length=1 then us[0]else .tuple us.toArray
def A0(P:Program)(S:Nat->af)(R:Nat)(out:List T)(B:eI)(cR:mV):Prop:=
 ∀(f:Fr) (g:Nat) (vs:List SV) (lv:Nat) (s:St) (ct:Ct) (fs:jF) (kk:List SV->KP) (p:PL) (K0:Zb) (a:Act) (w:World) (args:List Value) (Ψ:Value->World->Prop),
  cR (f.d+1) g vs lv s ct fs kk=some p->At S R out B f K0 (λG w ρ=>cP G w ρ vs args∧∀v∈vs,∀i∈de v,i<ct.i) p lv s ct fs a w->
   (∀rs qv s' gI jf p' w' us,kk rs qv s' gI jf=some p'->At S R out B f K0 (λG w ρ=>cP G w ρ rs us∧∀v∈rs,∀i∈de v,i<gI.i) p' qv s' gI jf a w'->Ψ (nc us) w')->
   fF P g∧Calls P g args.toArray w λe w'=>∃v,e=.returned v∧Ψ v w'
section
variable {B:eI} {f:Fr} {S:Nat->af} {P:Program} {cx:Cx} {cR:mV} {cC eW:Nat} {R:Nat} {Q:Exit->Act->World->Prop} {ops:Array Oper} {out:List T} {K0:Zb}
theorem agf{lo hi:Nat}(h:lo<=hi)(i:Nat)(hm:Mn (λi=>i<lo) lo hi i):i<hi:=by
 rcases hm with h1|h1
 ·omega
 ·exact h1.2
theorem cP.length{G:Gh}{w:World}{ρ:List T}:∀{vs:List SV} {us:List Value},cP G w ρ vs us->vs.length=us.length
 | [],[],_=>rfl
 |_::_,_::_,h=>by simp[cP.length h.2]
 | [],_::_,h=>h.elim
 |_::_,[],h=>h.elim
theorem R6{G:Gh}{w:World}{ρ:List T}:∀{rs:List SV} {vs:List (Bool×List Ce)} {us:List Value},uG rs=some vs->cP G w ρ rs us->gn G w ρ vs us∧ry vs=rs.flatMap de
 | [],vs,us,h,hr=>by
  simp[uG]at h
  subst h
  cases us with
  |nil=>exact⟨trivial,rfl⟩
  |cons _ _=>exact hr.elim
 | .v ag cs::rs,vs,us,h,hr=>by
  simp only[uG,cG,br]at h
  obtain⟨l,hl,rfl⟩:=h
  cases us with
  |nil=>exact hr.elim
  |cons u us=>
   obtain⟨g1,g2⟩:=R6 hl hr.2
   exact⟨⟨hr.1,g1⟩,by simp[ry,de,g2]⟩
 | .un::rs,vs,us,h,hr=>by simp[uG]at h
 | .pt _ _::rs,vs,us,h,hr=>by simp[uG]at h
 | .ep _ _ _ _ _::rs,vs,us,h,hr=>by simp[uG]at h
 | .fp _ _ _ _::rs,vs,us,h,hr=>by simp[uG]at h
 | .tp _::rs,vs,us,h,hr=>by simp[uG]at h
 | .cl _ _::rs,vs,us,h,hr=>by simp[uG]at h
 | .ob _ _::rs,vs,us,h,hr=>by simp[uG]at h
 | .fz _ _::rs,vs,us,h,hr=>by simp[uG]at h
 | .tk _ _::rs,vs,us,h,hr=>by simp[uG]at h
 | .fl _::rs,vs,us,h,hr=>by simp[uG]at h
 | .fr _::rs,vs,us,h,hr=>by simp[uG]at h
theorem agh{o:Oper}{rc:Rec}{tr:List Tr}{rs:List SV}{lv:Nat}{s:St}{ct:Ct}{fs:jF}{p:PL}{a:Act}{w:World}{us:List Value}{Ψ:Act->World->Prop}(hn:∀n,o.dst=some n->n<f.nt)
  (h:Dw f.d o rc tr rs lv s ct fs=some p)(bE:At S R out B f K0 (λG w ρ=>cP G w ρ rs us∧∀v∈rs,∀i∈de v,i<ct.i) p lv s ct fs a w)
  (qX:∀tr lv s ct fs p a w,rc tr lv s ct fs=some p->At S R out B f K0 XT p lv s ct fs a w->Ψ a w):Ψ (a.put o.dst (nc us)) w:=by
 obtain⟨K,ρ,G,h1,h2,h3,h0,h4,h5,h6,h7,h8,h9⟩:=bE
 unfold Dw at h
 have key:∀(n:Nat) (v:SV),o.dst=some n->rc tr lv (s.set (.t f.d n) v) ct fs=some p->cD G w ρ v (nc us)->(∀i∈de v,i<ct.i)->Ψ (a.put o.dst (nc us)) w:=by
  intro n v hd hk hr hm
  rw[hd]
  exact qX tr lv _ ct fs p _ w hk ⟨K,ρ,G,h1,h2,h3,h0,h4,h5,h6.DS (by rw[h7];exact hn n hd) hr hm,by rw[Af];exact h7,trivial⟩
 have hlen:=h8.length
 split at h
 ·rename_i hd
  rw[hd]
  exact qX tr lv s ct fs p _ w h ⟨K,ρ,G,h1,h2,h3,h0,h4,h5,by simpa[Act.put]using h6,by simpa[Act.put]using h7,trivial⟩
 ·rename_i n v hd
  match us,h8 with
  | [u],h8=>exact key n v hd h h8.1 (h9 v (by simp))
 ·rename_i n hd
  exact key n .un hd h trivial (λi hi=>by simp[de]at hi)
 ·rename_i rs' _ _ n hd JR axL
  simp only[cG]at h
  obtain⟨vs,o7,h⟩:=h
  obtain⟨g1,g2⟩:=R6 o7 h8
  refine key n (.tp vs) hd h ⟨us,?_,g1⟩ λi hi=>?_
  ·unfold nc
   rw[dif_neg]
   intro he
   rw[<-hlen]at he
   match rs',JR,he with
   | [v],JR,_=>exact JR v rfl
  ·rw[show de (.tp vs)=ry vs from rfl,g2]at hi
   obtain⟨v,hv,hi⟩:=List.mem_flatMap.1 hi
   exact h9 v hv i hi
theorem agi{d:Nat}{up:Nat->Nat->Value}{M:Nat->Prop}{s:St}{ρ:List T}{G:Gh}{a:Act}{w:World}{o:Oper}{g:Nat}{vs:List SV}(hr:Rel M B d up s ρ G a w)(hi:Du cx d s o=some (g,vs)):
  ∃args:List Value,(fF P g->(execOp a.eval o).run P w=.ok (.enter g args.toArray) w)∧cP G w ρ vs args∧∀v∈vs,∀i∈de v,M i:=by
 unfold Du at hi
 split at hi
 ·rename_i c dV
  split at hi
  ·rename_i x agj
   split at hi
   ·rename_i g' bs hx
    split at hi
    ·cases hi
    ·simp only[br,Prod.mk.injEq]at hi
     obtain⟨rfl,rfl⟩:=hi
     obtain⟨h1,h2⟩:=CM hr x
     rw[hx]at h1 h2
     have hv:a.eval x=.func (.func g') #[] (bs.map λb=>Value.pointer (some ⟨G.β b,0,none⟩)).toArray:=h1
     refine⟨c.args.toList.map a.eval++bs.map λb=>Value.pointer (some ⟨G.β b,0,none⟩),?_,?_,?_⟩
     ·intro hg
      unfold execOp
      rw[dV]
      show Sem.run P (do let d <-resolve a.eval c o.type;invoke d.target d.args) w=_
      simp only[resolve,agj,hv,Deferred.ofValue,pure_bind,invoke]
      rw[RM hg]
      congr 2
      exact Array.ext' (by simp)
     ·have k1:∀l:List Operand,cP G w ρ (l.map (ch d s.get)++bs.map λb=>SV.pt b 0) (l.map a.eval++bs.map λb=>Value.pointer (some ⟨G.β b,0,none⟩)):=by
       intro l
       induction l with
       |nil=>
        clear hx h1 h2 hv
        induction bs with
        |nil=>trivial
        |cons b bs ih=>exact⟨rfl,ih⟩
       |cons y l ih=>exact⟨(CM hr y).1,ih⟩
      exact k1 _
     ·intro v hv i hi
      rcases List.mem_append.1 hv with hv|hv
      ·obtain⟨y,_,rfl⟩:=List.mem_map.1 hv
       exact(CM hr y).2 i hi
      ·obtain⟨b,hb,rfl⟩:=List.mem_map.1 hv
       simp[de]at hi
       subst hi
       exact h2 _ (by simpa[de]using hb)
   ·cases hi
  ·cases hi
 ·cases hi
theorem JS(E:Env P cx S)(hI:A0 P S R out B cR)(hn:∀o∈ops.toList,∀n,o.dst=some n->n<f.nt){fin:List Tr->KP}(lT:∀tr,yg S R out B f K0 (fin tr) (Q .normal)):
  ∀(os:List Oper) (i:Nat) (tr:List Tr) (lv:Nat) (s:St) (ct:Ct) (fs:jF) (p:PL) (a:Act) (w:World),ops.toList.drop i=os->Dx cx cR cC eW f.d ops false fin os i tr lv s ct fs=some p->
   At S R out B f K0 XT p lv s ct fs a w->wpOps P ops Q (List.range' i os.length) a w
 | [],i,tr,lv,s,ct,fs,p,a,w,_,h,bE=>lT tr lv s ct fs p a w h bE
 |o::os,i,tr,lv,s,ct,fs,p,a,w,Es,h,bE=>by
  have ho:ops[i]?=some o:=by
   rw[<-Array.getElem?_toList]
   have:=congrArg (·[0]?) Es
   simpa using this
  have iA:=hn o (List.mem_of_mem_drop (i:=i) (by rw[Es];simp))
  have Et:ops.toList.drop (i+1)=os:=by
   rw[<-List.drop_drop,Es];rfl
  have ih:=JS E hI hn lT os (i+1)
  obtain⟨K,ρ,G,h1,h2,h3,⟨e0,h0⟩,h4,h5,h6,h7,_⟩:=bE
  rw[List.length_cons,List.range'_succ,wpOps_cons]
  rcases R5 (P:=P) (Q:=Q) (B:=B) (up:=f.up) (nt:=f.nt) (R:=R) (K:=K) (out:=out) E ho iA (show zU cx cR cC eW f.d ops false o i (Dx cx cR cC eW f.d ops false fin os (i+1)) tr lv s ct fs=some p from h) h1 h4 h5 with
   ⟨rd,wr,gI,e,jf,p',tO,hle,qX,rR,ke,O_⟩|⟨_,g,vs,jf,p',hg,hi,O_,jl,rR⟩
  ·have R7:=tO []
   rw[List.append_nil]at R7
   refine R7 (λi=>i<ct.i) s G a w _ (λr hr=>rfl) h6.ext h7 (λj h1 h2=>by omega) λG' a' w' iN D4=>?_
   exact ih _ lv _ gI jf p' a' w' Et qX ⟨K,ρ++e,G',rR,h2,h3,⟨e0++e,by rw[h0,List.append_assoc]⟩,ke,O_,iN.mono (agf hle),D4,trivial⟩
  ·have hQ:=λ(args:List Value) hr=>hI f g vs lv s ct jf _ p' K0 a w args (λv w'=>wpOps P ops Q (List.range' (i+1) os.length) (a.put o.dst v) w') jl ⟨K,ρ,G,rR,h2,h3,⟨e0,h0⟩,h4,O_,h6,h7,hr⟩ λrs qv s' gI fs2 p2 w' us hk lh=>
    agh (Ψ:=λa w'=>wpOps P ops Q (List.range' (i+1) os.length) a w') iA hk lh λtr lv s ct fs p a w hk vH=>ih tr lv s ct fs p a w Et hk vH
   obtain⟨args,hx,hr,hm⟩:=agi (P:=P) h6 hi
   have hw:=Eo hg h6 O_
   unfold wpOp
   simp only[ho,hw,if_true]
   left
   simp only[Oper.wp]
   obtain⟨hg0,pR⟩:=hQ args ⟨hr,hm⟩
   rw[hx hg0]
   refine pR.mono ?_
   rintro e w' ⟨v,rfl,hv⟩
   exact hv
end
structure Item where
 rd:List bn
 wr:St
 lo:Nat
 hi:Nat
def Item.tr(it:Item):Tr:=⟨it.rd,it.wr.map (·.1)⟩
inductive gH (Ok:Nat->Item->St->Prop):Nat->St->Nat->List Item->St->Nat->Prop
 |nil {i:Nat} {s:St} {c:Nat}:gH Ok i s c [] s c
 |cons {i:Nat} {s s':St} {c c':Nat} {it:Item} {its:List Item} (h:Ok i it s) (hl:it.lo=c) (hh:c<=it.hi) (ht:gH Ok (i+1) (s.fe it.wr) it.hi its s' c'):gH Ok i s c (it::its) s' c'
def kF(D:Nat->Bool):Nat->St->List Item->St
 |_,s,[]=>s
 |i,s,it::its=>kF D (i+1) (bif D i then s.fe it.wr else s) its
theorem gH.mono{Ok Ok':Nat->Item->St->Prop}(h:∀i it s,Ok i it s->Ok' i it s){i:Nat}{s s':St}{c c':Nat}{its:List Item}(hc:gH Ok i s c its s' c'):gH Ok' i s c its s' c':=by
 induction hc with
 |nil=>exact .nil
 |cons h1 h2 h3 _ ih=>exact .cons (h _ _ _ h1) h2 h3 ih
theorem gH.le{Ok:Nat->Item->St->Prop}{i:Nat}{s s':St}{c c':Nat}{its:List Item}(hc:gH Ok i s c its s' c'):c<=c':=by
 induction hc with
 |nil=>exact Nat.le_refl _
 |cons _ _ h3 _ ih=>exact Nat.le_trans h3 ih
theorem gH.get{Ok:Nat->Item->St->Prop}{i:Nat}{s s':St}{c c':Nat}{its:List Item}(hc:gH Ok i s c its s' c'):∀(m:Nat) (it:Item),its[m]?=some it->
  Ok (i+m) it (kF (λ_=>true) i s (its.take m))∧c<=it.lo∧it.lo<=it.hi∧it.hi<=c':=by
 induction hc with
 |nil=>intro m it h;simp at h
 | @cons i s s' c c' O' its h1 h2 h3 h4 ih=>
  intro m it hm
  cases m with
  |zero=>
   simp at hm
   subst hm
   exact⟨h1,by omega,by omega,h4.le⟩
  |succ m=>
   obtain⟨g1,g2,g3,g4⟩:=ih m it (by simpa using hm)
   refine⟨?_,by omega,g3,g4⟩
   rw[show i+(m+1)=i+1+m by omega]
   simpa[kF]using g1
theorem gH.apart{Ok:Nat->Item->St->Prop}{i:Nat}{s s':St}{c c':Nat}{its:List Item}(hc:gH Ok i s c its s' c'):∀(m m':Nat) (it fj:Item),its[m]?=some it->its[m']?=some fj->m<m'->it.hi<=fj.lo:=by
 induction hc with
 |nil=>intro m m' it fj h;simp at h
 | @cons i s s' c c' O' its h1 h2 h3 h4 ih=>
  intro m m' it fj hm pE be
  cases m' with
  |zero=>omega
  |succ m'=>
   cases m with
   |zero=>
    simp at hm
    subst hm
    exact(h4.get m' fj (by simpa using pE)).2.1
   |succ m=>exact ih m m' it fj (by simpa using hm) (by simpa using pE) (by omega)
theorem gH.last{Ok:Nat->Item->St->Prop}{i:Nat}{s s':St}{c c':Nat}{its:List Item}(hc:gH Ok i s c its s' c'){D:Nat->Bool}:(∀m,m<its.length->D (i+m)=true)->kF D i s its=s':=by
 induction hc with
 |nil=>intro _;rfl
 | @cons i s s' c c' O' its h1 h2 h3 h4 ih=>
  intro h
  simp only[kF]
  rw[show D i=true from h 0 (by simp)]
  exact ih λm hm=>by rw[show i+1+m=i+(m+1) by omega];exact h (m+1) (by simpa using hm)
theorem JT{D:Nat->Bool}:∀{its:List Item} {i:Nat} {s:St},(∀m,m<its.length->D (i+m)=false)->kF D i s its=s
 | [],i,s,_=>rfl
 |it::its,i,s,h=>by
  simp only[kF]
  rw[show D i=false from h 0 (by simp)]
  exact JT λm hm=>by rw[show i+1+m=i+(m+1) by omega];exact h (m+1) (by simpa using hm)
theorem R8{D:Nat->Bool}:∀{its:List Item} {i:Nat} {s s2:St},(∀r,s.get r=s2.get r)->∀r,(kF D i s its).get r=(kF D i s2 its).get r
 | [],i,s,s2,h,r=>h r
 |it::its,i,s,s2,h,r=>by
  simp only[kF]
  refine R8 (λr=>?_) r
  cases D i with
  |true=>simp only[cond_true];rw[St.aS,St.aS,h]
  |false=>exact h r
theorem R9{D D':Nat->Bool}:∀{its:List Item} {i:Nat} {s:St},(∀m,m<its.length->D (i+m)=D' (i+m))->kF D i s its=kF D' i s its
 | [],i,s,_=>rfl
 |it::its,i,s,h=>by
  simp only[kF]
  rw[show D i=D' i from h 0 (by simp)]
  exact R9 λm hm=>by rw[show i+1+m=i+(m+1) by omega];exact h (m+1) (by simpa using hm)
theorem R_{D:Nat->Bool}{r:bn}:∀{its:List Item} {i:Nat} {s:St},(∀m it,its[m]?=some it->D (i+m)=true->it.wr.look r=none)->(kF D i s its).get r=s.get r
 | [],i,s,_=>rfl
 |it::its,i,s,h=>by
  simp only[kF]
  rw[R_ λm fj hm hd=>h (m+1) fj (by simpa using hm) (by rw[show i+(m+1)=i+1+m by omega];exact hd)]
  cases hD:D i with
  |false=>rfl
  |true=>
   simp only[cond_true]
   rw[St.aS,h 0 it rfl (by simpa using hD)]
   rfl
theorem R'{D:Nat->Bool}{W:St}:∀{its:List Item} {i:Nat} {s:St},(∀m it,its[m]?=some it->D (i+m)=true->∀r,it.wr.look r=none∨W.look r=none)->
  ∀r,((kF D i s its).fe W).get r=(kF D i (s.fe W) its).get r
 | [],i,s,_,r=>rfl
 |it::its,i,s,h,r=>by
  simp only[kF]
  rw[R' λm fj hm hd=>h (m+1) fj (by simpa using hm) (by rw[show i+(m+1)=i+1+m by omega];exact hd)]
  refine R8 (λr=>?_) r
  cases hD:D i with
  |false=>rfl
  |true=>
   simp only[cond_true]
   rw[St.aS,St.aS,St.aS,St.aS]
   rcases h 0 it rfl (by simpa using hD) r with h1|h1
   ·rw[h1];rfl
   ·rw[h1];rfl
def kG(D:Nat->Bool)(k:Nat):Nat->Bool:=λj=>if j=k then true else D j
theorem JU{D:Nat->Bool}:∀{its:List Item} {i m:Nat} {s:St} {it:Item},its[m]?=some it->D (i+m)=false->
  (∀m' fj,its[m']?=some fj->m<m'->D (i+m')=true->∀r,fj.wr.look r=none∨it.wr.look r=none)->∀r,((kF D i s its).fe it.wr).get r=(kF (kG D (i+m)) i s its).get r
 | [],i,m,s,it,h,_,_,r=>by simp at h
 |O'::its,i,0,s,it,h,hd,hc,r=>by
  simp at h
  subst h
  simp only[kF,Nat.add_zero]at hd⊢
  rw[hd,show kG D i i=true by simp[kG]]
  simp only[cond_false,cond_true]
  rw[R' λm fj hm jB=>hc (m+1) fj (by simpa using hm) (by omega) (by rw[show i+(m+1)=i+1+m by omega];exact jB)]
  exact congrArg (λx=>St.get x r) (R9 λm hm=>by
   have:¬(i+1+m=i):=by omega
   simp[kG,this])
 |O'::its,i,m+1,s,it,h,hd,hc,r=>by
  simp only[kF]
  have e:kG D (i+(m+1)) i=D i:=by
   have:¬(i=i+(m+1)):=by omega
   simp[kG]
  rw[e,show i+(m+1)=i+1+m by omega]
  exact JU (by simpa using h) (by rw[show i+1+m=i+(m+1) by omega];exact hd) (λm' fj hm be jB=>hc (m'+1) fj (by simpa using hm) (by omega) (by rw[show i+(m'+1)=i+1+m' by omega];exact jB)) r
theorem JV{D:Nat->Bool}{r:bn}:∀{its:List Item} {i m:Nat} {s s2:St},s.get r=s2.get r->m<=its.length->(∀m' fj,its[m']?=some fj->m'<m->D (i+m')=false->fj.wr.look r=none)->
  (∀m' fj,its[m']?=some fj->m<=m'->D (i+m')=true->fj.wr.look r=none)->(kF D i s its).get r=(kF (λ_=>true) i s2 (its.take m)).get r
 |its,i,0,s,s2,h,_,h1,h2=>by
  rw[List.take_zero]
  show _=s2.get r
  rw[R_ λm it hm hd=>h2 m it hm (by omega) hd,h]
 | [],i,m+1,s,s2,h,hl,_,_=>by simp at hl
 |O'::its,i,m+1,s,s2,h,hl,h1,h2=>by
  simp only[kF,List.take_succ_cons,cond_true]
  refine JV ?_ (by simpa using hl) (λm' fj hm be hd=>h1 (m'+1) fj (by simpa using hm) (by omega) (by rw[show i+(m'+1)=i+1+m' by omega];exact hd))
   (λm' fj hm be hd=>h2 (m'+1) fj (by simpa using hm) (by omega) (by rw[show i+(m'+1)=i+1+m' by omega];exact hd))
  cases hD:D i with
  |true=>simp only[cond_true];rw[St.aS,St.aS,h]
  |false=>
   simp only[cond_false]
   rw[St.aS,h1 0 O' rfl (by omega) (by simpa using hD)]
   exact h
theorem JW{xs ys:List bn}(h:Dr xs ys=false):∀r,r∈xs->r∈ys->False:=by
 intro r h1 h2
 have h3:ys.any r.beq=false:=by have:=List.any_eq_false.1 h r h1;rw[Bool.not_eq_true]at this;exact this
 have:=List.any_eq_false.1 h3 r h2
 exact this (bn.beq_iff.2 rfl)
theorem Eu{W:St}{r:bn}(h:r∉W.map (·.1)):W.look r=none:=by
 cases hl:W.look r with
 |none=>rfl
 |some u=>exact absurd (List.mem_map.2 ⟨(r,u),Eh hl,rfl⟩) h
theorem Pb{a b:Item}(h:Ds a.tr b.tr=true):(∀r∈b.rd,a.wr.look r=none)∧(∀r,a.wr.look r=none∨b.wr.look r=none)∧(∀r∈a.rd,b.wr.look r=none):=by
 simp only[Ds,bk,Bool.not_eq_true']at h
 obtain⟨⟨h1,h2⟩,h3⟩:=h
 refine⟨λr hr=>Eu λhm=>JW h1 r hm hr,λr=>?_,λr hr=>Eu λhm=>JW h3 r hr hm⟩
 by_cases hm:r∈a.wr.map (·.1)
 ·exact .inr (Eu λpE=>JW h2 r hm pE)
 ·exact .inl (Eu hm)
theorem Sa{bj:Nat}{t:Tr}:∀{us:List Tr} {i:Nat},Dt bj t i us=true->∀j u,us[j]?=some u->Nat.testBit bj (i+j)=true∨Ds u t=true
 | [],i,_,j,u,h=>by simp at h
 |v::us,i,h,j,u,hj=>by
  simp only[Dt,bk,Bool.or_eq_true]at h
  cases j with
  |zero=>simp at hj;subst hj;exact h.1
  |succ j=>
   have:=Sa h.2 j u (by simpa using hj)
   rw[show i+1+j=i+(j+1) by omega]at this
   exact this
theorem A1:∀{ts:List Tr} {bs:List Nat} {done:List Tr},zS done ts bs=true->∀(m u:Nat) (t tu:Tr) (b:Nat),ts[m]?=some t->bs[m]?=some b->u<done.length+m->(done++ts)[u]?=some tu->
  Nat.testBit b u=true∨Ds tu t=true
 | [],bs,done,_,m,u,t,tu,b,h,_,_,_=>by simp at h
 |_::_,[],done,_,m,u,t,tu,b,_,h,_,_=>by simp at h
 |t0::ts,b0::bs,done,h,m,u,t,tu,b,hm,hb,hu,hg=>by
  simp only[zS,bk]at h
  cases m with
  |zero=>
   simp at hm hb
   subst hm hb
   have:=Sa h.1 u tu (by rw[List.getElem?_append_left (by omega)]at hg;exact hg)
   simpa using this
  |succ m=>
   exact A1 h.2 m u t tu b (by simpa using hm) (by simpa using hb) (by simp;omega) (by simpa using hg)
def vI(n:Nat)(e:Edge):Bool:=Region.binds .any e&&Nat.blt e.on n
theorem Sb(acc:List Nat)(n:Nat):∀(es:List Edge) (s u:Nat),Nat.testBit (es.foldl (λs e=>bif vI n e then s|||(2^e.on)|||(acc.getD e.on 0)else s) s) u=true->
  Nat.testBit s u=true∨∃e∈es,vI n e=true∧(u=e.on∨Nat.testBit (acc.getD e.on 0) u=true)
 | [],s,u,h=>.inl h
 |e::es,s,u,h=>by
  rw[List.foldl_cons]at h
  rcases Sb acc n es _ u h with h1|⟨e',he',h1⟩
  ·cases hc:vI n e with
   |false=>rw[hc]at h1;exact .inl h1
   |true=>
    rw[hc]at h1
    simp only[cond_true,Nat.testBit_or,Bool.or_eq_true]at h1
    rcases h1 with(h1|h1)|h1
    ·exact .inl h1
    ·rw[Nat.testBit_two_pow]at h1
     simp at h1
     exact .inr ⟨e,by simp,hc,.inl h1.symm⟩
    ·exact .inr ⟨e,by simp,hc,.inr h1⟩
  ·exact .inr ⟨e',by simp[he'],h1⟩
theorem JX:∀(os:List Oper) (acc:List Nat) (j:Nat),j<acc.length->(lZ acc os)[j]?=acc[j]?
 | [],acc,j,_=>rfl
 |o::os,acc,j,h=>by
  simp only[lZ]
  rw[JX os _ j (by simp;omega),List.getElem?_append_left h]
theorem Ev:∀(os:List Oper) (acc:List Nat),(lZ acc os).length=acc.length+os.length
 | [],acc=>rfl
 |o::os,acc=>by simp only[lZ];rw[Ev];simp;omega
theorem JY:∀(os:List Oper) (acc:List Nat) (k b:Nat),acc.length<=k->(lZ acc os)[k]?=some b->∃o,os[k-acc.length]?=some o∧
  ∀u,Nat.testBit b u=true->∃e∈o.after.toList,vI k e=true∧(u=e.on∨Nat.testBit ((lZ acc os).getD e.on 0) u=true)
 | [],acc,k,b,hk,h=>by
  simp only[lZ]at h
  have:=(List.getElem?_eq_some_iff.1 h).1
  omega
 |o::os,acc,k,b,hk,h=>by
  simp only[lZ]at h⊢
  by_cases he:k=acc.length
  ·subst he
   rw[JX os _ _ (by simp),List.getElem?_append_right (Nat.le_refl _)]at h
   simp only[Nat.sub_self,List.getElem?_cons_zero,br]at h
   refine⟨o,by simp,λu hu=>?_⟩
   rw[<-h]at hu
   rcases Sb acc acc.length o.after.toList 0 u hu with h1|⟨e,he,h1,h2⟩
   ·simp at h1
   ·refine⟨e,he,h1,h2.imp_right λh2=>?_⟩
    have be:e.on<acc.length:=by
     simp only[vI,bk]at h1
     exact Nat.lt_of_succ_le (by simpa[Nat.blt]using h1.2)
    rw[List.getD_eq_getElem?_getD,JX os _ _ (by simp;omega),List.getElem?_append_left be,<-List.getD_eq_getElem?_getD]
    exact h2
  ·obtain⟨o',h1,h2⟩:=JY os _ k b (by simp;omega) h
   refine⟨o',?_,h2⟩
   rw[<-h1,show k-acc.length=(k-(acc.length+1))+1 by omega]
   simp
theorem A2:∀{os:List Oper} {i:Nat},xD i os=true->∀m o,os[m]?=some o->∀e∈o.after.toList,Region.binds .any e=true->e.on<i+m
 | [],i,_,m,o,h,_,_,_=>by simp at h
 |o0::os,i,h,m,o,hm,e,he,hb=>by
  simp only[xD,bk]at h
  cases m with
  |zero=>
   simp at hm
   subst hm
   have:=List.all_eq_true.1 h.1 e he
   simp only[hb,Bool.not_true,Bool.false_or]at this
   exact Nat.lt_of_succ_le (by simpa[Nat.blt]using this)
  |succ m=>
   have:=A2 h.2 m o (by simpa using hm) e he hb
   omega
def tQ(ops:Array Oper)(D:Nat->Bool):Prop:=∀(j:Nat) (o:Oper),D j=true->ops[j]?=some o->∀e∈o.after.toList,Region.binds .any e=true->D e.on=true
theorem JZ{ops:Array Oper}{D:Nat->Bool}(hc:tQ ops D):∀(j b u:Nat),D j=true->(lZ [] ops.toList)[j]?=some b->Nat.testBit b u=true->D u=true:=by
 intro j
 induction j using Nat.strongRecOn with
 |_ j ih=>
  intro b u hj hb hu
  obtain⟨o,ho,h⟩:=JY ops.toList [] j b (by simp) hb
  obtain⟨e,he,h1,h2⟩:=h u hu
  simp only[vI,bk]at h1
  have be:e.on<j:=Nat.lt_of_succ_le (by simpa[Nat.blt]using h1.2)
  have hd:=hc j o hj (by simpa using ho) e he h1.1
  rcases h2 with rfl|h2
  ·exact hd
  ·have hlen:e.on<(lZ [] ops.toList).length:=by
    have:=(List.getElem?_eq_some_iff.1 hb).1
    omega
   rw[List.getD_eq_getElem?_getD,List.getElem?_eq_getElem hlen]at h2
   exact ih e.on be _ u hd (List.getElem?_eq_getElem hlen) h2
theorem Ew{ops:Array Oper}{D:Nat->Bool}(hc:tQ ops D){k b u:Nat}{o:Oper}(ho:ops[k]?=some o)(hr:∀e∈o.after.toList,Region.binds .any e=true->D e.on=true)
  (hb:(lZ [] ops.toList)[k]?=some b)(hu:Nat.testBit b u=true):D u=true:=by
 obtain⟨o',HJ,h⟩:=JY ops.toList [] k b (by simp) hb
 simp only[List.length_nil,Nat.sub_zero,Array.getElem?_toList,ho,br]at HJ
 subst HJ
 obtain⟨e,he,h1,h2⟩:=h u hu
 simp only[vI,bk]at h1
 have hd:=hr e he h1.1
 have be:e.on<k:=Nat.lt_of_succ_le (by simpa[Nat.blt]using h1.2)
 rcases h2 with rfl|h2
 ·exact hd
 ·have hlen:e.on<(lZ [] ops.toList).length:=by
   have:=(List.getElem?_eq_some_iff.1 hb).1
   omega
  rw[List.getD_eq_getElem?_getD,List.getElem?_eq_getElem hlen]at h2
  exact JZ hc e.on _ u hd (List.getElem?_eq_getElem hlen) h2
def uR:List Bool->Nat
 | []=>0
 |true::l=>uR l
 |false::l=>uR l+1
theorem Sc:∀(l:List Bool) (i:Nat),l[i]?=some false->uR (l.set i true)+1=uR l
 | [],i,h=>by simp at h
 |b::l,0,h=>by simp at h;subst h;simp[uR]
 |true::l,i+1,h=>by simp only[List.set_cons_succ,uR];exact Sc l i (by simpa using h)
 |false::l,i+1,h=>by simp only[List.set_cons_succ,uR];rw[<-Sc l i (by simpa using h)]
theorem J0:∀(l:List Bool),uR l=0->∀i,i<l.length->l[i]?=some true
 | [],_,i,h=>by simp at h
 |true::l,h,0,_=>rfl
 |true::l,h,i+1,hi=>by simpa using J0 l h i (by simpa using hi)
 |false::l,h,_,_=>by simp[uR]at h
theorem Ey:∀n,uR (List.replicate n false)=n
 |0=>rfl
 |n+1=>by simp[List.replicate_succ,uR,Ey n]
section
variable {B:eI} {d:Nat} {up:Nat->Nat->Value} {S:Nat->af} {P:Program} {cx:Cx} {cR:mV} {cC eW:Nat} {R:Nat} {Q:Exit->Act->World->Prop} {ops:Array Oper} {nt:Nat} {ρ:List T}
variable {its:List Item} {s0 s1:St} {c0 c1:Nat}
def MD(c0:Nat)(its:List Item)(D:Nat->Bool)(j:Nat):Prop:=j<c0∨∃m it,its[m]?=some it∧D m=true∧it.lo<=j∧j<it.hi
def fK(aE:Array Bool)(j:Nat):Bool:=aE.getD j false
theorem Ez{aE:Array Bool}{i:Nat}(h:i<aE.size):fK (aE.setIfInBounds i true)=kG (fK aE) i:=by
 funext j
 unfold fK kG
 by_cases hj:j=i
 ·subst hj
  simp[Array.getD_eq_getD_getElem?,h]
 ·rw[if_neg hj,getD_set_ne _ (Ne.symm hj)]
theorem agl(hc:gH (λi it s=>tN P ops Q B d up nt ρ i it.rd it.wr it.lo it.hi s) 0 s0 c0 its s1 c1)(hlen:its.length=ops.size)(dQ:zS [] (its.map Item.tr) (lZ [] ops.toList)=true)(wQ:xD 0 ops.toList=true)
  (hQ:∀G a w,Rel (λi=>i<c1) B d up s1 ρ G a w->a.tmps.size=nt->Q .normal a w):
  ∀(A3:Nat) (aE:Array Bool) (a:Act) (w:World),aE.size=ops.size->uR aE.toList<=A3->tQ ops (fK aE)->
   (∃G,Rel (MD c0 its (fK aE)) B d up (kF (fK aE) 0 s0 its) ρ G a w)->a.tmps.size=nt->wpAny P .any ops Q A3 aE a w:=by
 have Sd:(lZ [] ops.toList).length=ops.size:=by rw[Ev];simp
 have gone:∀(aE:Array Bool),aE.size=ops.size->Region.ready .any ops aE=[]->∀j,j<ops.size->fK aE j=true:=by
  intro aE hs hr j
  induction j using Nat.strongRecOn with
  |_ j ih=>
   intro hj
   cases hd:fK aE j with
   |true=>rfl
   |false=>
    exfalso
    have ho:ops[j]?=some ops[j]:=Array.getElem?_eq_getElem hj
    have:j∈Region.ready .any ops aE:=by
     rw[mem_ready]
     refine⟨?_,ops[j],ho,λe he hb=>?_⟩
     ·unfold fK at hd
      rw[Array.getD_eq_getD_getElem?]at hd⊢
      rw[Array.getElem?_eq_getElem (by omega)]at hd⊢
      simpa using hd
     ·have be:=A2 wQ j ops[j] (by simp) e (by simpa using he) hb
      have be:e.on<j:=by omega
      exact ih e.on be (by omega)
    rw[hr]at this
    cases this
 have fin:∀(aE:Array Bool) (a:Act) (w:World),aE.size=ops.size->Region.ready .any ops aE=[]->(∃G,Rel (MD c0 its (fK aE)) B d up (kF (fK aE) 0 s0 its) ρ G a w)->a.tmps.size=nt->Q .normal a w:=by
  rintro aE a w hs hr ⟨G,jy⟩ mP
  have rQ:=gone aE hs hr
  rw[hc.last λm hm=>by rw[Nat.zero_add];exact rQ m (by omega)]at jy
  refine hQ G a w (jy.mono λj hj=>?_) mP
  rcases hj with h1|⟨m,it,hm,_,_,h3⟩
  ·exact Nat.lt_of_lt_of_le h1 hc.le
  ·exact Nat.lt_of_lt_of_le h3 (hc.get m it hm).2.2.2
 intro A3
 induction A3 with
 |zero=>
  intro aE a w hs hf _ hr mP
  have h0:∀j,j<ops.size->fK aE j=true:=by
   intro j hj
   have:=J0 aE.toList (by omega) j (by simp;omega)
   unfold fK
   rw[Array.getD_eq_getD_getElem?,<-Array.getElem?_toList,this]
   rfl
  have Pc:Region.ready .any ops aE=[]:=by
   cases hl:Region.ready .any ops aE with
   |nil=>rfl
   |cons j l=>
    exfalso
    have hm:j∈Region.ready .any ops aE:=by rw[hl];simp
    obtain⟨h1,o,ho,_⟩:=mem_ready.1 hm
    have hj:j<ops.size:=(Array.getElem?_eq_some_iff.1 ho).1
    have:=h0 j hj
    unfold fK at this
    rw[Array.getD_eq_getD_getElem?]at this h1
    rw[Array.getElem?_eq_getElem (by omega)]at this h1
    simp at this h1
    rw[this]at h1
    cases h1
  exact⟨Pc,fin aE a w hs Pc hr mP⟩
 |succ A3 ih=>
  intro aE a w hs hf oK hr mP
  refine⟨λPc=>fin aE a w hs Pc hr mP,λk hk=>?_⟩
  obtain⟨fh,o,ho,Pf⟩:=mem_ready.1 hk
  obtain⟨G,jy⟩:=hr
  have EA:k<ops.size:=(Array.getElem?_eq_some_iff.1 ho).1
  have EB:k<aE.size:=by omega
  have o6:fK aE k=false:=by
   unfold fK
   rw[Array.getD_eq_getD_getElem?]at fh⊢
   rw[Array.getElem?_eq_getElem EB]at fh⊢
   simpa using fh
  obtain⟨it,tO⟩:∃it,its[k]?=some it:=⟨its[k]'(by omega),List.getElem?_eq_getElem (by omega)⟩
  obtain⟨b,hb⟩:∃b,(lZ [] ops.toList)[k]?=some b:=⟨_,List.getElem?_eq_getElem (by omega)⟩
  obtain⟨g1,g2,g3,g4⟩:=hc.get k it tO
  have A4:(its.map Item.tr)[k]?=some it.tr:=by rw[List.getElem?_map,tO];rfl
  have A5:∀e∈o.after.toList,Region.binds .any e=true->fK aE e.on=true:=λe he J1=>Pf e (by simpa using he) J1
  have before:∀m' fj,its[m']?=some fj->m'<k->fK aE m'=false->Ds fj.tr it.tr=true:=by
   intro m' fj hm be hd
   rcases A1 dQ k m' it.tr fj.tr b A4 hb (by simpa using be) (by rw[List.nil_append,List.getElem?_map,hm];rfl)with h1|h1
   ·rw[Ew oK ho A5 hb h1]at hd;cases hd
   ·exact h1
  have behind:∀m' fj,its[m']?=some fj->k<m'->fK aE m'=true->Ds it.tr fj.tr=true:=by
   intro m' fj hm be hd
   have J2:m'<ops.size:=by rw[<-hlen];exact(List.getElem?_eq_some_iff.1 hm).1
   obtain⟨b',jz⟩:∃b',(lZ [] ops.toList)[m']?=some b':=⟨_,List.getElem?_eq_getElem (by omega)⟩
   rcases A1 dQ m' k fj.tr it.tr b' (by rw[List.getElem?_map,hm];rfl) jz (by simpa using be) (by rw[List.nil_append];exact A4)with h1|h1
   ·rw[JZ oK m' b' k hd jz h1]at o6;cases o6
   ·exact h1
  have pT:∀r∈it.rd,(kF (fK aE) 0 s0 its).get r=(kF (λ_=>true) 0 s0 (its.take k)).get r:=by
   intro r hr
   refine JV rfl (by omega) (λm' fj hm be hd=>?_) (λm' fj hm hle hd=>?_)
   ·rw[Nat.zero_add]at hd;exact(Pb (before m' fj hm be hd)).1 r hr
   ·rw[Nat.zero_add]at hd
    by_cases he:m'=k
    ·subst he;rw[o6]at hd;cases hd
    ·exact(Pb (behind m' fj hm (by omega) hd)).2.2 r hr
  have vJ:∀j,it.lo<=j->j<it.hi->¬MD c0 its (fK aE) j:=by
   rintro j h1 h2 (h3|⟨m,fj,hm,hd,h3,h4⟩)
   ·omega
   ·rcases Nat.lt_trichotomy m k with be|heq|Jd
    ·have:=hc.apart m k fj it hm tO be;omega
    ·subst heq;rw[o6]at hd;cases hd
    ·have:=hc.apart k m it fj tO hm Jd;omega
  rw[Nat.zero_add]at g1
  refine g1 (MD c0 its (fK aE)) (kF (fK aE) 0 s0 its) G a w _ pT jy mP vJ λG' a' w' iN D4=>?_
  have nT:=Ez (i:=k) EB
  refine ih (aE.setIfInBounds k true) a' w' (by simp[hs]) ?_ ?_ ?_ D4
  ·have:=Sc aE.toList k (by
    unfold fK at o6
    rw[Array.getD_eq_getD_getElem?,<-Array.getElem?_toList]at o6
    rw[List.getElem?_eq_getElem (by simpa using EB)]at o6⊢
    simpa using o6)
   rw[Array.toList_setIfInBounds]
   omega
  ·rw[nT]
   intro j oj hj J3 e he J1
   unfold kG at hj⊢
   by_cases Se:j=k
   ·subst Se
    rw[ho]at J3
    cases J3
    by_cases wR:e.on=j
    ·simp[wR]
    ·rw[if_neg wR];exact A5 e he J1
   ·rw[if_neg Se]at hj
    by_cases wR:e.on=k
    ·simp[wR]
    ·rw[if_neg wR];exact oK j oj hj J3 e he J1
  ·refine⟨G',?_⟩
   rw[nT]
   refine(iN.mono ?_).congr λr=>?_
   ·rintro j (h1|⟨h1,h2⟩)
    ·rcases h1 with h1|⟨m,fj,hm,hd,h3⟩
     ·exact .inl h1
     ·exact .inr ⟨m,fj,hm,by unfold kG;split<;>simp_all,h3⟩
    ·exact .inr ⟨k,it,tO,by simp[kG],h1,h2⟩
   ·have:=JU (D:=fK aE) (i:=0) tO (by rw[Nat.zero_add];exact o6) (s:=s0) (λm' fj hm be hd r=>by
     rw[Nat.zero_add]at hd
     rcases(Pb (behind m' fj hm be hd)).2.1 r with h1|h1
     ·exact .inr h1
     ·exact .inl h1) r
    rw[Nat.zero_add]at this
    exact this.symm
end
section
variable {B:eI} {f:Fr} {S:Nat->af} {P:Program} {cx:Cx} {cR:mV} {cC eW:Nat} {R:Nat} {Q:Exit->Act->World->Prop} {ops:Array Oper} {out:List T} {K0:Zb}
theorem J4(E:Env P cx S)(hn:∀o∈ops.toList,∀n,o.dst=some n->n<f.nt){fin:List Tr->KP}{K:List af}:
  ∀(os:List Oper) (i:Nat) (tr:List Tr) (lv:Nat) (s:St) (ct:Ct) (fs:jF) (p:PL) (ρ:List T),os <+:ops.toList.drop i->Dx cx cR cC eW f.d ops true fin os i tr lv s ct fs=some p->
   p.den S R K ρ=some out->ρ.length=ct.a->da fs ρ->∃its gI e s' jf p',its.length=os.length∧
    (∀e',gH (λi it s=>tN P ops Q B f.d f.up f.nt (ρ++e++e') i it.rd it.wr it.lo it.hi s) i s ct.i its s' gI.i)∧
    fin (tr++its.map Item.tr) lv s' gI jf=some p'∧p'.den S R K (ρ++e)=some out∧(ρ++e).length=gI.a∧da jf (ρ++e)
 | [],i,tr,lv,s,ct,fs,p,ρ,_,h,hp,hl,hf=>by
  refine⟨[],ct,[],s,fs,p,rfl,λe'=>.nil,?_,by rw[List.append_nil];exact hp,by rw[List.append_nil];exact hl,by rw[List.append_nil];exact hf⟩
  rw[List.map_nil,List.append_nil];exact h
 |o::os,i,tr,lv,s,ct,fs,p,ρ,Es,h,hp,hl,hf=>by
  obtain⟨te,pF⟩:=Es
  have ho:ops[i]?=some o:=by
   rw[<-Array.getElem?_toList]
   have:=congrArg (·[0]?) pF.symm
   simpa using this
  have iA:=hn o (List.mem_of_mem_drop (i:=i) (by rw[<-pF];simp))
  have Et:os <+:ops.toList.drop (i+1):=⟨te,by rw[<-List.drop_drop,<-pF];rfl⟩
  rcases R5 (P:=P) (Q:=Q) (B:=B) (up:=f.up) (nt:=f.nt) (R:=R) (K:=K) (out:=out) E ho iA (show zU cx cR cC eW f.d ops true o i (Dx cx cR cC eW f.d ops true fin os (i+1)) tr lv s ct fs=some p from h) hp hl hf with
   ⟨rd,wr,gI,e,jf,p',tO,hle,qX,rR,ke,O_⟩|⟨hd,_⟩
  ·obtain⟨its,ct2,e2,s2,fs2,p2,q1,q2,q3,q4,q5,q6⟩:=J4 E hn os (i+1) _ lv _ gI jf p' (ρ++e) Et qX rR ke O_
   refine⟨⟨rd,wr,ct.i,gI.i⟩::its,ct2,e++e2,s2,fs2,p2,by simp[q1],λe'=>.cons ?_ rfl hle ?_,?_,by rw[<-List.append_assoc];exact q4,by rw[<-List.append_assoc];exact q5,by rw[<-List.append_assoc];exact q6⟩
   ·have:=tO (e2++e')
    simp only[List.append_assoc]at this⊢
    exact this
   ·have:=q2 e'
    simp only[List.append_assoc]at this⊢
    exact this
   ·simp only[List.map_cons,Item.tr]
    rw[List.append_assoc]at q3
    exact q3
  ·cases hd
theorem Rel.drew{M:Nat->Prop}{d:Nat}{up:Nat->Nat->Value}{s:St}{ρ:List T}{G:Gh}{a:Act}{w:World}(h:Rel M B d up s ρ G a w):Rel M B d up s ρ G a {w with drawn:=w.drawn+1}:=by
 have k:di (λ_=>False) (λ_=>False) G w G {w with drawn:=w.drawn+1}:=⟨Nat.le_refl _,λ_ _ h=>⟨h,rfl⟩,λ_ _ h=>h,λ_ _ h _=>⟨h,rfl⟩,λ_ _=>⟨rfl,λ_ _=>rfl⟩⟩
 exact⟨λe n he=>(h.tm e n he).aY k λ_ _ hf=>hf,λb=>(h.bx b).aY k (λhf=>hf) (λhf=>hf) λ_ _ hf=>hf,λi=>(h.ob i).aY k (λ_ hf=>hf) (λhf=>hf) λ_ _ hf=>hf,h.fQ,h.key,h.ia,h.dn,
  ⟨h.base.os,h.base.tape,h.base.output,h.base.size,h.base.free,h.base.CL,h.base.gl⟩,h.bt⟩
theorem agm(E:Env P cx S)(hI:A0 P S R out B cR)(tF:P.follows .mixedOrders=true)(hn:∀o∈ops.toList,∀n,o.dst=some n->n<f.nt){id:Nat}{draw:Bool}{k:KP}(hk:yg S R out B f K0 k (Q .normal))
  {lv:Nat}{s:St}{ct:Ct}{fs:jF}{p:PL}{a:Act}{w:World}
  (h:Dx cx cR cC eW f.d ops draw (λtr lv s ct fs=>bif draw then bif zS [] tr (lZ [] ops.toList)&&xD 0 ops.toList then k lv s ct fs else some (.qR (cC*100000000+100000+id) [])else k lv s ct fs) ops.toList 0 [] lv s ct fs=some p)
  (bE:At S R out B f K0 XT p lv s ct fs a w):(Code.region id ops draw).wp P Q a w:=by
 cases draw with
 |false=>
  refine wp_region ?_
  rw[List.range_eq_range',<-Array.length_toList]
  exact JS E hI hn (fin:=λtr lv s ct fs=>k lv s ct fs) (λtr=>hk) ops.toList 0 [] lv s ct fs p a w rfl h bE
 |true=>
  refine wp_region_any tF ?_
  obtain⟨K,ρ,G,h1,h2,h3,⟨e0,h0⟩,h4,h5,h6,h7,_⟩:=bE
  obtain⟨its,gI,e,s',jf,p',q1,q2,q3,q4,q5,q6⟩:=J4 (Q:=Q) (B:=B) E hn ops.toList 0 [] lv s ct fs p ρ (List.prefix_refl _) h h1 h4 h5
  simp only[List.nil_append,cond_true]at q3
  cases hc:(zS [] (its.map Item.tr) (lZ [] ops.toList)&&xD 0 ops.toList)with
  |false=>
   rw[hc]at q3
   simp only[cond_false,br]at q3
   subst q3
   cases q4
  |true=>
   rw[hc]at q3
   simp only[cond_true]at q3
   simp only[bk]at hc
   have Pg:=q2 []
   rw[List.append_nil]at Pg
   have cS:∀j,fK (Array.replicate ops.size false) j=false:=by
    intro j
    unfold fK
    rw[Array.getD_eq_getD_getElem?,Array.getElem?_replicate]
    split<;>rfl
   refine agl (B:=B) Pg (by rw[q1];simp) hc.1 hc.2 (λG a w hr hs=>hk lv s' gI jf p' a w q3 ⟨K,ρ++e,G,q4,h2,h3,⟨e0++e,by rw[h0,List.append_assoc]⟩,q5,q6,hr,hs,trivial⟩) ops.size _ a _ (by simp)
    (by rw[Array.toList_replicate,Ey];exact Nat.le_refl _) (λj o hj=>by rw[cS j]at hj;cases hj) ⟨G,?_⟩ h7
   rw[JT λm _=>cS _]
   exact(h6.ext.drew).mono λi hi=>.inl hi
end
def HO(Q:Exit->Act->World->Prop):Exit->Act->World->Prop:=λe=>match e with| .normal=>Q .normal|_=>λ_ _=>False
theorem A6{n i:Nat}(h:i<=n):(vo n i).size=n:=by
 unfold vo;simp;omega
theorem EC{n i:Nat}(h:i<=n)(j:Nat):fK (vo n i) j=decide (j<i):=by
 unfold fK vo
 rw[Array.getD_eq_getD_getElem?]
 simp only[List.getElem?_toArray]
 by_cases h1:j<i
 ·rw[List.getElem?_append_left (by simpa using h1)]
  simp[h1]
 ·rw[List.getElem?_append_right (by simp;omega)]
  simp only[List.length_replicate,List.getElem?_replicate]
  by_cases h2:j-i<n-i
  ·simp[h1,h2]
  ·simp[h1,h2]
theorem agn{n i:Nat}(h:i<n):(vo n i).setIfInBounds i true=vo n (i+1):=by
 apply Array.ext
 ·rw[Array.size_setIfInBounds,A6 (by omega),A6 (by omega)]
 ·intro j h1 h2
  have e1:=EC (n:=n) (i:=i) (by omega) j
  have e2:=EC (n:=n) (i:=i+1) (by omega) j
  rw[Array.size_setIfInBounds]at h1
  rw[Array.getElem_setIfInBounds h1]
  unfold fK at e1 e2
  rw[Array.getD_eq_getD_getElem?,Array.getElem?_eq_getElem h1,Option.getD_some]at e1
  rw[Array.getD_eq_getD_getElem?,Array.getElem?_eq_getElem h2,Option.getD_some]at e2
  rw[e1,e2]
  split
  ·simp;omega
  ·by_cases h3:j<i
   ·simp[h3];omega
   ·simp[h3];omega
theorem Sf{l:Array Bool}{j:Nat}(h:j<l.size):l.getD j true=fK l j:=by
 unfold fK
 rw[Array.getD_eq_getD_getElem?,Array.getD_eq_getD_getElem?,Array.getElem?_eq_getElem h]
 rfl
theorem Ph{ops:Array Oper}{l:Array Bool}(hs:l.size=ops.size){j:Nat}:j∈Region.ready .any ops l↔fK l j=false∧∃o,ops[j]?=some o∧∀e∈o.after.toList,Region.binds .any e=true->fK l e.on=true:=by
 rw[mem_ready]
 constructor
 ·rintro⟨h1,o,ho,h2⟩
  have hj:j<ops.size:=(Array.getElem?_eq_some_iff.1 ho).1
  exact⟨by rw[<-Sf (by omega)];exact h1,o,ho,λe he hb=>h2 e (by simpa using he) hb⟩
 ·rintro⟨h1,o,ho,h2⟩
  have hj:j<ops.size:=(Array.getElem?_eq_some_iff.1 ho).1
  exact⟨by rw[Sf (by omega)];exact h1,o,ho,λe he hb=>h2 e (by simpa using he) hb⟩
theorem ago{ops:Array Oper}(wQ:xD 0 ops.toList=true){i:Nat}(hi:i<=ops.size):tQ ops (fK (vo ops.size i)):=by
 intro j o hj ho e he hb
 rw[EC hi]at hj⊢
 have:=A2 wQ j o (by simpa using ho) e he hb
 simp only[decide_eq_true_eq]at hj⊢
 omega
structure ED (ops:Array Oper) (c:Nat) (h:Bool):Prop where
 lt:c<ops.size
 bits:∀j,c<=j->j<ops.size->∀u,u<j->(h=true∧u=0)∨Nat.testBit ((lZ [] ops.toList).getD j 0) u=true
 Sg:h=true->II ops=true
 pos:h=true->0<c
theorem agp{ops:Array Oper}{c:Nat}{h:Bool}(hc:DF ops c h=true):ED ops c h:=by
 unfold DF at hc
 simp only[bk,List.all_eq_true,Bool.or_eq_true,Bool.not_eq_true']at hc
 obtain⟨⟨h1,h2⟩,h3⟩:=hc
 have h1:c<ops.size:=Nat.lt_of_succ_le (by simpa[Nat.blt]using h1)
 refine⟨h1,λj hj hn u hu=>?_,λhh=>?_,λhh=>?_⟩
 ·have:=h2 j (by rw[List.mem_range'_1];omega) u (by simpa using hu)
  rcases this with h|h
  ·exact .inl ⟨h.1,dN h.2⟩
  ·exact .inr h
 ·rcases h3 with h3|h3
  ·rw[hh]at h3;cases h3
  ·exact h3.1
 ·rcases h3 with h3|h3
  ·rw[hh]at h3;cases h3
  ·exact Nat.lt_of_succ_le (by simpa[Nat.blt]using h3.2)
section
variable {B:eI} {f:Fr} {S:Nat->af} {P:Program} {cx:Cx} {cR:mV} {cC eW:Nat} {R:Nat} {Q:Exit->Act->World->Prop} {ops:Array Oper} {out:List T} {K0:Zb}
theorem Sh{j:Nat}(hj:j<ops.size):(lZ [] ops.toList)[j]?=some ((lZ [] ops.toList).getD j 0):=by
 have hl:(lZ [] ops.toList).length=ops.size:=by rw[Ev];simp
 rw[List.getD_eq_getElem?_getD,List.getElem?_eq_getElem (by omega)]
 rfl
theorem agq{c:Nat}{h:Bool}(hc:ED ops c h)(wQ:xD 0 ops.toList=true){i:Nat}(hi:c<=i)(hn:i<ops.size):Region.ready .any ops (vo ops.size i)=[i]:=by
 have hs:=A6 (n:=ops.size) (i:=i) (by omega)
 have iB:∀j,j∈Region.ready .any ops (vo ops.size i)↔j=i:=by
  intro j
  rw[Ph hs]
  constructor
  ·rintro⟨h1,o,ho,h2⟩
   have hj:j<ops.size:=(Array.getElem?_eq_some_iff.1 ho).1
   rw[EC (by omega)]at h1
   simp only[decide_eq_false_iff_not]at h1
   refine Classical.byContradiction λdk=>?_
   rcases hc.bits j (by omega) hj i (by omega)with⟨hh,h0⟩|hb
   ·have:=hc.pos hh;omega
   ·have:=Ew (ago wQ (by omega)) ho h2 (Sh hj) hb
    rw[EC (by omega)]at this
    simp at this
  ·rintro rfl
   refine⟨by rw[EC (by omega)];simp,ops[j],Array.getElem?_eq_getElem hn,λe he hb=>?_⟩
   rw[EC (by omega)]
   have:=A2 wQ j ops[j] (by simp) e he hb
   simp;omega
 have CX:(Region.ready .any ops (vo ops.size i)).Nodup:=by
  unfold Region.ready
  exact List.Nodup.sublist List.filter_sublist List.nodup_range
 generalize Region.ready .any ops (vo ops.size i)=l at iB CX
 match l,iB,CX with
 | [],hm,_=>have:=(hm i).2 rfl;cases this
 | [x],hm,_=>rw[(hm x).1 (by simp)]
 |x::y::l,hm,hd=>
  have h1:=(hm x).1 (by simp)
  have h2:=(hm y).1 (by simp)
  rw[h1,h2]at hd
  simp at hd
theorem Si{c:Nat}{h:Bool}(hc:ED ops c h)(wQ:xD 0 ops.toList=true):∀(d i:Nat) (a:Act) (w:World),c<=i->i+d=ops.size->wpOps P ops Q (List.range' i d) a w->wpAny P .any ops Q d (vo ops.size i) a w
 |0,i,a,w,hi,hd,hw=>by
  refine wpAny_done ?_ hw 0
  refine List.eq_nil_iff_forall_not_mem.2 λj hj=>?_
  rw[Ph (A6 (by omega))]at hj
  obtain⟨h1,o,ho,_⟩:=hj
  have:=(Array.getElem?_eq_some_iff.1 ho).1
  rw[EC (by omega)]at h1
  simp at h1
  omega
 |d+1,i,a,w,hi,hd,hw=>by
  refine wpAny_all (agq hc wQ hi (by omega)) (by simp) λk hk=>?_
  rw[List.mem_singleton]at hk
  subst hk
  rw[List.range'_succ,wpOps_cons]at hw
  rw[agn (by omega)]
  exact wpOp_mono (λa w h=>Si hc wQ d (k+1) a w (by omega) (by omega) h) hw
theorem Sj:∀{l:List Bool},(∀i,i<l.length->l[i]?=some true)->uR l=0
 | [],_=>rfl
 |b::l,h=>by
  have h0:=h 0 (by simp)
  simp at h0
  subst h0
  have:=Sj (l:=l) λi hi=>by have:=h (i+1) (by simp;omega);simpa using this
  simpa[uR]using this
theorem Sk{d:Nat}{up:Nat->Nat->Value}{nt:Nat}{ρ:List T}{its:List Item}{s0 s1:St}{c0 c1 c:Nat}(hc:gH (λi it s=>tN P ops Q B d up nt ρ i it.rd it.wr it.lo it.hi s) 0 s0 c0 its s1 c1)(hlen:its.length=c)(hcn:c<=ops.size)
  (dQ:zS [] (its.map Item.tr) (lZ [] ops.toList)=true){aE:Array Bool}{a:Act}{w:World}{k:Nat}(hs:aE.size=ops.size)(oK:tQ ops (fK aE))
  (hr:∃G,Rel (MD c0 its (fK aE)) B d up (kF (fK aE) 0 s0 its) ρ G a w)(mP:a.tmps.size=nt)(hk:k∈Region.ready .any ops aE)(hkc:k<c){K:Act->World->Prop}
  (hK:∀a' w',tQ ops (fK (aE.setIfInBounds k true))->(∃G,Rel (MD c0 its (fK (aE.setIfInBounds k true))) B d up (kF (fK (aE.setIfInBounds k true)) 0 s0 its) ρ G a' w')->a'.tmps.size=nt->K a' w'):wpOp P ops Q k K a w:=by
 have Sd:(lZ [] ops.toList).length=ops.size:=by rw[Ev];simp
 obtain⟨o6,o,ho,A5⟩:=(Ph hs).1 hk
 obtain⟨G,jy⟩:=hr
 have EA:k<ops.size:=(Array.getElem?_eq_some_iff.1 ho).1
 have EB:k<aE.size:=by omega
 obtain⟨it,tO⟩:∃it,its[k]?=some it:=⟨its[k]'(by omega),List.getElem?_eq_getElem (by omega)⟩
 obtain⟨b,hb⟩:∃b,(lZ [] ops.toList)[k]?=some b:=⟨_,List.getElem?_eq_getElem (by omega)⟩
 obtain⟨g1,g2,g3,g4⟩:=hc.get k it tO
 have A4:(its.map Item.tr)[k]?=some it.tr:=by rw[List.getElem?_map,tO];rfl
 have before:∀m' fj,its[m']?=some fj->m'<k->fK aE m'=false->Ds fj.tr it.tr=true:=by
  intro m' fj hm be hd
  rcases A1 dQ k m' it.tr fj.tr b A4 hb (by simpa using be) (by rw[List.nil_append,List.getElem?_map,hm];rfl)with h1|h1
  ·rw[Ew oK ho A5 hb h1]at hd;cases hd
  ·exact h1
 have behind:∀m' fj,its[m']?=some fj->k<m'->fK aE m'=true->Ds it.tr fj.tr=true:=by
  intro m' fj hm be hd
  have J2:m'<ops.size:=by have:=(List.getElem?_eq_some_iff.1 hm).1;omega
  obtain⟨b',jz⟩:∃b',(lZ [] ops.toList)[m']?=some b':=⟨_,List.getElem?_eq_getElem (by omega)⟩
  rcases A1 dQ m' k fj.tr it.tr b' (by rw[List.getElem?_map,hm];rfl) jz (by simpa using be) (by rw[List.nil_append];exact A4)with h1|h1
  ·rw[JZ oK m' b' k hd jz h1]at o6;cases o6
  ·exact h1
 have pT:∀r∈it.rd,(kF (fK aE) 0 s0 its).get r=(kF (λ_=>true) 0 s0 (its.take k)).get r:=by
  intro r hr
  refine JV rfl (by omega) (λm' fj hm be hd=>?_) (λm' fj hm hle hd=>?_)
  ·rw[Nat.zero_add]at hd;exact(Pb (before m' fj hm be hd)).1 r hr
  ·rw[Nat.zero_add]at hd
   by_cases he:m'=k
   ·subst he;rw[o6]at hd;cases hd
   ·exact(Pb (behind m' fj hm (by omega) hd)).2.2 r hr
 have vJ:∀j,it.lo<=j->j<it.hi->¬MD c0 its (fK aE) j:=by
  rintro j h1 h2 (h3|⟨m,fj,hm,hd,h3,h4⟩)
  ·omega
  ·rcases Nat.lt_trichotomy m k with be|heq|Jd
   ·have:=hc.apart m k fj it hm tO be;omega
   ·subst heq;rw[o6]at hd;cases hd
   ·have:=hc.apart k m it fj tO hm Jd;omega
 rw[Nat.zero_add]at g1
 refine g1 (MD c0 its (fK aE)) (kF (fK aE) 0 s0 its) G a w _ pT jy mP vJ λG' a' w' iN D4=>?_
 have nT:=Ez (i:=k) EB
 refine hK a' w' ?_ ?_ D4
 ·rw[nT]
  intro j oj hj J3 e he J1
  unfold kG at hj⊢
  by_cases Se:j=k
  ·subst Se
   rw[ho]at J3
   cases J3
   by_cases wR:e.on=j
   ·simp[wR]
   ·rw[if_neg wR];exact A5 e he J1
  ·rw[if_neg Se]at hj
   by_cases wR:e.on=k
   ·simp[wR]
   ·rw[if_neg wR];exact oK j oj hj J3 e he J1
 ·refine⟨G',?_⟩
  rw[nT]
  refine(iN.mono ?_).congr λr=>?_
  ·rintro j (h1|⟨h1,h2⟩)
   ·rcases h1 with h1|⟨m,fj,hm,hd,h3⟩
    ·exact .inl h1
    ·exact .inr ⟨m,fj,hm,by unfold kG;split<;>simp_all,h3⟩
   ·exact .inr ⟨k,it,tO,by simp[kG],h1,h2⟩
  ·have:=JU (D:=fK aE) (i:=0) tO (by rw[Nat.zero_add];exact o6) (s:=s0) (λm' fj hm be hd r=>by
    rw[Nat.zero_add]at hd
    rcases(Pb (behind m' fj hm be hd)).2.1 r with h1|h1
    ·exact .inr h1
    ·exact .inl h1) r
   rw[Nat.zero_add]at this
   exact this.symm
theorem ags{d:Nat}{up:Nat->Nat->Value}{nt:Nat}{ρ:List T}{its:List Item}{s0 s1:St}{c0 c1 c:Nat}{h:Bool}(lU:ED ops c h)(hc:gH (λi it s=>tN P ops Q B d up nt ρ i it.rd it.wr it.lo it.hi s) 0 s0 c0 its s1 c1)(hlen:its.length=c)
  (dQ:zS [] (its.map Item.tr) (lZ [] ops.toList)=true)(wQ:xD 0 ops.toList=true)(hK:∀G a w,Rel (λi=>i<c1) B d up s1 ρ G a w->a.tmps.size=nt->wpAny P .any ops Q (ops.size-c) (vo ops.size c) a w):
  ∀(m:Nat) (aE:Array Bool) (a:Act) (w:World),aE.size=ops.size->uR (aE.toList.take c)=m->(∀j,c<=j->fK aE j=false)->(h=true->fK aE 0=true)->tQ ops (fK aE)->
   (∃G,Rel (MD c0 its (fK aE)) B d up (kF (fK aE) 0 s0 its) ρ G a w)->a.tmps.size=nt->wpAny P .any ops Q (m+(ops.size-c)) aE a w:=by
 have hcn:=lU.lt
 have at_:∀(aE:Array Bool) (j:Nat),aE.size=ops.size->j<c->(aE.toList.take c)[j]?=some (fK aE j):=by
  intro aE j hs hj
  rw[List.getElem?_take_of_lt hj,Array.getElem?_toList]
  unfold fK
  rw[Array.getD_eq_getD_getElem?,Array.getElem?_eq_getElem (by omega)]
  rfl
 intro m
 induction m with
 |zero=>
  intro aE a w hs hf hz _ oK hr mP
  have rQ:∀j,j<c->fK aE j=true:=by
   intro j hj
   have:=J0 _ hf j (by simp;omega)
   rw[at_ aE j hs hj]at this
   simpa using this
  have hl:aE=vo ops.size c:=by
   apply Array.ext
   ·rw[hs,A6 (by omega)]
   ·intro j h1 h2
    have e2:=EC (n:=ops.size) (i:=c) (by omega) j
    have e1:fK aE j=decide (j<c):=by
     by_cases hj:j<c
     ·rw[rQ j hj];simp[hj]
     ·rw[hz j (by omega)];simp[hj]
    unfold fK at e1 e2
    rw[Array.getD_eq_getD_getElem?,Array.getElem?_eq_getElem h1,Option.getD_some]at e1
    rw[Array.getD_eq_getD_getElem?,Array.getElem?_eq_getElem h2,Option.getD_some]at e2
    rw[e1,e2]
  obtain⟨G,jy⟩:=hr
  rw[hc.last λm hm=>by rw[Nat.zero_add];exact rQ m (by omega)]at jy
  rw[Nat.zero_add]
  have:=hK G a w (jy.mono λj hj=>by
   rcases hj with h1|⟨m,it,hm,_,_,h3⟩
   ·exact Nat.lt_of_lt_of_le h1 hc.le
   ·exact Nat.lt_of_lt_of_le h3 (hc.get m it hm).2.2.2) mP
  rw[hl]
  exact this
 |succ m ih=>
  intro aE a w hs hf hz hh oK hr mP
  rw[show m+1+(ops.size-c)=(m+(ops.size-c))+1 by omega]
  refine⟨λPc=>?_,λk hk=>?_⟩
  ·exfalso
   have gone:∀j,j<ops.size->fK aE j=true:=by
    intro j
    induction j using Nat.strongRecOn with
    |_ j ihj=>
     intro hj
     cases hd:fK aE j with
     |true=>rfl
     |false=>
      exfalso
      have:j∈Region.ready .any ops aE:=(Ph hs).2 ⟨hd,ops[j],Array.getElem?_eq_getElem hj,λe he hb=>by
       have be:=A2 wQ j ops[j] (by simp) e he hb
       exact ihj e.on (by omega) (by omega)⟩
      rw[Pc]at this
      cases this
   have:=gone c hcn
   rw[hz c (by omega)]at this
   cases this
  ·obtain⟨o6,o,ho,Pf⟩:=(Ph hs).1 hk
   have EA:k<ops.size:=(Array.getElem?_eq_some_iff.1 ho).1
   by_cases hkc:c<=k
   ·exfalso
    have:uR (aE.toList.take c)=0:=Sj λj hj=>by
     have hj:j<c:=by simp at hj;omega
     rw[at_ aE j hs hj]
     congr 1
     rcases lU.bits k hkc EA j (by omega)with⟨h1,rfl⟩|hb
     ·exact hh h1
     ·exact Ew oK ho Pf (Sh EA) hb
    omega
   ·refine Sk hc hlen (by omega) dQ hs oK hr mP hk (by omega) λa' w' J5 iN J6=>?_
    have EB:k<aE.size:=by omega
    have nT:=Ez (i:=k) EB
    refine ih (aE.setIfInBounds k true) a' w' (by simp[hs]) ?_ (λj hj=>?_) (λh1=>?_) J5 iN J6
    ·have:=Sc (aE.toList.take c) k (by rw[at_ aE k hs (by omega),o6])
     rw[Array.toList_setIfInBounds,List.take_set]
     omega
    ·rw[nT];unfold kG
     rw[if_neg (by omega)]
     exact hz j hj
    ·rw[nT];unfold kG
     split
     ·rfl
     ·exact hh h1
theorem Sl(E:Env P cx S)(hI:A0 P S R out B cR)(tF:P.follows .mixedOrders=true)(hn:∀o∈ops.toList,∀n,o.dst=some n->n<f.nt){id:Nat}{draw:Bool}{k:KP}(hk:yg S R out B f K0 k (Q .normal))
  {lv:Nat}{s:St}{ct:Ct}{fs:jF}{p:PL}{a:Act}{w:World}(h:DG cx cR cC id f.d ops draw k lv s ct fs=some p)(bE:At S R out B f K0 XT p lv s ct fs a w):(Code.region id ops draw).wp P Q a w:=by
 unfold DG at h
 split at h
 ·exact agm E hI tF hn hk h bE
 rename_i c hh agt
 cases draw with
 |false=>cases agt
 |true=>
 refine Code.wp_mono (Q:=HO Q) (λe a w h=>by cases e<;>first|exact h|exact h.elim) ?_
 refine wp_region_any tF ?_
 obtain⟨K,ρ,G,h1,h2,h3,⟨e0,h0⟩,h4,h5,h6,h7,_⟩:=bE
 obtain⟨its,gI,e,s',jf,p',q1,q2,q3,q4,q5,q6⟩:=J4 (Q:=HO Q) (B:=B) E hn (ops.toList.take c) 0 [] lv s ct fs p ρ (List.take_prefix c _) h h1 h4 h5
 simp only[List.nil_append]at q3
 cases hc:(zS [] (its.map Item.tr) (lZ [] ops.toList)&&(xD 0 ops.toList&&DF ops c hh))with
 |false=>
  rw[hc]at q3
  simp only[cond_false,br]at q3
  subst q3
  cases q4
 |true=>
 rw[hc]at q3
 simp only[cond_true]at q3
 simp only[bk]at hc
 obtain⟨dQ,wQ,hcu⟩:=hc
 have lU:=agp hcu
 have oK:=lU.lt
 have Pg:=q2 []
 rw[List.append_nil]at Pg
 have hlen:its.length=c:=by rw[q1,List.length_take,Array.length_toList];omega
 have hK:∀G a w,Rel (λi=>i<gI.i) B f.d f.up s' (ρ++e) G a w->a.tmps.size=f.nt->wpAny P .any ops (HO Q) (ops.size-c) (vo ops.size c) a w:=λG a w hr hs=>by
  have:=JS (Q:=HO Q) (K0:=K0) E hI hn (fin:=λ_=>k) (λ_=>hk) (ops.toList.drop c) c [] lv s' gI jf p' a w rfl q3 ⟨K,ρ++e,G,q4,h2,h3,⟨e0++e,by rw[h0,List.append_assoc]⟩,q5,q6,hr,hs,trivial⟩
  rw[List.length_drop,Array.length_toList]at this
  exact Si lU wQ (ops.size-c) c a w (Nat.le_refl _) (by omega) this
 have main:=ags lU Pg hlen dQ wQ hK
 have cS:∀j,fK (Array.replicate ops.size false) j=false:=by
  intro j
  unfold fK
  rw[Array.getD_eq_getD_getElem?,Array.getElem?_replicate]
  split<;>rfl
 have Sm:tQ ops (fK (Array.replicate ops.size false)):=λj o hj=>by rw[cS j]at hj;cases hj
 have jy:∃G,Rel (MD ct.i its (fK (Array.replicate ops.size false))) B f.d f.up (kF (fK (Array.replicate ops.size false)) 0 s its) (ρ++e) G a {w with drawn:=w.drawn+1}:=by
  refine⟨G,?_⟩
  rw[JT λm _=>cS _]
  exact(h6.ext.drew).mono λi hi=>.inl hi
 cases hh with
 |false=>
  have:=main c (Array.replicate ops.size false) a _ (by simp) (by rw[Array.toList_replicate,List.take_replicate,Ey];omega) (λj _=>cS j) (by simp) Sm jy h7
  rw[show c+(ops.size-c)=ops.size by omega]at this
  exact this
 |true=>
  have J7:=lU.pos rfl
  have sJ:=lU.Sg rfl
  unfold II at sJ
  split at sJ
  ·cases sJ
  rename_i o os Es
  simp only[bk,List.all_eq_true,Option.isNone_iff_eq_none,Bool.or_eq_true,List.any_eq_true,Bool.not_eq_true']at sJ
  obtain⟨⟨⟨⟨agu,hgu⟩,sG⟩,haf⟩,hap⟩:=sJ
  have ho0:ops[0]?=some o:=by rw[<-Array.getElem?_toList,Es];rfl
  obtain⟨x,hx⟩:∃x,o.op=.move x:=by
   revert sG
   cases o.op<;>intro sG<;>first|exact⟨_,rfl⟩|cases sG
  have eB:∀w,(execOp a.eval o).run P w=.ok (.value (a.eval x)) w:=λw=>by unfold execOp;rw[hx];rfl
  have HP:Region.wanted o (yielded ops a.tmps)=true:=by unfold Region.wanted;rw[hgu]
  have A7:0∈Region.ready .any ops (Array.replicate ops.size false):=(Ph (by simp)).2 ⟨cS 0,o,ho0,λe he hb=>by rw[haf e he]at hb;cases hb⟩
  have dV:wpOp P ops (HO Q) 0 (wpAny P .any ops (HO Q) (ops.size-1) ((Array.replicate ops.size false).setIfInBounds 0 true)) a {w with drawn:=w.drawn+1}:=by
   refine Sk Pg hlen (by omega) dQ (by simp) Sm jy h7 A7 J7 λa' w' J5 iN J6=>?_
   have nT:=Ez (aE:=Array.replicate ops.size false) (i:=0) (by simp;omega)
   have:=main (c-1) ((Array.replicate ops.size false).setIfInBounds 0 true) a' w' (by simp) ?_ (λj hj=>?_) (λ_=>?_) J5 iN J6
   ·rw[show c-1+(ops.size-c)=ops.size-1 by omega]at this
    exact this
   ·have h9:=Sc (List.replicate c false) 0 (by rw[List.getElem?_replicate];simp;omega)
    rw[Ey]at h9
    rw[Array.toList_setIfInBounds,Array.toList_replicate,List.take_set,List.take_replicate,Nat.min_eq_left (by omega)]
    omega
   ·rw[nT];unfold kG
    rw[if_neg (by omega)]
    exact cS j
   ·rw[nT];simp[kG]
  have kt:wpAny P .any ops (HO Q) (ops.size-1) ((Array.replicate ops.size false).setIfInBounds 0 true) (a.put o.dst (a.eval x)) {w with drawn:=w.drawn+1}:=by
   unfold wpOp at dV
   simp only[ho0,HP,if_true]at dV
   rcases dV with dV|⟨_,a0,w0,hf⟩
   ·simp only[Oper.wp,eB]at dV
    exact dV
   ·exact hf.elim
  have Sn:=wpAny_first (md:=.any) (Q:=HO Q) ho0 (λj oj cs b hj heq=>by
    have hm:oj∈o::os:=by rw[<-Es];exact List.mem_of_getElem? (by rw[Array.getElem?_toList];exact hj)
    have:=agu oj hm
    rw[heq]at this
    cases this) (λc a w h=>h.elim) (ops.size-1) (Array.replicate ops.size false) a {w with drawn:=w.drawn+1} (λj oj hj dk _ OX=>by
    have hm:oj∈os:=by
     have:ops.toList[j]?=some oj:=by rw[Array.getElem?_toList];exact hj
     rw[Es]at this
     obtain⟨j',rfl⟩:∃j',j=j'+1:=⟨j-1,by omega⟩
     exact List.mem_of_getElem? (by simpa using this)
    rcases hap oj hm with⟨e,he,hb⟩|hb
    ·exact absurd (dN hb.2) (OX e (by simpa using he) hb.1)
    ·exact hb) A7 (.inl ⟨HP,eB⟩) kt
  rw[show ops.size-1+1=ops.size by omega]at Sn
  exact Sn
end
theorem J8:∀{p q:mJ},vk p q=true->p=q
 | [],[],_=>rfl
 |(x,w,j)::p,(x',w',j')::q,h=>by
  simp only[vk,bk]at h
  obtain⟨⟨⟨h1,h2⟩,h3⟩,h4⟩:=h
  rw[Lf.beq_eq h1,dN h2,dN h3,J8 h4]
 | [],_::_,h=>by simp[vk]at h
 |_::_,[],h=>by simp[vk]at h
theorem Ce.beq_eq{c e:Ce}(h:c.beq e=true):c=e:=by
 cases c<;>cases e<;>simp only[Ce.beq,bk]at h<;>try cases h
 ·rw[Lf.beq_eq h]
 ·rename_i h1 h2;rw[dN h1,J8 h2]
 ·rfl
 ·rfl
theorem J9:∀{cs es:List Ce},vl cs es=true->cs=es
 | [],[],_=>rfl
 |c::cs,e::es,h=>by simp only[vl,bk]at h;rw[Ce.beq_eq h.1,J9 h.2]
 | [],_::_,h=>by simp[vl]at h
 |_::_,[],h=>by simp[vl]at h
theorem So:∀{cs es:List Nat},xF cs es=true->cs=es
 | [],[],_=>rfl
 |c::cs,e::es,h=>by simp only[xF,bk]at h;rw[dN h.1,So h.2]
 | [],_::_,h=>by simp[xF]at h
 |_::_,[],h=>by simp[xF]at h
theorem Sp:∀{cs es:List (Bool×List Ce)},xG cs es=true->cs=es
 | [],[],_=>rfl
 |(a,c)::cs,(b,e)::es,h=>by
  simp only[xG,bk,beq_iff_eq]at h
  rw[h.1.1,J9 h.1.2,Sp h.2]
 | [],_::_,h=>by simp[xG]at h
 |_::_,[],h=>by simp[xG]at h
theorem SV.beq_eq{v u:SV}(h:v.beq u=true):v=.un∨v=u:=by
 cases v with
 |un=>exact .inl rfl
 |v a cs=>
  cases u with
  |v b es=>simp only[SV.beq,bk,beq_iff_eq]at h;rw[h.1,J9 h.2];exact .inr rfl
  |_=>simp[SV.beq]at h
 |pt b o=>
  cases u with
  |pt b o=>simp only[SV.beq,bk]at h;rw[dN h.1,dN h.2];exact .inr rfl
  |_=>simp[SV.beq]at h
 |ep i q x w o=>
  cases u with
  |ep i q x w o=>
   simp only[SV.beq,bk]at h
   obtain⟨⟨⟨⟨h1,h2⟩,h3⟩,h4⟩,h5⟩:=h
   rw[dN h1,J8 h2,Lf.beq_eq h3,dN h4,dN h5];exact .inr rfl
  |_=>simp[SV.beq]at h
 |fp s x w o=>
  cases u with
  |fp s x w o=>
   simp only[SV.beq,bk]at h
   obtain⟨⟨⟨h1,h2⟩,h3⟩,h4⟩:=h
   rw[Lf.beq_eq h1,Lf.beq_eq h2,dN h3,dN h4];exact .inr rfl
  |_=>simp[SV.beq]at h
 |tp vs=>
  cases u with
  |tp us=>simp only[SV.beq]at h;rw[Sp h];exact .inr rfl
  |_=>simp[SV.beq]at h
 |cl f bs=>
  cases u with
  |cl f bs=>simp only[SV.beq,bk]at h;rw[dN h.1,So h.2];exact .inr rfl
  |_=>simp[SV.beq]at h
 |ob d x=>
  cases u with
  |ob d x=>simp only[SV.beq,bk,beq_iff_eq]at h;rw[h.1,Lf.beq_eq h.2];exact .inr rfl
  |_=>simp[SV.beq]at h
 |fz p x=>
  cases u with
  |fz q y=>
   simp only[SV.beq,bk]at h
   have e2:=Lf.beq_eq h.2
   subst e2
   have h1:=h.1
   cases p with
   |z=>
    cases q with
    |z=>exact .inr rfl
    |w=>simp[Pv.beq]at h1
   |w t x0 l=>
    cases q with
    |z=>simp[Pv.beq]at h1
    |w t' x0' l'=>
     simp only[Pv.beq,bk]at h1
     rw[dN h1.1.1,Lf.beq_eq h1.1.2,Lf.beq_eq h1.2];exact .inr rfl
  |_=>simp[SV.beq]at h
 |tk x m=>
  cases u with
  |tk y n=>simp only[SV.beq,bk]at h;rw[Lf.beq_eq h.1,Lf.beq_eq h.2];exact .inr rfl
  |_=>simp[SV.beq]at h
 |fl x=>
  cases u with
  |fl x=>simp only[SV.beq]at h;rw[Lf.beq_eq h];exact .inr rfl
  |_=>simp[SV.beq]at h
 |fr x=>
  cases u with
  |fr x=>simp only[SV.beq]at h;rw[Lf.beq_eq h];exact .inr rfl
  |_=>simp[SV.beq]at h
def yh(n:Nat)(ρ nC:List T):Prop:=∀m,m<n->ρ[m]?=nC[m]?
theorem wS{a b:Nat}(h:Nat.blt a b=true):a<b:=Nat.lt_of_succ_le (by simpa[Nat.blt]using h)
section
variable {G:Gh} {w:World} {ρ nC:List T} {n i:Nat}
theorem Lf.gp(ha:yh n ρ nC){x:Lf}(h:x.iZ n=true):x.fE ρ=x.fE nC:=by
 cases x with
 |k v=>rfl
 |a m=>exact ha m (wS h)
 |e=>rfl
theorem EE(ha:yh n ρ nC){x:Lf}(h:x.iZ n=true):lI ρ x=lI nC x:=by unfold lI;rw[Lf.gp ha h]
theorem Sq(ha:yh n ρ nC):∀{q:mJ},xH n q=true->gD ρ q=gD nC q
 | [],_=>rfl
 |(x,w,j)::q,h=>by
  simp only[xH,bk]at h
  simp only[gD,EE ha h.1,Sq ha h.2]
theorem Sr(ha:yh n ρ nC){id:Nat}{q:mJ}(h:xH n q=true):kR ρ id q=kR nC id q:=by
 cases q with
 |nil=>rfl
 |cons x q=>simp only[kR];rw[Sq ha h]
theorem fT.rU(ha:yh n ρ nC){c:Ce}{v:Value}(hb:c.iZ n i=true)(h:fT G w ρ c v):fT G w nC c v:=by
 cases c with
 |p x=>obtain⟨t,h1,h2⟩:=h;exact⟨t,by rw[<-Lf.gp ha hb];exact h1,h2⟩
 |o id q=>
  simp only[Ce.iZ,bk]at hb
  obtain⟨p,h1,h2⟩:=h
  exact⟨p,by rw[<-Sr ha hb.2];exact h1,h2⟩
 |n=>exact h
 |d=>exact h
theorem aX.rU(ha:yh n ρ nC):∀{cs:List Ce} {vs:List Value},zZ n i cs=true->aX G w ρ cs vs->aX G w nC cs vs
 | [],[],_,_=>trivial
 |c::cs,v::vs,hb,h=>by
  simp only[zZ,bk]at hb
  exact⟨h.1.rU ha hb.1,aX.rU ha hb.2 h.2⟩
 | [],_::_,_,h=>h.elim
 |_::_,[],_,h=>h.elim
theorem eY.rU(ha:yh n ρ nC){ag:Bool}{cs:List Ce}{c:Value}(hb:zZ n i cs=true)(h:eY G w ρ ag cs c):eY G w nC ag cs c:=by
 cases ag with
 |true=>obtain⟨vs,h1,h2⟩:=h;exact⟨vs,h1,h2.rU ha hb⟩
 |false=>
  obtain⟨x,rfl,h2,h3⟩:=h
  simp only[zZ,Bool.and_true]at hb
  exact⟨x,rfl,h2.rU ha hb,h3⟩
theorem gn.rU(ha:yh n ρ nC):∀{cs:List (Bool×List Ce)} {vs:List Value},xI n i cs=true->gn G w ρ cs vs->gn G w nC cs vs
 | [],[],_,_=>trivial
 |c::cs,v::vs,hb,h=>by
  simp only[xI,bk]at hb
  exact⟨h.1.rU ha hb.1,gn.rU ha hb.2 h.2⟩
 | [],_::_,_,h=>h.elim
 |_::_,[],_,h=>h.elim
theorem cD.rU(ha:yh n ρ nC){v:SV}{c:Value}(hb:v.iZ n i=true)(h:cD G w ρ v c):cD G w nC v c:=by
 cases v with
 |un=>trivial
 |v ag cs=>exact eY.rU ha hb h
 |pt b off=>exact h
 |ep id q ix wd off=>
  simp only[SV.iZ,bk]at hb
  obtain⟨p,b,m,cap,j,h1,h2,h3,h4⟩:=h
  exact⟨p,b,m,cap,j,by rw[<-Sr ha hb.1.2];exact h1,h2,by rw[<-EE ha hb.2];exact h3,h4⟩
 |fp s ix wd off=>
  simp only[SV.iZ,bk]at hb
  obtain⟨xs,j,r,b,base,h1,h2,h3⟩:=h
  exact⟨xs,j,r,b,base,by rw[<-Lf.gp ha hb.1];exact h1,by rw[<-EE ha hb.2];exact h2,h3⟩
 |tp vs=>obtain⟨us,h1,h2⟩:=h;exact⟨us,h1,h2.rU ha hb⟩
 |cl f bs=>exact h
 |ob dp x=>exact h
 |fz pv x=>exact h
 |tk x m=>exact h
 |fl x=>exact h
 |fr x=>exact h
theorem fP.rU(ha:yh n ρ nC){b:Nat}{v:SV}(hb:v.iZ n i=true)(h:fP G w ρ b v):fP G w nC b v:=by
 cases v with
 |v ag cs=>obtain⟨h1,bT,elem,h2,h3⟩:=h;exact⟨h1,bT,elem,h2,h3.rU ha hb⟩
 |_=>exact h
theorem cE.rU(ha:yh n ρ nC){b:Nat}{v:SV}(hb:v.iZ n i=true)(h:cE G w ρ b v):cE G w nC b v:=by
 cases v with
 |ob dp x=>obtain⟨t,h1,h2⟩:=h;exact⟨t,by rw[<-Lf.gp ha hb];exact h1,h2⟩
 |fz pv x=>
  simp only[SV.iZ,bk]at hb
  obtain⟨t,h1,h2,h3⟩:=h
  refine⟨t,by rw[<-Lf.gp ha hb.2];exact h1,h2,?_⟩
  have ma:=hb.1
  cases pv with
  |z=>trivial
  |w tk x0 lo=>
   simp only[Pv.iZ,bk]at ma
   obtain⟨g0,F,n,zs,g1,g2,g3⟩:=h3
   exact⟨g0,F,n,zs,by rw[<-Lf.gp ha ma.1.2];exact g1,by rw[<-EE ha ma.2];exact g2,g3⟩
 |tk x m=>
  simp only[SV.iZ,bk]at hb
  obtain⟨h0,F,u,h1,h2,h3⟩:=h
  exact⟨h0,F,u,by rw[<-Lf.gp ha hb.1];exact h1,by rw[<-Lf.gp ha hb.2];exact h2,h3⟩
 |fl x=>obtain⟨h0,t,h1,h2⟩:=h;exact⟨h0,t,by rw[<-Lf.gp ha hb];exact h1,h2⟩
 |fr x=>obtain⟨h0,t,h1,h2⟩:=h;exact⟨h0,t,by rw[<-Lf.gp ha hb];exact h1,h2⟩
 |_=>exact h
theorem HQ:∀{cs:List Ce},zZ n i cs=true->∀j∈dF cs,j<i
 | [],_,j,hj=>by simp[dF]at hj
 |c::cs,h,j,hj=>by
  simp only[zZ,bk]at h
  cases c with
  |o id q=>
   simp only[Ce.iZ,bk]at h
   simp only[dF,List.mem_cons]at hj
   rcases hj with rfl|hj
   ·exact wS h.1.1
   ·exact HQ h.2 j hj
  |p x=>exact HQ h.2 j hj
  |n=>exact HQ h.2 j hj
  |d=>exact HQ h.2 j hj
theorem Ss:∀{vs:List (Bool×List Ce)},xI n i vs=true->∀j∈ry vs,j<i
 | [],_,j,hj=>by simp[ry]at hj
 |v::vs,h,j,hj=>by
  simp only[xI,bk]at h
  simp only[ry,List.mem_append]at hj
  rcases hj with hj|hj
  ·exact HQ h.1 j hj
  ·exact Ss h.2 j hj
theorem SV.pk{v:SV}(h:v.iZ n i=true):∀j∈de v,j<i:=by
 intro j hj
 cases v with
 |un=>simp[de]at hj
 |v ag cs=>exact HQ h j hj
 |pt b off=>simp[de]at hj;subst hj;exact wS h
 |ep id q ix wd off=>simp[de]at hj;subst hj;simp only[SV.iZ,bk]at h;exact wS h.1.1
 |fp s ix wd off=>simp[de]at hj
 |tp vs=>exact Ss h j hj
 |cl f bs=>simp only[SV.iZ,List.all_eq_true]at h;exact wS (h j (by simpa[de]using hj))
 |ob dp x=>simp[de]at hj
 |fz pv x=>
  cases pv with
  |z=>simp[de]at hj
  |w tk x0 lo=>simp[de]at hj;subst hj;simp only[SV.iZ,Pv.iZ,bk]at h;exact wS h.1.1.1
 |tk x m=>simp[de]at hj
 |fl x=>simp[de]at hj
 |fr x=>simp[de]at hj
end
theorem Su{i0 i1:Nat}{all:mL}:∀{rn:mL},s9 i0 i1 all rn=true->∀j x,(j,x)∈rn->i0<=j∧j<i1∧∀id,x=some id->mW all id=some j
 | [],_,j,x,h=>by simp at h
 |(j0,x0)::rn,h,j,x,hm=>by
  simp only[s9,bk]at h
  obtain⟨⟨⟨⟨h1,h2⟩,_⟩,h3⟩,h4⟩:=h
  rcases List.mem_cons.1 hm with hm|hm
  ·cases hm
   refine⟨Nat.le_of_ble_eq_true h1,wS h2,λid he=>?_⟩
   subst he
   simp only[bk]at h3
   have h3:=h3.2
   split at h3
   ·rename_i k hk;rw[hk,dN h3]
   ·cases h3
  ·exact Su h4 j x hm
theorem Sv{i0 i1:Nat}{all:mL}:∀{rn:mL},s9 i0 i1 all rn=true->∀j x,(j,x)∈rn->j%2=0
 | [],_,j,x,h=>by simp at h
 |(j0,x0)::rn,h,j,x,hm=>by
  simp only[s9,bk]at h
  obtain⟨⟨⟨⟨h1,h2⟩,h0⟩,h3⟩,h4⟩:=h
  rcases List.mem_cons.1 hm with hm|hm
  ·cases hm;exact dN h0
  ·exact Sv h4 j x hm
theorem Sw{i0 i1:Nat}{all:mL}:∀{rn:mL},s9 i0 i1 all rn=true->∀j id,(j,some id)∈rn->id%4≠2
 | [],_,j,x,h=>by simp at h
 |(j0,x0)::rn,h,j,id,hm=>by
  simp only[s9,bk]at h
  obtain⟨⟨⟨⟨h1,h2⟩,h0⟩,h3⟩,h4⟩:=h
  rcases List.mem_cons.1 hm with hm|hm
  ·cases hm
   simp only[bk,Bool.not_eq_true']at h3
   intro e
   have:=h3.1
   rw[e]at this
   cases this
  ·exact Sw h4 j id hm
theorem Sx{s:St}{a0 i0:Nat}{rn:mL}:∀{h:St},DD s a0 i0 rn h=true->∀r v,(r,v)∈h->v=.un∨(v=s.get r∧v.iZ a0 i0=true∧(∀id,r=.o id->id<i0∧mW rn id=none)∧∀b,r=.x b->b<i0)
 | [],_,r,v,hm=>by simp at hm
 |(r0,v0)::h,hc,r,v,hm=>by
  simp only[DD,bk]at hc
  rcases List.mem_cons.1 hm with hm|hm
  ·obtain⟨rfl,rfl⟩:=Prod.mk.inj hm
   have oD:=hc.1
   rw[Bool.or_eq_true]at oD
   rcases oD with hu|h4
   ·cases v<;>first|exact .inl rfl|cases hu
   ·simp only[bk]at h4
    obtain⟨⟨h1,h2⟩,h3⟩:=h4
    rcases SV.beq_eq h1 with hu|he
    ·exact .inl hu
    ·refine .inr ⟨he,h2,λid he=>?_,λb he=>?_⟩
     ·subst he
      simp only[Qi,bk]at h3
      refine⟨wS h3.1,?_⟩
      have h4:=h3.2
      split at h4
      ·rename_i hn;exact hn
      ·cases h4
     ·subst he;exact wS h3
  ·exact Sx hc.2 r v hm
theorem J_{a0:Nat}{xs:List Lf}{n:Nat}{x:Lf}(h:nL a0 xs n x=true){oL ρ:List T}(hl:oL.length=a0):(oL++xs.map (Lf.ev ρ))[n]?=some (x.ev ρ):=by
 simp only[nL,bk]at h
 have h1:=Nat.le_of_ble_eq_true h.1
 have h2:=h.2
 split at h2
 ·rename_i y hy
  rw[List.getElem?_append_right (by omega),hl,List.getElem?_map,hy,Lf.beq_eq h2]
  rfl
 ·cases h2
theorem Sy{s:St}{a0 i0:Nat}{xs:List Lf}{rn:mL}:∀{h:St},vn s a0 i0 xs rn h=true->∀r v,(r,v)∈h->(∃j dp n,r=.o j∧v=.ob dp (.a n)∧
  ((∃id x,ny rn j=some (some id)∧s.get (.o id)=.ob dp x∧nL a0 xs n x=true)∨(ny rn j=some none∧nL a0 xs n .e=true)∨
   (∃x,ny rn j=none∧j<i0∧mW rn j=none∧s.get (.o j)=.ob dp x∧nL a0 xs n x=true)))∨
  ∃j x n m,r=.o j∧v=.tk x (.a n)∧j<i0∧mW rn j=none∧x.iZ a0=true∧s.get (.o j)=.tk x m∧nL a0 xs n m=true
 | [],_,r,v,hm=>by simp at hm
 |(r0,v0)::h,hc,r,v,hm=>by
  have jC:vn s a0 i0 xs rn h=true:=by
   unfold vn at hc
   split at hc
   ·rename_i he;cases he
   ·rename_i j dp n ps he;cases he;simp only[bk]at hc;exact hc.2
   ·rename_i j x n ps he;cases he;rw[bk]at hc;exact hc.2
   ·cases hc
  rcases List.mem_cons.1 hm with hm|hm
  ·cases hm
   unfold vn at hc
   split at hc
   ·rename_i he;cases he
   ·rename_i j dp n ps he
    cases he
    simp only[bk]at hc
    refine .inl ⟨j,dp,n,rfl,rfl,?_⟩
    have h1:=hc.1
    split at h1
    ·rename_i id gS
     simp only[bk]at h1
     have h2:=h1.2
     split at h2
     ·rename_i uF x hx
      simp only[bk,beq_iff_eq]at h2
      exact .inl ⟨id,x,gS,by rw[h2.1];exact hx,h2.2⟩
     ·cases h2
    ·rename_i gS
     simp only[bk]at h1
     exact .inr (.inl ⟨gS,h1.2⟩)
    ·rename_i gS
     simp only[bk]at h1
     obtain⟨⟨h2,h3⟩,h4⟩:=h1
     have Pj:mW rn j=none:=by
      split at h3
      ·rename_i hn;exact hn
      ·cases h3
     split at h4
     ·rename_i uF x hx
      simp only[bk,beq_iff_eq]at h4
      exact .inr (.inr ⟨x,gS,wS h2,Pj,by rw[h4.1];exact hx,h4.2⟩)
     ·cases h4
   ·rename_i j x n ps he
    cases he
    rw[bk]at hc
    have h1:=hc.1
    simp only[bk]at h1
    obtain⟨⟨⟨h2,h3⟩,h4⟩,h5⟩:=h1
    have Pj:mW rn j=none:=by
     split at h3
     ·rename_i hn;exact hn
     ·cases h3
    split at h5
    ·rename_i y m hx
     simp only[bk]at h5
     exact .inr ⟨j,x,n,m,rfl,rfl,wS h2,Pj,h4,by rw[Lf.beq_eq h5.1];exact hx,h5.2⟩
    ·cases h5
   ·cases hc
  ·exact Sy jC r v hm
theorem Sz{s:St}{a0 i0:Nat}{xs:List Lf}{rn:mL}:∀{h:St},xJ s a0 i0 xs rn h=true->∀r v,(r,v)∈h->∃ag hs cs,v=.v ag hs∧s.get r=.v ag cs∧z0 s a0 i0 xs rn cs hs=true∧(∀j,r≠.o j)∧∀b,r=.x b->b<i0
 | [],_,r,v,hm=>by simp at hm
 |(r0,v0)::h,hc,r,v,hm=>by
  have jC:xJ s a0 i0 xs rn h=true:=by
   unfold xJ at hc
   split at hc
   ·rename_i he;cases he
   ·rename_i he;cases he;simp only[bk]at hc;exact hc.2
   ·cases hc
  rcases List.mem_cons.1 hm with hm|hm
  ·cases hm
   unfold xJ at hc
   split at hc
   ·rename_i he;cases he
   ·rename_i r' ag hs ps he
    cases he
    simp only[bk]at hc
    obtain⟨⟨h1,h2⟩,_⟩:=hc
    split at h2
    ·rename_i wx cs kg
     simp only[bk,beq_iff_eq]at h2
     refine⟨ag,hs,cs,rfl,by rw[h2.1];exact kg,h2.2,(λj he=>by subst he;cases h1),λb he=>by subst he;exact wS h1⟩
    ·cases h2
   ·cases hc
  ·exact Sz jC r v hm
end Go.Proofs.YtjimmglpkndemaaGreatC

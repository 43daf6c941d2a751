/- What renewing hands back is right; new nodes, by both programs. Conditions: none. -/
import Derived.Test.YtjimmglpkndemaaGreatXSR
namespace Go.Proofs.YtjimmglpkndemaaGreatC
open Int renaming reduceLE -> af, reduceLT -> ah, reduceEq -> ai, reduceGT -> aj, reduceGE -> ak, reduceAdd -> ap, reduceSub -> aq, reduceMul -> au, reduceNeg -> av
set_option linter.unusedVariables false
set_option linter.unusedSimpArgs false
theorem ap2{r:ay}(h:fu (gM r)=true){q:Int}(hq:1<=q∧q<=100000):fu {r with seq:=q}=true:=by
 unfold fu at h⊢
 simp only[gM,bI,aZ]at h⊢
 exact⟨⟨h.1.1,hq⟩,h.2⟩
theorem ap3{r:ay}(h:fu r=true):fu (gM (fT r))=true:=by
 have hk:=O8 h
 unfold fu at h⊢
 unfold fT
 simp only[bI,aZ]at h
 by_cases h1:r.kind=1
 ·have h2:=h.2
  rw[if_pos h1]at h2
  simp only[bI,aZ,decide_eq_true_eq,Bool.not_eq_true']at h2
  rw[if_pos h1]
  simp only[gM,h1,if_true,bI,aZ,decide_eq_true_eq,Bool.not_eq_true']
  exact⟨⟨h.1.1,by omega⟩,⟨⟨⟨h2.1.1.1.1,h2.1.1.1.2⟩,by simp[wm,o7]⟩,h2.1.2⟩,h2.2⟩
 ·have h2:=h.2
  rw[if_neg h1]at h2
  rw[if_neg h1]
  simp only[gM,h1,if_false,bI,aZ]
  refine⟨⟨h.1.1,by omega⟩,?_⟩
  by_cases h3:r.kind=2
  ·rw[if_pos h3]at h2⊢
   simp only[bI,aZ,decide_eq_true_eq,Bool.not_eq_true']at h2⊢
   exact⟨⟨⟨⟨h2.1.1.1.1,h2.1.1.1.2⟩,rfl⟩,by omega⟩,h2.2⟩
  ·rw[if_neg h3]at h2⊢
   by_cases h4:r.kind=3
   ·rw[if_pos h4]at h2⊢
    simp only[bI,Bool.or_eq_true,aZ,decide_eq_true_eq]at h2
    have q1:=h2.1.1.1
    have q2:=h2.1.1.2
    simp[q1,q2,aZ]
   ·rw[if_neg h4]at h2;cases h2
theorem ap4{x:Self}(h:jY x=true)(S:List ay):∀w∈oP x S,fu (gM w)=true:=by
 obtain⟨hN,hid,jf,jS,xN,cC⟩:=qy h
 obtain⟨n1,hl,ht,hA,hT⟩:=wC hN
 have je:∀(l s:List ay),(∀r∈s,fu (gM r)=true)->(∀r∈l,fu (gM r)=true)->∀r∈fS same s l,fu (gM r)=true:=by
  intro l
  induction l with
  |nil=>intro s h1 _;exact h1
  |cons a l ih=>
   intro s h1 h2
   refine ih (dx s (same a)) (λr hr=>?_) λr hr=>h2 r (.tail _ hr)
   rcases zt hr with e|hr
   ·rw[e];exact h2 a (.head _)
   ·exact h1 r hr
 refine je _ _ (by simp) λr hr=>?_
 rcases List.mem_append.1 hr with hr|hr
 ·rcases List.mem_append.1 hr with hr|hr
  ·rw[<-(Be hr).1];exact YW h hr
  ·unfold pe at hr
   split at hr
   ·obtain⟨a,ha,hr⟩:=List.mem_flatMap.1 hr
    exact(YD (by omega) (YE ha) hr).1
   ·cases hr
 ·obtain⟨t,j1,rfl⟩:=List.mem_map.1 hr
  have h3:=Ir hT (List.mem_filter.1 j1).1
  unfold fu
  simp only[gM,ss,bI,aZ]
  refine⟨⟨by omega,by omega⟩,?_⟩
  simp[aZ,h3]
theorem ap5{x:Self}(h:jY x=true)(S:List ay)(hq:(sL x (oP x S)).all (λr=>decide (r.seq<=100000))=true):∀r∈sL x (oP x S),fu r=true:=by
 obtain⟨hN,hid,jf,jS,xN,cC⟩:=qy h
 have hw:=ap4 h S
 have key:∀r∈sL x (oP x S),∃b q,fu (gM b)=true∧r={b with seq:=q}:=by
  have h1:∀(l c:List ay),(∀w∈l,fu (gM w)=true)->(∀y∈c,∃b q,fu (gM b)=true∧y={b with seq:=q})->∀y∈l.foldl (su x) c,∃b q,fu (gM b)=true∧y={b with seq:=q}:=by
   intro l
   induction l with
   |nil=>intro c _ h;exact h
   |cons a l ih=>
    intro c hl hc
    rw[List.foldl_cons]
    refine ih _ (λw hw=>hl w (.tail _ hw)) λy hy=>?_
    unfold su at hy
    split at hy
    ·rcases zt hy with rfl|hy
     ·exact⟨a,_,hl a (.head _),rfl⟩
     ·exact hc y hy
    ·exact hc y hy
  have h2:∀(l c:List ay),(∀w∈l,fu w=true)->(∀y∈c,∃b q,fu (gM b)=true∧y={b with seq:=q})->∀y∈l.foldl (uO x (oP x S)) c,∃b q,fu (gM b)=true∧y={b with seq:=q}:=by
   intro l
   induction l with
   |nil=>intro c _ h;exact h
   |cons a l ih=>
    intro c hl hc
    rw[List.foldl_cons]
    refine ih _ (λw hw=>hl w (.tail _ hw)) λy hy=>?_
    unfold uO at hy
    split at hy
    ·rcases zt hy with rfl|hy
     ·exact⟨fT a,_,ap3 (hl a (.head _)),rfl⟩
     ·exact hc y hy
    ·exact hc y hy
  exact h2 _ _ (λw hw=>B6 cC hw) (h1 _ _ hw (by simp))
 intro r hr
 have hs:=ap1 cC jf (oP x S) r hr
 have nr:=List.all_eq_true.1 hq r hr
 rw[decide_eq_true_eq]at nr
 obtain⟨b,q,hb,rfl⟩:=key r hr
 exact ap2 hb ⟨hs,nr⟩
def nw(x:Net)(id aV:Int):Self:=⟨id,aV,x,[],[]⟩
def Pk:Node:=⟨⟨0,0,⟨0,[],[]⟩,[],[]⟩,[]⟩
def yF(x:Net)(id aV:Int):Node×Bool:=if jY (nw x id aV)=true then(⟨(pE (nw x id aV)).1,o_ x.aA id x.n⟩,true)else(Pk,false)
theorem ap6(x:Net)(id aV:Int)(h1:x.aA.length<=1048576)(h2:x.aN.length<=1048576):
  LY [ii x.n,.l (x.aA.map dm),.l (x.aN.map dM),ii id,ii aV]=some (jv (yF x id aV).1++[bb (yF x id aV).2]):=by
 have hN:EO [ii x.n,.l (x.aA.map dm),.l (x.aN.map dM)]=some [ii x.n,.l (x.aA.map dm),.l (x.aN.map dM)]:=by
  rw[W7];simp(disch:=omega) only[↓pq,↓pj,ps,pz,↓reduceIte,af,ah,ai,aj,ak,ap,aq,au,av,Hu]
 have hS:=HI id aV x.n x.aA x.aN [] [] h1 h2 (by simp) (by simp) (by intro r hr;cases hr)
 rw[show(⟨id,aV,⟨x.n,x.aA,x.aN⟩,[],[]⟩:Self)=nw x id aV from rfl]at hS
 have hR:=Y9 (nw x id aV) h1 h2 (by simp[nw]) (by simp[nw]) (by intro r hr;cases hr)
 simp only[nw,List.map_nil]at hS hR
 rw[show(⟨id,aV,x,[],[]⟩:Self)=nw x id aV from rfl]at hS hR
 cases hk:jY (nw x id aV)with
 |false=>
  rw[hk]at hS
  rw[show yF x id aV=(Pk,false) from by unfold yF;rw[if_neg (by rw[hk];decide)]]
  rw[Xc];simp(disch:=omega) only[↓pq,↓pj,ps,pz,↓reduceIte,af,ah,ai,aj,ak,ap,aq,au,av,HD,hN,hS,cI]
  rfl
 |true=>
  rw[hk]at hS
  have hn:x.n<=6:=(wC (qy hk).1).1.2
  rw[show yF x id aV=(⟨(pE (nw x id aV)).1,o_ x.aA id x.n⟩,true) from by unfold yF;rw[if_pos hk]]
  simp only[iK,List.cons_append,List.nil_append]at hR
  rw[Xc];simp(disch:=omega) only[↓pq,↓pj,ps,pz,↓reduceIte,af,ah,ai,aj,ak,ap,aq,au,av,HD,hN,hS,hR,Xp x.n x.aA _ id hn h1]
  rfl
theorem ap7(x:Net)(id aV:Int)(h1:x.aA.length<=1048576)(h2:x.aN.length<=1048576):
  QX [ii x.n,.l (x.aA.map dm),.l (x.aN.map dM),ii id,ii aV]=some (jv (yF x id aV).1++[bb (yF x id aV).2]):=by
 have hS:=Od id aV x.n x.aA x.aN [] [] h1 h2 (by simp) (by simp) (by intro r hr;cases hr)
 rw[show(⟨id,aV,⟨x.n,x.aA,x.aN⟩,[],[]⟩:Self)=nw x id aV from rfl]at hS
 have hR:=Y_ (nw x id aV) h1 h2 (by simp[nw]) (by simp[nw]) (by intro r hr;cases hr)
 simp only[nw,List.map_nil]at hS hR
 rw[show(⟨id,aV,x,[],[]⟩:Self)=nw x id aV from rfl]at hS hR
 cases hk:jY (nw x id aV)with
 |false=>
  rw[hk]at hS
  rw[show yF x id aV=(Pk,false) from by unfold yF;rw[if_neg (by rw[hk];decide)]]
  rw[W4];simp(disch:=omega) only[↓pq,↓pj,ps,pz,↓reduceIte,af,ah,ai,aj,ak,ap,aq,au,av,Jk,Jl,Hr,hS,cI]
  rfl
 |true=>
  rw[hk]at hS
  obtain⟨hn,hl,ht,hA,hT⟩:=wC (show pC x=true from(qy hk).1)
  rw[show yF x id aV=(⟨(pE (nw x id aV)).1,o_ x.aA id x.n⟩,true) from by unfold yF;rw[if_pos hk]]
  simp only[iK,List.cons_append,List.nil_append]at hR
  rw[W4];simp(disch:=omega) only[↓pq,↓pj,ps,pz,↓reduceIte,af,ah,ai,aj,ak,ap,aq,au,av,Jk,Jl,Hr,hS]
  have gO:x.n<=6:=hn.2
  refine rZ x.n.toNat (λi c=>[ii (i+1),.l (c.map bR)]) (ET x.aA id) (λc=>some (jv ⟨(pE (nw x id aV)).1,c⟩++[bb true])) [] (λi c=>c.length<=3*i) rfl (dh (by omega)) (by simp) ?_ ?_
  ·intro i c hi hc
   have tc:=Og x.aA id c i
   refine⟨by omega,λs=>?_⟩
   have aO:(i:Int)+1<=x.n:=by omega
   simp(disch:=omega) only[↓pq,↓pj,ps,pz,↓reduceIte,af,ah,ai,aj,ak,ap,aq,au,av,Jk,Jl,aO]
   refine rZ 3 (λa c=>[ii a,.l (c.map bR)]) (se x.aA id i) (λc=>s [ii ((i+1:Nat)+1),T.l (c.map bR)]) c (λa c=>c.length<=3*i+a) rfl (by unfold rounds;omega) (by omega) ?_ ?_
   ·intro a c ha hc
    have Pl:=Xo x.aA id i c a
    refine⟨by omega,λs=>?_⟩
    have xc:(a:Int)<=2:=by omega
    have hz:=Xf hA id ((i:Int)+1) (a:Int)
    have hp:lT x.aA id ((i:Int)+1) (a:Int)>0↔0<=dz (eh id ((i:Int)+1) (a:Int)) x.aA:=by
     constructor
     ·intro tw
      rcases Int.lt_or_le (dz (eh id ((i:Int)+1) (a:Int)) x.aA) 0 with h|h
      ·have:=hz.2 h;omega
      ·exact h
     ·intro h0
      have h3:=yw hA (gZ (l:=x.aA) h0 (rz _ _))
      unfold lT
      rw[if_neg (by omega)];omega
    unfold se
    by_cases h0:0<=dz (eh id ((i:Int)+1) (a:Int)) x.aA
    ·rw[if_pos h0]
     have h4:=hp.2 h0
     simp(disch:=omega) only[↓pq,↓pj,ps,pz,↓reduceIte,af,ah,ai,aj,ak,ap,aq,au,av,Jk,Jl,xc,N_ _ _ _ _ _ _ h1,h4]
    ·rw[if_neg h0]
     have h4:¬lT x.aA id ((i:Int)+1) (a:Int)>0:=λtw=>h0 (hp.1 tw)
     simp(disch:=omega) only[↓pq,↓pj,ps,pz,↓reduceIte,af,ah,ai,aj,ak,ap,aq,au,av,Jk,Jl,xc,N_ _ _ _ _ _ _ h1,h4]
   ·intro c s' hc
    simp(disch:=omega) only[↓pq,↓pj,ps,pz,↓reduceIte,af,ah,ai,aj,ak,ap,aq,au,av,Jk,Jl,]
  ·intro c s hc
   have aO:¬((x.n.toNat:Int)+1<=x.n):=by omega
   simp(disch:=omega) only[↓pq,↓pj,ps,pz,↓reduceIte,af,ah,ai,aj,ak,ap,aq,au,av,Jk,Jl,aO,hR]
   rfl
def Pm(r:ay):ay:=⟨r.ae,r.kind,r.owner,r.key,r.seq,[],if r.kind=3 then 1 else 0,false⟩
def Pn(s:List ay)(ar:Int):List ay:=(scope s ar).map Pm
theorem ap8{α β:Type}(f:α->β)(l:List α)(c:List β):l.foldl (λc a=>c++[f a]) c=c++l.map f:=by
 induction l generalizing c with
 |nil=>simp
 |cons a l ih=>rw[List.foldl_cons,ih];simp
theorem ap9(a k o y s:Int)(t5 t6 t7:T):Rm [ii a,ii k,ii o,ii y,ii s,t5,t6,t7]=some [ii a,ii k,ii o,ii y,ii s,.l [],ii (if k=3 then 1 else 0),bb false]:=by
 rw[ans]
 by_cases h:k=3
 ·subst h;simp(disch:=omega) only[↓pq,↓pj,ps,pz,↓reduceIte,af,ah,ai,aj,ak,ap,aq,au,av,HB]
 ·simp(disch:=omega) only[↓pq,↓pj,ps,pz,↓reduceIte,af,ah,ai,aj,ak,ap,aq,au,av,HB,h]
theorem ap_(s:List ay)(ar:Int)(h:s.length<=1048576)(hn:bh s):LW [.l (s.map aC),ii ar]=some [.l ((Pn s ar).map aC)]:=by
 have hl:(scope s ar).length<=s.length:=List.length_filter_le _ _
 rw[anu];simp(disch:=omega) only[↓pq,↓pj,ps,pz,↓reduceIte,af,ah,ai,aj,ak,ap,aq,au,av,kb_,N3,anW s ar h hn]
 unfold Pn
 generalize scope s ar=l at hl
 refine(g_ l (λi c=>[.l (c.map aC),ii i,.l (l.map aC)]) (λc r=>c++[Pm r]) (λc=>some [T.l (c.map aC)]) [] (λi c=>c.length<=i) rfl (dh (by omega)) (by simp) ?_ ?_).trans (by rw[ap8,List.nil_append])
 ·intro i c hi hc
  refine⟨by simp;omega,λq=>?_⟩
  have oZ:Prim.ev (.lit 8 [true,true,true,true,true,false,true,true]) [ii (gt l (i:Int)).ae,ii (gt l (i:Int)).kind,ii (gt l (i:Int)).owner,ii (gt l (i:Int)).key,ii (gt l (i:Int)).seq,.l [],ii (if(gt l (i:Int)).kind=3 then 1 else 0),bb false]=some (.l ([Pm (gt l (i:Int))].map aC)):=q0 (by decide) rfl rfl
  simp(disch:=omega) only[↓pq,↓pj,ps,pz,↓reduceIte,af,ah,ai,aj,ak,ap,aq,au,av,kb_,hi,ap9,oZ]
 ·intro c q hc
  simp(disch:=omega) only[↓pq,↓pj,ps,pz,↓reduceIte,af,ah,ai,aj,ak,ap,aq,au,av,kb_,]
theorem ap'(x:Self)(es:List eE)(h1:x.net.aA.length<=1048576)(h2:x.net.aN.length<=1048576)(h3:x.heard.length<=1048576)(h4:x.store.length<=1048576)(h5:bh x.store)(h6:es.length<=1048576):
  Q_ [ii x.id,ii x.aV,ii x.net.n,.l (x.net.aA.map dm),.l (x.net.aN.map dM),.l (x.heard.map aD),.l (x.store.map aC),.l (es.map bR)]=some [ii x.id,ii x.aV,ii x.net.n,.l (x.net.aA.map dm),.l (x.net.aN.map dM),.l (x.heard.map aD),.l (x.store.map aC),.l (es.map bR)]:=by
 have hc:=Y5 x h1 h2 h3 h4 h5
 simp only[iK]at hc
 rw[al6];simp(disch:=omega) only[↓pq,↓pj,ps,pz,↓reduceIte,af,ah,ai,aj,ak,ap,aq,au,av,Nj,hc]
def iM(e:eE):eE:=⟨e.node,e.ae,if 0>e.left-1 then 0 else e.left-1,e.both&&decide ((if 0>e.left-1 then 0 else e.left-1)>0)⟩
def aqa(es:List eE)(a:Int):List Int:=es.foldl (λc f=>if f.ae=a then(if f.left>0 then fR c f.node else c)else c) []
def Ej(x:Self)(es:List eE)(e:eE):List b_:=⟨1,x.id,e.node,e.ae,aqa es e.ae,[]⟩::if e.both=true then [⟨2,x.id,e.node,e.ae,[],Pn x.store e.ae⟩]else []
def Bg(n:Node):Node:=⟨(pE {n.self with heard:=nh (n.eW.map iM)}).1,n.eW.map iM⟩
def Ek(n:Node):Node×List b_:=if rh n=true then(Bg n,(Bg n).eW.flatMap (Ej (Bg n).self (Bg n).eW))else(n,[])
theorem aqb(c:List Int)(n:Int)(hc:c.Pairwise (· < ·))(hl:c.length<=200)(k:List T->Option (List T)):iter (uE o8 (.l (c.map aD)) (ii n) k) rounds [ii 0]=k [.l ((fR c n).map aD)]:=by
 have hle:=DQ c n
 obtain⟨c1,c2,c3⟩:=Oo hc n
 refine AO (λk=>[ii k]) (dQ c n) rfl (dh (by omega)) (λi hi w=>?_) λw=>?_
 ·have eU:(i:Int)<c.length:=by omega
  have cO:gt c (i:Int)<n:=by rw[ed (by omega)];exact(c3 i (by omega)).2 (by omega)
  simp(disch:=omega) only[↓pq,↓pj,ps,pz,↓reduceIte,af,ah,ai,aj,ak,ap,aq,au,av,uE,vn,uF,vo,eU,cO]
 ·by_cases bE:dQ c n<c.length
  ·have eU:((dQ c n:Nat):Int)<c.length:=by omega
   have cO:¬(gt c ((dQ c n:Nat):Int)<n):=by rw[ed bE];intro tw;have:=(c3 _ bE).1 tw;omega
   have iC:=HX hc bE
   by_cases jH:n∈c
   ·rw[HW hc jH]
    have qO:=iC.2 jH
    simp(disch:=omega) only[↓pq,↓pj,ps,pz,↓reduceIte,af,ah,ai,aj,ak,ap,aq,au,av,uE,vn,uF,vo,eU,cO,qO]
   ·rw[Jt hc jH]
    have qO:¬(gt c ((dQ c n:Nat):Int)=n):=λe=>jH (iC.1 e)
    simp(disch:=omega) only[↓pq,↓pj,ps,pz,↓reduceIte,af,ah,ai,aj,ak,ap,aq,au,av,uE,vn,uF,vo,eU,cO,qO,rC _ (show(c.take (dQ c n)).length<=1048576 by simp;omega)]
    rw[Ar (by simp;omega),fU,xW (by simp;omega),fU,List.append_assoc]
  ·have eU:¬(((dQ c n:Nat):Int)<c.length):=by omega
   rw[Jt hc (HY hc bE)]
   simp(disch:=omega) only[↓pq,↓pj,ps,pz,↓reduceIte,af,ah,ai,aj,ak,ap,aq,au,av,uE,vn,uF,vo,eU,rC _ (show(c.take (dQ c n)).length<=1048576 by simp;omega)]
   rw[Ar (by simp;omega),fU,xW (by simp;omega),fU,List.append_assoc]
theorem Y'{x:Self}(h:x.store.length<=1048576)(hn:bh x.store)(hh:x.heard.length<=1048576):(pE x).1.store.length<=1048576∧bh (pE x).1.store∧(pE x).1.net=x.net∧(pE x).1.heard=x.heard∧(pE x).1.id=x.id∧(pE x).1.aV=x.aV:=by
 unfold pE
 by_cases hk:jY x=true
 ·rw[if_pos hk]
  obtain⟨hN,hid,jf,jS,xN,cC⟩:=qy hk
  obtain⟨n1,hl,ht,hA,hT⟩:=wC hN
  unfold Bd
  split
  ·rename_i hc
   have hNf:=Y7 (x:=x) (Pj (x:=x) (sY x.store x.id (fq x)) ht hh) (Pc cC hn).len
   have f:=Fit.nv (f:=same) (l:=sL x (oP x (sY x.store x.id (fq x)))) (λr hr=>hNf.bf r hr) (Pc cC hn)
   exact⟨by have:=hc.2;show(fS same x.store _).length<=_;omega,f.bf,rfl,rfl,rfl,rfl⟩
  ·exact⟨h,hn,rfl,rfl,rfl,rfl⟩
 ·rw[if_neg hk]
  exact⟨h,hn,rfl,rfl,rfl,rfl⟩
theorem Po{n:Node}(h:rh n=true):jY n.self=true∧n.eW.length=(o_ n.self.net.aA n.self.id n.self.net.n).length∧n.eW.length<=18:=by
 unfold rh uL at h
 simp only[bI,decide_eq_true_eq]at h
 have hN:=wC (qy h.1).1
 have:=Oh n.self.net.aA n.self.id n.self.net.n (by omega)
 exact⟨h.1,by omega,by omega⟩
def wH(es:List eE)(i:Nat):List eE:=(es.take i).map iM++es.drop i
theorem Za(es:List eE)(i:Nat):(wH es i).length=es.length:=by unfold wH;simp;omega
theorem aqc{es:List eE}{i:Nat}(h:i<es.length):gt (wH es i) (i:Int)=gt es (i:Int):=by
 rw[ed (l:=wH es i) (by rw[Za];exact h),ed h]
 unfold wH
 rw[List.getElem_append_right (by simp;omega)]
 simp[Nat.min_eq_left (Nat.le_of_lt h)]
theorem aqd{es:List eE}{i:Nat}(h:i<es.length):(wH es i).set i (iM (gt es (i:Int)))=wH es (i+1):=by
 have hl:((es.take i).map iM).length=i:=by rw[List.length_map,List.length_take];omega
 unfold wH
 rw[ed h,List.set_append_right _ _ (by omega),hl,Nat.sub_self,List.drop_eq_getElem_cons h,List.set_cons_zero,List.take_add_one,List.getElem?_eq_getElem h]
 simp only[Option.toList,List.map_append,List.map_cons,List.map_nil,List.append_assoc,List.cons_append,List.nil_append]
theorem Zc{n:Node}(h:rh n=true){i:Nat}(hi:i<n.eW.length):0<=(gt n.eW (i:Int)).left∧(gt n.eW (i:Int)).left<=3:=by
 unfold rh uL at h
 simp only[bI,decide_eq_true_eq]at h
 have:=ca.1 h.2.1.2 i hi
 unfold uK at this
 simp only[bI,aZ]at this
 omega
set_option maxHeartbeats 1000000 in
theorem aqe(y:Self)(es:List eE)(h2:es.length<=18)(h4:y.store.length<=1048576)(h5:bh y.store)(t0 t1 t2:T):
  iter (uF rounds LW LV o8 (ii (es.length:Int))) rounds [.l [],ii 0,ii y.id,ii y.aV,ii y.net.n,.l (y.net.aA.map dm),.l (y.net.aN.map dM),.l (y.heard.map aD),.l (y.store.map aC),.l (es.map bR),t0,t1,t2,.l (es.map bR)]
   =some [ii y.id,ii y.aV,ii y.net.n,.l (y.net.aA.map dm),.l (y.net.aN.map dM),.l (y.heard.map aD),.l (y.store.map aC),.l (es.map bR),.l ((es.flatMap (Ej y es)).map j4)]:=by
 refine(g_ es (λi c=>[.l (c.map j4),ii i,ii y.id,ii y.aV,ii y.net.n,.l (y.net.aA.map dm),.l (y.net.aN.map dM),.l (y.heard.map aD),.l (y.store.map aC),.l (es.map bR),t0,t1,t2,.l (es.map bR)]) (λc e=>c++Ej y es e)
  (λc=>some [ii y.id,ii y.aV,ii y.net.n,.l (y.net.aA.map dm),.l (y.net.aN.map dM),.l (y.heard.map aD),.l (y.store.map aC),.l (es.map bR),.l (c.map j4)]) [] (λi c=>c.length<=2*i) rfl (dh (by omega)) (by simp) ?_ ?_).trans (by rw[ON,List.nil_append])
 ·intro i c hi hc
  have wW:(Ej y es (gt es (i:Int))).length<=2:=by unfold Ej;split<;>simp
  refine⟨by rw[List.length_append];omega,λq=>?_⟩
  simp(disch:=omega) only[↓pq,↓pj,ps,pz,↓reduceIte,af,ah,ai,aj,ak,ap,aq,au,av,uE,vn,uF,vo,hi]
  refine g_ es (λj d=>[.l (d.map aD),ii j]) (λd f=>if f.ae=(gt es (i:Int)).ae then(if f.left>0 then fR d f.node else d)else d) (λd=>q [.l ((c++(⟨1,y.id,(gt es (i:Int)).node,(gt es (i:Int)).ae,d,[]⟩::if(gt es (i:Int)).both=true then [(⟨2,y.id,(gt es (i:Int)).node,(gt es (i:Int)).ae,[],Pn y.store (gt es (i:Int)).ae⟩:b_)]else [])).map j4),ii ((i:Int)+1),ii y.id,ii y.aV,ii y.net.n,.l (y.net.aA.map dm),.l (y.net.aN.map dM),.l (y.heard.map aD),.l (y.store.map aC),.l (es.map bR),t0,t1,t2,.l (es.map bR)]) [] (λj d=>d.Pairwise (· < ·)∧d.length<=j) rfl (dh (by omega)) ⟨.nil,by simp⟩ ?_ ?_
  ·intro j d hj hd
   have qD:=hd.2
   have hil:=Oq d (gt es (j:Int)).node
   refine⟨?_,λw=>?_⟩
   ·split
    ·split
     ·exact⟨EU hd.1 _,by omega⟩
     ·exact⟨hd.1,by omega⟩
    ·exact⟨hd.1,by omega⟩
   ·have LH:=λk=>aqb d (gt es (j:Int)).node hd.1 (by omega) k
    by_cases k1:(gt es (j:Int)).ae=(gt es (i:Int)).ae
    ·by_cases k2:(gt es (j:Int)).left>0
     ·simp(disch:=omega) only[↓pq,↓pj,ps,pz,↓reduceIte,af,ah,ai,aj,ak,ap,aq,au,av,uE,vn,uF,vo,hj,k1,k2,LH]
     ·simp(disch:=omega) only[↓pq,↓pj,ps,pz,↓reduceIte,af,ah,ai,aj,ak,ap,aq,au,av,uE,vn,uF,vo,hj,k1,k2]
    ·simp(disch:=omega) only[↓pq,↓pj,ps,pz,↓reduceIte,af,ah,ai,aj,ak,ap,aq,au,av,uE,vn,uF,vo,hj,k1]
  ·intro d w hd
   have oZ:=LM 1 y.id (gt es (i:Int)).node (gt es (i:Int)).ae d []
   rw[List.map_nil]at oZ
   have oY:Prim.ev (.app false 6) [.l (c.map j4),.l ([(⟨1,y.id,(gt es (i:Int)).node,(gt es (i:Int)).ae,d,[]⟩:b_)].map j4)]=some (.l ((c++[(⟨1,y.id,(gt es (i:Int)).node,(gt es (i:Int)).ae,d,[]⟩:b_)]).map j4)):=qM_ (by simp;omega)
   have JA:=LM 2 y.id (gt es (i:Int)).node (gt es (i:Int)).ae [] (Pn y.store (gt es (i:Int)).ae)
   rw[List.map_nil]at JA
   have Zd:Prim.ev (.app false 6) [.l ((c++[(⟨1,y.id,(gt es (i:Int)).node,(gt es (i:Int)).ae,d,[]⟩:b_)]).map j4),.l ([(⟨2,y.id,(gt es (i:Int)).node,(gt es (i:Int)).ae,[],Pn y.store (gt es (i:Int)).ae⟩:b_)].map j4)]=some (.l ((c++[(⟨1,y.id,(gt es (i:Int)).node,(gt es (i:Int)).ae,d,[]⟩:b_)]++[(⟨2,y.id,(gt es (i:Int)).node,(gt es (i:Int)).ae,[],Pn y.store (gt es (i:Int)).ae⟩:b_)]).map j4)):=qM_ (by simp;omega)
   have Ze:=λ(k a b t:Int) (bo:Bool) (th tl:T)=>(show LV [ii y.id,ii y.aV,ii y.net.n,.l (y.net.aA.map dm),.l (y.net.aN.map dM),.l (y.heard.map aD),.l (y.store.map aC),.l (es.map bR),ii k,ii a,ii b,ii t,bb bo,th,tl]=some [ii k,ii y.id,ii a,ii b,th,tl,ii y.id,ii y.aV,ii y.net.n,.l (y.net.aA.map dm),.l (y.net.aN.map dM),.l (y.heard.map aD),.l (y.store.map aC),.l (es.map bR)] from by rw[ano];simp(disch:=omega) only[↓pq,↓pj,ps,pz,↓reduceIte,af,ah,ai,aj,ak,ap,aq,au,av,uE,vn,uF,vo,N1])
   have hhd:=ap_ y.store (gt es (i:Int)).ae h4 h5
   cases jf:(gt es (i:Int)).both with
   |true=>
    rw[jf]at*
    simp(disch:=omega) only[↓pq,↓pj,ps,pz,↓reduceIte,af,ah,ai,aj,ak,ap,aq,au,av,uE,vn,uF,vo,Ze,oZ,oY,hhd,JA,Zd,jf]
    simp only[if_true,List.append_assoc,List.cons_append,List.nil_append]
   |false=>
    simp(disch:=omega) only[↓pq,↓pj,ps,pz,↓reduceIte,af,ah,ai,aj,ak,ap,aq,au,av,uE,vn,uF,vo,Ze,oZ,oY,jf,cI]
 ·intro c q hc
  simp(disch:=omega) only[↓pq,↓pj,ps,pz,↓reduceIte,af,ah,ai,aj,ak,ap,aq,au,av,uE,vn,uF,vo,]
theorem aqf(n:Node)(h1:n.self.net.aA.length<=1048576)(h2:n.self.net.aN.length<=1048576)(h3:n.self.heard.length<=1048576)(h4:n.self.store.length<=1048576)(h5:bh n.self.store)(h6:n.eW.length<=1048576):
  Je (jv n)=some (jv (Ek n).1++[.l ((Ek n).2.map j4)]):=by
 obtain⟨x,es⟩:=n
 simp only at h1 h2 h3 h4 h5 h6
 simp only[jv]
 have qY:=ap' x es h1 h2 h3 h4 h5 h6
 have ez:=HL x.id x.aV x.net.n x.net.aA x.net.aN x.heard x.store es h1 h2 h3 h4 h5 h6
 rw[show(⟨⟨x.id,x.aV,⟨x.net.n,x.net.aA,x.net.aN⟩,x.heard,x.store⟩,es⟩:Node)=⟨x,es⟩ from rfl]at ez
 rw[anw]
 cases hk:rh ⟨x,es⟩with
 |false=>
  rw[hk]at ez
  unfold Ek
  rw[if_neg (by rw[hk];decide)]
  simp(disch:=omega) only[↓pq,↓pj,ps,pz,↓reduceIte,af,ah,ai,aj,ak,ap,aq,au,av,uE,vn,uF,vo,HC,qY,ez,cI]
  rfl
 |true=>
  rw[hk]at ez
  obtain⟨hs,_,yU⟩:=Po hk
  simp only at hs yU
  unfold Ek
  rw[if_pos hk]
  unfold Bg
  simp only
  have uW:=HK (es.map iM)
  have hml:(es.map iM).length=es.length:=List.length_map ..
  obtain⟨y1,y2,y3,y4,y5,y6⟩:=Y' (x:={x with heard:=nh (es.map iM)}) h4 h5 (by show(nh (es.map iM)).length<=_;omega)
  have hR:=Y9 {x with heard:=nh (es.map iM)} h1 h2 (by show(nh (es.map iM)).length<=_;omega) h4 h5
  have hH:=Xn (es.map iM) (by omega)
  generalize pE {x with heard:=nh (es.map iM)}=p at hR y1 y2 y3 y4 y5 y6
  obtain⟨y,l⟩:=p
  simp only[iK,List.cons_append,List.nil_append]at hR y1 y2
  have lK:=aqe y (es.map iM) (by omega) y1 y2 (.l ((es.map iM).map bR)) (.l ((es.map iM).map bR)) (.l ((es.map iM).map bR))
  rw[hml]at lK
  simp(disch:=omega) only[↓pq,↓pj,ps,pz,↓reduceIte,af,ah,ai,aj,ak,ap,aq,au,av,uE,vn,uF,vo,HC,qY,ez]
  refine AO (λi=>[ii (i:Int),.l ((wH es i).map bR)]) es.length rfl (dh (by omega)) ?_ ?_
  ·intro i hi q
   have aO:i<es.length:=by omega
   have hL:=Za es i
   have g0:=aqc aO
   have hlf:0<=(gt es (i:Int)).left∧(gt es (i:Int)).left<=3:=Zc hk aO
   obtain⟨v,hv⟩:∃v,v=(if(0:Int)>(gt es (i:Int)).left-1 then 0 else(gt es (i:Int)).left-1):=⟨_,rfl⟩
   have p1:Prim.ev (.put true 4 2 1) [.l ((wH es i).map bR),ii (i:Int),ii v]=some (.l (((wH es i).set i ⟨(gt es (i:Int)).node,(gt es (i:Int)).ae,v,(gt es (i:Int)).both⟩).map bR)):=by
    have:=B5 (enc:=bR) (sc:=true) (w:=4) (off:=2) (m:=1) (l:=wH es i) (n:=(i:Int)) (vs:=[ii v]) (x:=⟨(gt es (i:Int)).node,(gt es (i:Int)).ae,v,(gt es (i:Int)).both⟩) (by omega) (by omega) (λ_=>rfl) (by decide) rfl rfl (by rw[g0];rfl)
    rw[Int.toNat_natCast]at this
    exact this
   have sQ:=aqd aO
   generalize hA:wH es i=A at*
   have P4:gt (A.set i ⟨(gt es (i:Int)).node,(gt es (i:Int)).ae,v,(gt es (i:Int)).both⟩) (i:Int)=⟨(gt es (i:Int)).node,(gt es (i:Int)).ae,v,(gt es (i:Int)).both⟩:=by
    have:=AR (l:=A) (i:=(i:Int)) (j:=(i:Int)) (x:=⟨(gt es (i:Int)).node,(gt es (i:Int)).ae,v,(gt es (i:Int)).both⟩) (by omega) (by omega) (by omega)
    rw[if_pos rfl,Int.toNat_natCast]at this
    exact this
   have hB:(A.set i ⟨(gt es (i:Int)).node,(gt es (i:Int)).ae,v,(gt es (i:Int)).both⟩).length=A.length:=List.length_set ..
   have Pl:(gt (A.set i ⟨(gt es (i:Int)).node,(gt es (i:Int)).ae,v,(gt es (i:Int)).both⟩) (i:Int)).left=v:=by rw[P4]
   have p2:∀b:Bool,Prim.ev (.put true 4 3 1) [.l ((A.set i ⟨(gt es (i:Int)).node,(gt es (i:Int)).ae,v,(gt es (i:Int)).both⟩).map bR),ii (i:Int),bb b]=some (.l ((A.set i ⟨(gt es (i:Int)).node,(gt es (i:Int)).ae,v,b⟩).map bR)):=by
    intro b
    have:=B5 (enc:=bR) (sc:=true) (w:=4) (off:=3) (m:=1) (l:=A.set i ⟨(gt es (i:Int)).node,(gt es (i:Int)).ae,v,(gt es (i:Int)).both⟩) (n:=(i:Int)) (vs:=[bb b]) (x:=⟨(gt es (i:Int)).node,(gt es (i:Int)).ae,v,b⟩) (by omega) (by omega) (λ_=>rfl) (by decide) rfl rfl (by rw[P4];rfl)
    rw[Int.toNat_natCast,List.set_set]at this
    exact this
   have ht:iM (gt es (i:Int))=⟨(gt es (i:Int)).node,(gt es (i:Int)).ae,v,(gt es (i:Int)).both&&decide (v>0)⟩:=by unfold iM;rw[<-hv]
   rw[ht]at sQ
   have e1:(i:Int)<A.length:=by omega
   have e2:(i:Int)<(A.set i ⟨(gt es (i:Int)).node,(gt es (i:Int)).ae,v,(gt es (i:Int)).both⟩:List eE).length:=by omega
   cases Lm:(gt es (i:Int)).both with
   |true=>
    have RA:(gt (A.set i ⟨(gt es (i:Int)).node,(gt es (i:Int)).ae,v,(gt es (i:Int)).both⟩) (i:Int)).both=true:=by rw[P4];exact Lm
    have El:A.set i ⟨(gt es (i:Int)).node,(gt es (i:Int)).ae,v,decide (v>0)⟩=wH es (i+1):=by rw[<-sQ,Lm,Bool.true_and]
    have Zf:=p2 (decide (v>0))
    rw[El]at Zf
    simp(disch:=omega) only[↓pq,↓pj,ps,pz,↓reduceIte,af,ah,ai,aj,ak,ap,aq,au,av,uE,vn,uF,vo,hi,e1,g0,<-hv,p1,e2,RA,Pl,Zf]
   |false=>
    have RA:(gt (A.set i ⟨(gt es (i:Int)).node,(gt es (i:Int)).ae,v,(gt es (i:Int)).both⟩) (i:Int)).both=false:=by rw[P4];exact Lm
    have El:A.set i ⟨(gt es (i:Int)).node,(gt es (i:Int)).ae,v,false⟩=wH es (i+1):=by rw[<-sQ,Lm,Bool.false_and]
    have Zf:=p2 false
    rw[El]at Zf
    simp(disch:=omega) only[↓pq,↓pj,ps,pz,↓reduceIte,af,ah,ai,aj,ak,ap,aq,au,av,uE,vn,uF,vo,hi,e1,g0,<-hv,p1,e2,RA,Zf,cI]
  ·intro q
   have hz:¬((es.length:Int)<es.length):=by omega
   have hE:wH es es.length=es.map iM:=by unfold wH;simp
   have JB:Prim.ev .len [.l ((es.map iM).map bR)]=some (ii (es.length:Int)):=by rw[xV,hml]
   simp(disch:=omega) only[↓pq,↓pj,ps,pz,↓reduceIte,af,ah,ai,aj,ak,ap,aq,au,av,uE,vn,uF,vo,hz,hE,hH,hR,JB]
   exact lK
abbrev u8(n:Int):T:=.c (.int .u8 n)
def fP(n:Int):List T:=[u8 n]
def Pp:List Ty:=[.i .u8]
def tJ(n:Int):Prop:=0<=n∧n<=255
theorem aqg(r:List T)(h:iY Pp r):∃n,r=fP n∧tJ n:=by
 obtain⟨_,_,rfl,⟨n,rfl,hn⟩,rfl⟩:=Ln h
 refine⟨n,rfl,?_⟩
 simp[Lit.wf,IntKind.min,IntKind.max,IntKind.signed,IntKind.bits]at hn
 unfold tJ;omega
theorem Zg{l:List Int}{n:Int}(h:0<=n)(h':n<l.length):Prim.ev (.cell 1 0) [.l (l.map fP),ii n]=some (u8 (gt l n)):=gS h (db h h') rfl rfl
theorem Zh{n:Int}(h:0<=n)(h':n<=255):Prim.ev (.IH .i64) [u8 n]=some (ii n):=by
 simp only[Prim.ev,Aj (n:=n) (by omega) (by omega)]
theorem Zi(a:Int):∃x,Prim.ev (.bin .and) [ii a,ii 255]=some (ii x)∧0<=x∧x<=255:=by
 have h:(BitVec.ofInt 64 a&&&BitVec.ofInt 64 255).toNat<=255:=by
  rw[BitVec.toNat_and]
  exact Nat.le_trans Nat.and_le_right (by decide)
 refine⟨((BitVec.ofInt 64 a&&&BitVec.ofInt 64 255).toNat:Nat),?_,by omega,by omega⟩
 simp only[Prim.ev,T.val,jP,Option.bind_some,if_true]
 show some (ii (IntKind.i64.wrap (((BitVec.ofInt 64 a&&&BitVec.ofInt 64 255).toNat:Nat):Int)))=_
 rw[Aj (by omega) (by omega)]
theorem aqh(a b:Int):∃x,Prim.ev (.bin .and) [ii a,ii b]=some (ii x):=⟨_,by simp only[Prim.ev,T.val,jP,Option.bind_some,if_true];rfl⟩
theorem aqi(a b:Int):∃x,Prim.ev (.bin .xor) [ii a,ii b]=some (ii x):=⟨_,by simp only[Prim.ev,T.val,jP,Option.bind_some,if_true];rfl⟩
theorem aqj(a:Int):∃x,Prim.ev (.bin .shr) [ii a,.c (.int .u64 33)]=some (ii x):=⟨_,by simp only[Prim.ev,T.val,jP,Option.bind_some];rfl⟩
theorem aqk(a:Int):∃x,Prim.ev (.bin .shr) [ii a,.c (.int .u64 45)]=some (ii x):=⟨_,by simp only[Prim.ev,T.val,jP,Option.bind_some];rfl⟩
theorem Iy{B:List Int}(hB:∀x∈B,tJ x)(hl:B.length<=1048576){i:Int}(h:Int)(hi:0<=i)(aO:i<=B.length):
  ∃x i' h',QA [.l (B.map fP),ii i,ii h]=some [ii x,.l (B.map fP),ii i',ii h']∧(0<=x∧x<=255)∧0<=i'∧i'<=B.length:=by
 rw[ajN]
 obtain⟨m,hm⟩:∃m,Prim.ev (.bin .mul) [ii h,ii 6364136223846793005]=some (ii m):=⟨_,Lq _ _ _⟩
 obtain⟨g,hg⟩:∃g,Prim.ev (.bin .add) [ii m,ii 1442695040888963407]=some (ii g):=⟨_,vY _ _ _⟩
 obtain⟨s1,h1⟩:=aqj g
 obtain⟨s2,h2⟩:=aqk g
 obtain⟨x0,h3⟩:=aqi s1 s2
 obtain⟨x1,h4,r1,r2⟩:=Zi x0
 have hn:Prim.ev .len [.l (B.map fP)]=some (ii B.length):=xV
 by_cases hc:i<B.length
 ·have hx:=hB _ (gZ hi hc)
  obtain⟨x2,h5,r3,r4⟩:=Zi (x1+gt B i)
  have hb:=Gz (enc:=fP) hi hc
  refine⟨x2,i+1,g,?_,⟨r3,r4⟩,by omega,by omega⟩
  have w1:=hx.1
  have w2:=hx.2
  simp(disch:=omega) only[↓pq,↓pj,ps,pz,↓reduceIte,af,ah,ai,aj,ak,ap,aq,au,av,Hh,hm,hg,h1,h2,h3,h4,hn,hc,hb,Zg hi hc,Zh w1 w2,h5]
 ·refine⟨x1,i,g,?_,⟨r1,r2⟩,hi,aO⟩
  simp(disch:=omega) only[↓pq,↓pj,ps,pz,↓reduceIte,af,ah,ai,aj,ak,ap,aq,au,av,Hh,hm,hg,h1,h2,h3,h4,hn,hc]
theorem nx{B:List Int}(hB:∀x∈B,tJ x)(hl:B.length<=1048576){i:Int}(h:Int)(hi:0<=i)(aO:i<=B.length)(n:Int)(hn:1<=n)(gO:n<=4294967296):
  ∃x i' h',ku [.l (B.map fP),ii i,ii h,ii n]=some [ii x,.l (B.map fP),ii i',ii h']∧(0<=x∧x<n)∧0<=i'∧i'<=B.length:=by
 rw[ajP]
 have h0:¬n<=0:=by omega
 obtain⟨x,i1,h1,e1,r1,p1,p2⟩:=Iy hB hl h hi aO
 have hz:n≠0:=by omega
 by_cases hc:n<=256
 ·refine⟨x.tmod n,i1,h1,?_,⟨Int.tmod_nonneg _ r1.1,Int.tmod_lt_of_pos _ (by omega)⟩,p1,p2⟩
  simp(disch:=omega) only[↓pq,↓pj,ps,pz,↓reduceIte,af,ah,ai,aj,ak,ap,aq,au,av,Hi,h0,hc,e1,hz]
 ·obtain⟨y,i2,h2,e2,r2,p3,p4⟩:=Iy hB hl h1 p1 p2
  obtain⟨z,i3,h3,e3,r3,p5,p6⟩:=Iy hB hl h2 p3 p4
  obtain⟨w,i4,h4,e4,r4,p7,p8⟩:=Iy hB hl h3 p5 p6
  refine⟨(x*16777216+y*65536+z*256+w).tmod n,i4,h4,?_,⟨Int.tmod_nonneg _ (by omega),Int.tmod_lt_of_pos _ (by omega)⟩,p7,p8⟩
  simp(disch:=omega) only[↓pq,↓pj,ps,pz,↓reduceIte,af,ah,ai,aj,ak,ap,aq,au,av,Hi,h0,hc,e1,e2,e3,e4,hz]
theorem Bh{B:List Int}(hB:∀x∈B,tJ x)(hl:B.length<=1048576){i:Int}(h:Int)(hi:0<=i)(aO:i<=B.length)(n:Int)(hn:1<=n)(gO:n<=4294967296):
  ∃x i' h',r7 [.l (B.map fP),ii i,ii h,ii n]=some [bb x,.l (B.map fP),ii i',ii h']∧0<=i'∧i'<=B.length:=by
 rw[ajX]
 obtain⟨x,i1,h1,e1,r1,p1,p2⟩:=nx hB hl h hi aO n hn gO
 refine⟨x==0,i1,h1,?_,p1,p2⟩
 simp(disch:=omega) only[↓pq,↓pj,ps,pz,↓reduceIte,af,ah,ai,aj,ak,ap,aq,au,av,Ml,e1]
 try rfl
theorem Bi{B:List Int}(hB:∀x∈B,tJ x)(hl:B.length<=1048576){i:Int}(h:Int)(hi:0<=i)(aO:i<=B.length)(l:List Int)(hn:1<=l.length)(gO:l.length<=1048576):
  ∃x i' h',xX [.l (B.map fP),ii i,ii h,.l (l.map aD)]=some [ii x,.l (B.map fP),ii i',ii h']∧x∈l∧0<=i'∧i'<=B.length:=by
 rw[ajR]
 obtain⟨x,i1,h1,e1,r1,p1,p2⟩:=nx hB hl h hi aO l.length (by omega) (by omega)
 have:=r1.1
 have:=r1.2
 refine⟨gt l x,i1,h1,?_,gZ r1.1 r1.2,p1,p2⟩
 simp(disch:=omega) only[↓pq,↓pj,ps,pz,↓reduceIte,af,ah,ai,aj,ak,ap,aq,au,av,Mh,e1]
theorem zy{β σ:Type}{F:(σ->Option β)->σ->Option β}(qX:Option β->Prop)(Inv:Nat->σ->Prop)(step:∀m s q,Inv m s->(∀m' s',m'<m->Inv m' s'->qX (q s'))->qX (F q s)):
  ∀m s R,Inv m s->m<R->qX (iter F R s)
 |m,s,0,_,hR=>absurd hR (Nat.not_lt_zero _)
 |m,s,R+1,hI,hR=>by
  unfold iter
  exact step m s _ hI λm' s' hm hI'=>zy qX Inv step m' s' R hI' (by omega)
theorem aql{B:List Int}(hB:∀x∈B,tJ x)(hl:B.length<=1048576){F:aB->aB}{qX:Option (List T)->Prop}
  (hF:∀q (h:Int) (k:Nat),(k:Int)<B.length->(k:Int)<4000->∃h',F q [ii h,ii k]=q [ii h',ii (k+1)])
  (fin:∀q (h:Int) (k:Nat),(k<=B.length∧k<=4000∧(¬(k:Int)<B.length∨¬(k:Int)<4000))->qX (F q [ii h,ii k]))(h:Int):qX (iter F rounds [ii h,ii 0]):=by
 refine zy qX (λm s=>∃(h:Int) (k:Nat),s=[ii h,ii k]∧k<=B.length∧k<=4000∧m=4000-k) ?_ 4000 _ rounds ⟨h,0,rfl,by omega,by omega,rfl⟩ (by unfold rounds;omega)
 rintro m s q ⟨h,k,rfl,h1,h2,rfl⟩ hq
 by_cases c1:(k:Int)<B.length
 ·by_cases c2:(k:Int)<4000
  ·obtain⟨h',e⟩:=hF q h k c1 c2
   rw[e]
   exact hq (4000-(k+1)) _ (by omega) ⟨h',k+1,by rw[tD],by omega,by omega,rfl⟩
  ·exact fin q h k ⟨h1,h2,.inr c2⟩
 ·exact fin q h k ⟨h1,h2,.inl c1⟩
def s8{α:Type}(lt:α->α->Bool)(L:List α)(x:α):List α:=L.filter (λy=>lt y x)++[x]++L.filter (λy=>lt x y)
theorem Zj{α:Type}{lt:α->α->Bool}(as:∀a b,lt a b=true->lt b a=false)(L:List α)(x:α):(s8 lt L x).length<=L.length+1:=by
 have:∀L:List α,(L.filter (λy=>lt y x)).length+(L.filter (λy=>lt x y)).length<=L.length:=by
  intro L
  induction L with
  |nil=>simp
  |cons y L ih=>
   have:=as y x
   cases h1:lt y x<;>cases h2:lt x y<;>simp_all<;>omega
 have:=this L
 simp only[s8,List.length_append,List.length_singleton];omega
theorem Zk{α:Type} [Inhabited α]{ok:α->Bool}{lt:α->α->Bool}(tr:∀a b c,lt a b=true->lt b c=true->lt a c=true){L:List α}(h:dK ok lt L=true)(ez:∀y∈L,ok y=true){x:α}(hx:ok x=true):dK ok lt (s8 lt L x)=true:=by
 have hp:=Yj tr h
 refine Ea (λy hy=>?_) ?_
 ·simp only[s8,List.mem_append,List.mem_filter,List.mem_singleton]at hy
  rcases hy with(hy|hy)|hy
  ·exact ez y hy.1
  ·rw[hy];exact hx
  ·exact ez y hy.1
 ·unfold s8
  rw[List.pairwise_append,List.pairwise_append]
  refine⟨⟨hp.filter _,List.pairwise_singleton _ _,?_⟩,hp.filter _,?_⟩
  ·intro a ha b hb
   rw[List.mem_singleton]at hb
   rw[hb];exact(List.mem_filter.1 ha).2
  ·intro a ha b hb
   have hb:=(List.mem_filter.1 hb).2
   rcases List.mem_append.1 ha with ha|ha
   ·exact tr _ _ _ (List.mem_filter.1 ha).2 hb
   ·rw[List.mem_singleton]at ha
    rw[ha];exact hb
theorem Zl{α:Type} [Inhabited α]{ok:α->Bool}{lt:α->α->Bool}{l:List α}(h:dK ok lt l=true):∀x∈l,ok x=true:=by
 intro x hx
 obtain⟨i,hi,rfl⟩:=List.mem_iff_getElem.1 hx
 have:=ca.1 h i hi
 simp only[bI]at this
 have h1:=this.1
 rwa[ed hi]at h1
theorem aqm(a b c:bC)(h1:iH a b=true)(h2:iH b c=true):iH a c=true:=by simp only[iH,decide_eq_true_eq]at *;omega
theorem aqn(a b:bC)(h1:iH a b=true):iH b a=false:=by simp only[iH,decide_eq_true_eq,decide_eq_false_iff_not]at *;omega
theorem aqo(a b c:bP)(h1:pB a b=true)(h2:pB b c=true):pB a c=true:=by simp only[pB,decide_eq_true_eq]at *;omega
theorem aqp(a b:bP)(h1:pB a b=true):pB b a=false:=by simp only[pB,decide_eq_true_eq,decide_eq_false_iff_not]at *;omega
theorem aqq(L:List bC)(a b c d:Int)(h:L.length<=1048576):QB [.l (L.map dm),ii a,ii b,ii c,ii d]=some [.l ((s8 iH L ⟨a,b,c,d⟩).map dm)]:=by
 rw[ajV];simp(disch:=omega) only[↓pq,↓pj,ps,pz,↓reduceIte,af,ah,ai,aj,ak,ap,aq,au,av,Jg,Jh,Mk]
 refine(g_ L (λi K=>[.l (K.map dm),ii i]) (λK y=>if iH y (⟨a,b,c,d⟩:bC)=true then K++[y]else K) (λK=>if K.length<=L.length then some [T.l ((K++[(⟨a,b,c,d⟩:bC)]++L.filter (λy=>iH (⟨a,b,c,d⟩:bC) y)).map dm)]else none) [] (λi K=>K.length<=i) rfl (dh h) (by simp) ?_ ?_).trans ?_
 ·intro i K hi hK
  refine⟨by split<;>(try simp)<;>omega,λq=>?_⟩
  cases hb:iH (gt L (i:Int)) ⟨a,b,c,d⟩with
  |true=>simp(disch:=omega) only[↓pq,↓pj,ps,pz,↓reduceIte,af,ah,ai,aj,ak,ap,aq,au,av,Jg,Jh,hi,Xd,hb]
  |false=>simp(disch:=omega) only[↓pq,↓pj,ps,pz,↓reduceIte,af,ah,ai,aj,ak,ap,aq,au,av,Jg,Jh,hi,Xd,hb,cI]
 ·intro K q hK
  rw[if_pos (by omega)]
  simp(disch:=omega) only[↓pq,↓pj,ps,pz,↓reduceIte,af,ah,ai,aj,ak,ap,aq,au,av,Jg,Jh,]
  refine(g_ L (λi K=>[.l (K.map dm),ii i]) (λK y=>if iH (⟨a,b,c,d⟩:bC) y=true then K++[y]else K) (λK=>some [T.l (K.map dm)]) (K++[⟨a,b,c,d⟩]) (λi K=>K.length<=L.length+1+i) rfl (dh h) (by simp;omega) ?_ ?_).trans (by rw[Dx])
  ·intro i K hi hK
   refine⟨by split<;>(try simp)<;>omega,λq=>?_⟩
   cases hb:iH ⟨a,b,c,d⟩ (gt L (i:Int))with
   |true=>simp(disch:=omega) only[↓pq,↓pj,ps,pz,↓reduceIte,af,ah,ai,aj,ak,ap,aq,au,av,Jg,Jh,hi,Xd,hb]
   |false=>simp(disch:=omega) only[↓pq,↓pj,ps,pz,↓reduceIte,af,ah,ai,aj,ak,ap,aq,au,av,Jg,Jh,hi,Xd,hb,cI]
  ·intro K q hK
   simp(disch:=omega) only[↓pq,↓pj,ps,pz,↓reduceIte,af,ah,ai,aj,ak,ap,aq,au,av,Jg,Jh,]
 ·rw[Dx,List.nil_append,if_pos (List.length_filter_le _ _)]
  rfl
theorem Em(a b c:Int)(d:Bool):List.map bR [⟨a,b,c,d⟩]=List.map dM [⟨a,b,c,d⟩]:=rfl
theorem aqr(L:List bP)(a b c:Int)(d:Bool)(h:L.length<=1048576):QC [.l (L.map dM),ii a,ii b,ii c,bb d]=some [.l ((s8 pB L ⟨a,b,c,d⟩).map dM)]:=by
 rw[aj1];simp(disch:=omega) only[↓pq,↓pj,ps,pz,↓reduceIte,af,ah,ai,aj,ak,ap,aq,au,av,Ji,Jj,Mo]
 refine(g_ L (λi K=>[.l (K.map dM),ii i]) (λK y=>if pB y (⟨a,b,c,d⟩:bP)=true then K++[y]else K) (λK=>if K.length<=L.length then some [T.l ((K++[(⟨a,b,c,d⟩:bP)]++L.filter (λy=>pB (⟨a,b,c,d⟩:bP) y)).map dM)]else none) [] (λi K=>K.length<=i) rfl (dh h) (by simp) ?_ ?_).trans ?_
 ·intro i K hi hK
  refine⟨by split<;>(try simp)<;>omega,λq=>?_⟩
  cases hb:pB (gt L (i:Int)) ⟨a,b,c,d⟩with
  |true=>simp(disch:=omega) only[↓pq,↓pj,ps,pz,↓reduceIte,af,ah,ai,aj,ak,ap,aq,au,av,Ji,Jj,hi,Xe,hb,Em]
  |false=>simp(disch:=omega) only[↓pq,↓pj,ps,pz,↓reduceIte,af,ah,ai,aj,ak,ap,aq,au,av,Ji,Jj,hi,Xe,hb,cI,Em]
 ·intro K q hK
  rw[if_pos (by omega)]
  simp(disch:=omega) only[↓pq,↓pj,ps,pz,↓reduceIte,af,ah,ai,aj,ak,ap,aq,au,av,Ji,Jj,Em]
  refine(g_ L (λi K=>[.l (K.map dM),ii i]) (λK y=>if pB (⟨a,b,c,d⟩:bP) y=true then K++[y]else K) (λK=>some [T.l (K.map dM)]) (K++[⟨a,b,c,d⟩]) (λi K=>K.length<=L.length+1+i) rfl (dh h) (by simp;omega) ?_ ?_).trans (by rw[Dx])
  ·intro i K hi hK
   refine⟨by split<;>(try simp)<;>omega,λq=>?_⟩
   cases hb:pB ⟨a,b,c,d⟩ (gt L (i:Int))with
   |true=>simp(disch:=omega) only[↓pq,↓pj,ps,pz,↓reduceIte,af,ah,ai,aj,ak,ap,aq,au,av,Ji,Jj,hi,Xe,hb,Em]
   |false=>simp(disch:=omega) only[↓pq,↓pj,ps,pz,↓reduceIte,af,ah,ai,aj,ak,ap,aq,au,av,Ji,Jj,hi,Xe,hb,cI,Em]
  ·intro K q hK
   simp(disch:=omega) only[↓pq,↓pj,ps,pz,↓reduceIte,af,ah,ai,aj,ak,ap,aq,au,av,Ji,Jj,]
 ·rw[Dx,List.nil_append,if_pos (List.length_filter_le _ _)]
  rfl
def uP(n:Int)(L:List bC):Prop:=dK (lH n) iH L=true∧L.length<=12
def yG(n:Int)(L:List bP):Prop:=dK (zq n) pB L=true
theorem uP.put{n:Int}{L:List bC}(h:uP n L)(hl:L.length<12){a b c d:Int}(hn:2<=n∧n<=6)(ha:1<=a)(nE:a<b)(hb:b<=n)(hc:1<=c∧c<=1000)(hd:0<=d∧d<=2):uP n (s8 iH L ⟨a,b,c,d⟩):=by
 refine⟨Zk aqm h.1 (Zl h.1) ?_,?_⟩
 ·simp only[lH,jO,bI,decide_eq_true_eq];omega
 ·have:=Zj aqn L ⟨a,b,c,d⟩
  omega
theorem yG.put{n:Int}{L:List bP}(h:yG n L){a b c:Int}{d:Bool}(ha:1<=a∧a<=n)(hb:1<=b∧b<=9)(hc:1<=c∧c<=1000):yG n (s8 pB L ⟨a,b,c,d⟩):=by
 refine Zk aqo h (Zl h) ?_
 simp only[zq,jO,bI,decide_eq_true_eq];omega
theorem uP.nil{n:Int}:uP n []:=⟨rfl,by simp⟩
theorem yG.nil{n:Int}:yG n []:=rfl
theorem xh(a b c d:Int):Prim.ev (.lit 1 [true,true,true,true]) [ii a,ii b,ii c,ii d]=some (.l ([a,b,c,d].map aD)):=by simp[Prim.ev,sM,pF,dX,aD]
theorem aqs{B:List Int}(hB:∀x∈B,tJ x)(hl:B.length<=1048576){i:Int}(h:Int)(hi:0<=i)(aO:i<=B.length):
  ∃(x:Net) (i' h':Int),QD [.l (B.map fP),ii i,ii h]=some [ii x.n,.l (x.aA.map dm),.l (x.aN.map dM),.l (B.map fP),ii i',ii h']∧(pC x=true∧2<=x.n∧x.aN.length<=2)∧0<=i'∧i'<=B.length:=by
 rw[aj3]
 obtain⟨n0,i,h,e,hn,hi,aO⟩:=nx hB hl h hi aO 4 (by omega) (by omega)
 simp(disch:=omega) only[↓pq,↓pj,ps,pz,↓reduceIte,af,ah,ai,aj,ak,ap,aq,au,av,yi,yj,Mp,e]
 obtain⟨n,EZ⟩:∃n,n=2+n0:=⟨_,rfl⟩
 rw[<-EZ]
 have RH:2<=n∧n<=6:=by omega
 clear EZ e hn
 refine zy (λo=>∃(x:Net) (i' h':Int),o=some [ii x.n,.l (x.aA.map dm),.l (x.aN.map dM),.l (B.map fP),ii i',ii h']∧(pC x=true∧2<=x.n∧x.aN.length<=2)∧0<=i'∧i'<=B.length)
  (λm s=>∃(k:Nat) (i h:Int) (L:List bC),s=[ii k,.l (B.map fP),ii i,ii h,.l (L.map dm)]∧k<=8∧(0<=i∧i<=B.length)∧uP n L∧m=8-k) ?_ 8 _ rounds ⟨0,i,h,[],rfl,by omega,⟨hi,aO⟩,uP.nil,rfl⟩ (by unfold rounds;omega)
 rintro m s q ⟨k,i,h,L,rfl,hk,⟨hi,aO⟩,hL,rfl⟩ hq
 obtain⟨d,i,h,e,hd,hi,aO⟩:=nx hB hl h hi aO 3 (by omega) (by omega)
 by_cases hc:(k:Int)<n+d
 ·have hq:∀(i h:Int) (L:List bC),(0<=i∧i<=B.length)->uP n L->_:=λi h L hi hL=>hq (8-(k+1)) [ii (k+1),.l (B.map fP),ii i,ii h,.l (L.map dm)] (by omega) ⟨k+1,i,h,L,by rw[tD],by omega,hi,hL,rfl⟩
  obtain⟨x,i,h,e1,hx,hi,aO⟩:=nx hB hl h hi aO n (by omega) (by omega)
  obtain⟨y,i,h,e2,hy,hi,aO⟩:=nx hB hl h hi aO n (by omega) (by omega)
  obtain⟨c,i,h,e3,IZ,hi,aO⟩:=nx hB hl h hi aO 4 (by omega) (by omega)
  obtain⟨z,i,h,e4,hz,hi,aO⟩:=Bi hB hl h hi aO [0,0,1,2] (by simp) (by simp)
  have hz:0<=z∧z<=2:=by simp at hz;omega
  have vG:=λa b=>aqq L a b (1+c) z (by have:=hL.2;omega)
  have fin:∀a b:Int,1<=a->a<b->b<=n->∀hl:L.length<12,uP n (s8 iH L ⟨a,b,1+c,z⟩):=λa b h1 h2 h3 h4=>hL.put h4 RH h1 h2 h3 (by omega) hz
  have avi:((L.length:Nat):Int)<12↔L.length<12:=by omega
  have hr:=Int.tmod_nonneg n (show 0<=1+x by omega)
  have sC:=Int.tmod_lt_of_pos (1+x) (show 0<n by omega)
  by_cases c1:(k:Int)+1<n
  ·have g1:¬((k:Int)+1=k+2):=by omega
   have g2:¬((k:Int)+1>k+2):=by omega
   by_cases c4:(L.length:Int)<12
   ·simp(disch:=omega) only[↓pq,↓pj,ps,pz,↓reduceIte,af,ah,ai,aj,ak,ap,aq,au,av,yi,yj,e,hc,e1,e2,c1,g1,g2,xh,e3,e4,c4,vG]
    exact hq i h _ ⟨hi,aO⟩ (fin _ _ (by omega) (by omega) (by omega) (by omega))
   ·simp(disch:=omega) only[↓pq,↓pj,ps,pz,↓reduceIte,af,ah,ai,aj,ak,ap,aq,au,av,yi,yj,e,hc,e1,e2,c1,g1,g2,xh,e3,e4,c4]
    exact hq i h _ ⟨hi,aO⟩ hL
  ·by_cases c2:(1:Int)+x=1+y
   ·have FE:n≠0:=by omega
    by_cases c3:1+x=n
    ·have m_:(1+x).tmod n=0:=by rw[c3];exact Int.tmod_self
     have g3:(1:Int)+x>1:=by omega
     rw[c2]at m_ g3
     by_cases c4:(L.length:Int)<12
     ·simp(disch:=omega) only[↓pq,↓pj,ps,pz,↓reduceIte,af,ah,ai,aj,ak,ap,aq,au,av,yi,yj,e,hc,e1,e2,c1,c2,FE,m_,g3,xh,e3,e4,c4,vG]
      exact hq i h _ ⟨hi,aO⟩ (fin _ _ (by omega) (by omega) (by omega) (by omega))
     ·simp(disch:=omega) only[↓pq,↓pj,ps,pz,↓reduceIte,af,ah,ai,aj,ak,ap,aq,au,av,yi,yj,e,hc,e1,e2,c1,c2,FE,m_,g3,xh,e3,e4,c4]
      exact hq i h _ ⟨hi,aO⟩ hL
    ·have m_:(1+x).tmod n=1+x:=by
      rw[Int.tmod_eq_emod_of_nonneg (by omega)]
      exact Int.emod_eq_of_lt (by omega) (by omega)
     have g3:¬((1:Int)+x>1+x+1):=by omega
     rw[c2]at m_ g3
     by_cases c4:(L.length:Int)<12
     ·simp(disch:=omega) only[↓pq,↓pj,ps,pz,↓reduceIte,af,ah,ai,aj,ak,ap,aq,au,av,yi,yj,e,hc,e1,e2,c1,c2,FE,m_,g3,xh,e3,e4,c4,vG]
      exact hq i h _ ⟨hi,aO⟩ (fin _ _ (by omega) (by omega) (by omega) (by omega))
     ·simp(disch:=omega) only[↓pq,↓pj,ps,pz,↓reduceIte,af,ah,ai,aj,ak,ap,aq,au,av,yi,yj,e,hc,e1,e2,c1,c2,FE,m_,g3,xh,e3,e4,c4]
      exact hq i h _ ⟨hi,aO⟩ hL
   ·by_cases c3:(1:Int)+x>1+y
    ·by_cases c4:(L.length:Int)<12
     ·simp(disch:=omega) only[↓pq,↓pj,ps,pz,↓reduceIte,af,ah,ai,aj,ak,ap,aq,au,av,yi,yj,e,hc,e1,e2,c1,c2,c3,xh,e3,e4,c4,vG]
      exact hq i h _ ⟨hi,aO⟩ (fin _ _ (by omega) (by omega) (by omega) (by omega))
     ·simp(disch:=omega) only[↓pq,↓pj,ps,pz,↓reduceIte,af,ah,ai,aj,ak,ap,aq,au,av,yi,yj,e,hc,e1,e2,c1,c2,c3,xh,e3,e4,c4]
      exact hq i h _ ⟨hi,aO⟩ hL
    ·by_cases c4:(L.length:Int)<12
     ·simp(disch:=omega) only[↓pq,↓pj,ps,pz,↓reduceIte,af,ah,ai,aj,ak,ap,aq,au,av,yi,yj,e,hc,e1,e2,c1,c2,c3,xh,e3,e4,c4,vG]
      exact hq i h _ ⟨hi,aO⟩ (fin _ _ (by omega) (by omega) (by omega) (by omega))
     ·simp(disch:=omega) only[↓pq,↓pj,ps,pz,↓reduceIte,af,ah,ai,aj,ak,ap,aq,au,av,yi,yj,e,hc,e1,e2,c1,c2,c3,xh,e3,e4,c4]
      exact hq i h _ ⟨hi,aO⟩ hL
 ·simp(disch:=omega) only[↓pq,↓pj,ps,pz,↓reduceIte,af,ah,ai,aj,ak,ap,aq,au,av,yi,yj,e,hc]
  refine zy (λo=>∃(x:Net) (i' h':Int),o=some [ii x.n,.l (x.aA.map dm),.l (x.aN.map dM),.l (B.map fP),ii i',ii h']∧(pC x=true∧2<=x.n∧x.aN.length<=2)∧0<=i'∧i'<=B.length)
   (λm s=>∃(k:Nat) (i h:Int) (K:List bP),s=[ii k,.l (B.map fP),ii i,ii h,.l (K.map dM)]∧k<=2∧(0<=i∧i<=B.length)∧yG n K∧K.length<=k∧m=2-k) ?_ 2 _ rounds ⟨0,i,h,[],rfl,by omega,⟨hi,aO⟩,yG.nil,by simp,rfl⟩ (by unfold rounds;omega)
  rintro m s q ⟨k,i,h,K,rfl,hk,⟨hi,aO⟩,hK,hKl,rfl⟩ hq
  obtain⟨d,i,h,e,hd,hi,aO⟩:=nx hB hl h hi aO 3 (by omega) (by omega)
  by_cases hc:(k:Int)<d
  ·obtain⟨x,i,h,e1,hx,hi,aO⟩:=nx hB hl h hi aO n (by omega) (by omega)
   obtain⟨y,i,h,e2,hy,hi,aO⟩:=nx hB hl h hi aO 3 (by omega) (by omega)
   obtain⟨c,i,h,e3,IZ,hi,aO⟩:=nx hB hl h hi aO 5 (by omega) (by omega)
   obtain⟨f,i,h,e4,hi,aO⟩:=Bh hB hl h hi aO 2 (by omega) (by omega)
   have vG:=aqr K (1+x) (1+y) (1+c) f (by omega)
   have:=Zj aqp K ⟨1+x,1+y,1+c,f⟩
   simp(disch:=omega) only[↓pq,↓pj,ps,pz,↓reduceIte,af,ah,ai,aj,ak,ap,aq,au,av,yi,yj,e,hc,e1,e2,e3,e4,vG]
   exact hq (2-(k+1)) _ (by omega) ⟨k+1,i,h,_,by rw[tD],by omega,⟨hi,aO⟩,hK.put (by omega) (by omega) (by omega),by omega,rfl⟩
  ·simp(disch:=omega) only[↓pq,↓pj,ps,pz,↓reduceIte,af,ah,ai,aj,ak,ap,aq,au,av,yi,yj,e,hc]
   refine⟨⟨n,L,K⟩,i,h,rfl,⟨?_,RH.1,by show K.length<=2;omega⟩,hi,aO⟩
   unfold pC
   simp only[bI,decide_eq_true_eq]
   exact⟨⟨⟨⟨aZ.2 (by omega),hL.2⟩,by show K.length<=4;omega⟩,hL.1⟩,hK⟩
theorem Pq{x:Net}(h:pC x=true):1<=x.n∧x.n<=6:=by
 unfold pC at h
 simp only[bI]at h
 exact aZ.1 h.1.1.1.1
theorem aqt{B:List Int}(hB:∀x∈B,tJ x)(hl:B.length<=1048576)(h:Int){k:Nat}(hc:(k:Int)<B.length):
  ∃m a c d,Prim.ev (.bin .mul) [ii h,ii 131]=some (ii m)∧Prim.ev .kg [.l (B.map fP),ii k]=some (bb true)∧Prim.ev (.cell 1 0) [.l (B.map fP),ii k]=some (u8 (gt B k))∧Prim.ev (.IH .i64) [u8 (gt B k)]=some (ii (gt B k))∧
   Prim.ev (.bin .add) [ii m,ii (gt B k)]=some (ii a)∧Prim.ev (.bin .add) [ii a,ii 7]=some (ii c)∧Prim.ev (.bin .and) [ii c,ii 1073741823]=some (ii d):=by
 have hx:=hB _ (gZ (l:=B) (n:=(k:Int)) (by omega) hc)
 obtain⟨m,hm⟩:∃m,Prim.ev (.bin .mul) [ii h,ii 131]=some (ii m):=⟨_,Lq _ _ _⟩
 obtain⟨a,ha⟩:∃a,Prim.ev (.bin .add) [ii m,ii (gt B k)]=some (ii a):=⟨_,vY _ _ _⟩
 obtain⟨c,IZ⟩:∃c,Prim.ev (.bin .add) [ii a,ii 7]=some (ii c):=⟨_,vY _ _ _⟩
 obtain⟨d,hd⟩:=aqh c 1073741823
 exact⟨m,a,c,d,hm,Gz (by omega) hc,Zg (by omega) hc,Zh hx.1 hx.2,ha,IZ,hd⟩
theorem aqu(ts:List T)(h:iY [.sl Pp] ts):∃B:List Int,ts=[.l (B.map fP)]∧∀x∈B,tJ x:=by
 obtain⟨t1,_,rfl,q1,rfl⟩:=Ln h
 unfold WT at q1
 obtain⟨z1,rfl,m1,g1⟩:=q1
 obtain⟨B,rfl,hB⟩:=VH aqg g1
 exact⟨B,rfl,hB⟩
theorem Zm(B:List Int):Av [.l (B.map fP)]=some [bb (decide ((B.length:Int)>1048576))]:=by
 have hn:Prim.ev .len [.l (B.map fP)]=some (ii B.length):=xV
 rw[ajL]
 simp(disch:=omega) only[↓pq,↓pj,ps,pz,↓reduceIte,af,ah,ai,aj,ak,ap,aq,au,av,Mg,hn]
 try rfl
def sw(a:Int):Prop:=1<=a∧a<=6
inductive Pa (s:List ay) (ar:Int):Int->Int->Int->Prop
 |nil {a:Int} (h:sw a):Pa s ar a a 0
 |cons {a u b n:Int} (h:sw a) (hc:du s ar a u≠0) (p:Pa s ar u b n):Pa s ar a b (du s ar a u+n)
theorem Pa.l{s:List ay}{ar a b n:Int}(h:Pa s ar a b n):sw a:=by cases h<;>assumption
theorem Pa.r{s:List ay}{ar a b n:Int}(h:Pa s ar a b n):sw b:=by induction h<;>assumption
theorem Pa.nn{s:List ay}(hs:eA s=true){ar a b n:Int}(h:Pa s ar a b n):0<=n∧(n=0->a=b):=by
 induction h with
 |nil=>exact⟨by omega,λ_=>rfl⟩
 | @cons a u b n h hc p ih=>
  have:=DT hs ar a u
  exact⟨by omega,λh=>by omega⟩
theorem Pa.snoc{s:List ay}{ar a u v n:Int}(h:Pa s ar a u n)(hc:du s ar u v≠0)(hv:sw v):Pa s ar a v (n+du s ar u v):=by
 induction h with
 |nil h=>rw[Int.zero_add];have:=Pa.cons h hc (.nil hv);rwa[Int.add_zero]at this
 |cons h tw p ih=>rw[Int.add_assoc];exact .cons h tw (ih hc)
theorem Pa.app{s:List ay}{ar a u v n m:Int}(h:Pa s ar a u n)(h':Pa s ar u v m):Pa s ar a v (n+m):=by
 induction h with
 |nil h=>rwa[Int.zero_add]
 |cons h tw p ih=>rw[Int.add_assoc];exact .cons h tw (ih h')
theorem Pa.last{s:List ay}{ar a v n:Int}(h:Pa s ar a v n):(a=v∧n=0)∨∃p m,Pa s ar a p m∧du s ar p v≠0∧n=m+du s ar p v:=by
 induction h with
 |nil h=>exact .inl ⟨rfl,rfl⟩
 | @cons a u b n h hc p ih=>
  right
  rcases ih with⟨rfl,rfl⟩|⟨p',m,h1,h2,h3⟩
  ·exact⟨a,0,.nil h,hc,by omega⟩
  ·exact⟨p',du s ar a u+m,.cons h hc h1,h2,by omega⟩
def En(s:List ay)(ar fr a:Int)(W:List Way)(v:Int):Way:=
 if du s ar a v=0∨v=fr then gt W v
 else if(gt W v).to=0∨(gt W a).cost+du s ar a v<(gt W v).cost then⟨v,(gt W a).cost+du s ar a v,if a=fr then [v]else(gt W a).aF⟩
 else if(gt W a).cost+du s ar a v=(gt W v).cost then jI (gt W v) ⟨v,(gt W a).cost+du s ar a v,if a=fr then [v]else(gt W a).aF⟩
 else gt W v
theorem aqv{s:List ay}(hs:eA s=true)(ar fr:Int){a:Int}(ha:sw a){W:List Way}(hl7:W.length=7){v:Int}(hv:sw v):gt (rD s ar fr a W) v=En s ar fr a W v:=by
 have hl:(List.range 6).length=6:=List.length_range
 have haa:En s ar fr a W a=gt W a:=by unfold En;rw[if_pos (.inl (H7 hs ar a))]
 have key:=LR (l:=List.range 6) (g:=oG s ar fr a) (c:=W) (Inv:=λi W'=>W'.length=7∧∀u:Int,sw u->gt W' u=if u<=i then En s ar fr a W u else gt W u)
  ⟨hl7,λu hu=>by rw[if_neg (by have:=hu.1;omega)]⟩ λi W' hi ⟨h1,h2⟩=>by
  rw[hl]at hi
  rw[ed (by rw[hl];omega),List.getElem_range]
  have pD:i<6:=by omega
  have ga:gt W' a=gt W a:=by rw[h2 a ha];split<;>simp[haa]
  have gi:gt W' ((i:Int)+1)=gt W ((i:Int)+1):=by rw[h2 _ ⟨by omega,by omega⟩,if_neg (by omega)]
  have hlen:(oG s ar fr a W' i).length=7:=by
   unfold oG
   split
   ·exact h1
   ·split
    ·simp[h1]
    ·split
     ·simp[h1]
     ·exact h1
  refine⟨hlen,λu hu=>?_⟩
  have hu0:0<=u:=by have:=hu.1;omega
  by_cases he:u=(i:Int)+1
  ·subst he
   rw[if_pos (by omega)]
   unfold oG En
   rw[gi,ga]
   split
   ·rw[gi]
   ·split
    ·rw[vq h1 pD hu0,if_pos rfl]
    ·split
     ·rw[vq h1 pD hu0,if_pos rfl]
     ·rw[gi]
  ·have:gt (oG s ar fr a W' i) u=gt W' u:=by
    unfold oG
    split
    ·rfl
    ·split
     ·rw[vq h1 pD hu0,if_neg he]
     ·split
      ·rw[vq h1 pD hu0,if_neg he]
      ·rfl
   rw[this,h2 u hu]
   exact As ⟨λh=>by omega,λh=>by omega⟩ _ _
 rw[hl]at key
 have:=key.2 v hv
 rwa[if_pos (show v<=((6:Nat):Int) by have:=hv.2;omega)]at this
structure DI (s:List ay) (ar fr:Int) (W:List Way) (D:List Int):Prop where
 JC:(gt W fr).to=fr∧(gt W fr).cost=0
 snd:∀v,sw v->(gt W v).to≠0->Pa s ar fr v (gt W v).cost
 rel:∀p∈D,∀v,sw v->du s ar p v≠0->(gt W v).to≠0∧(gt W v).cost<=(gt W p).cost+du s ar p v
 eD:∀v,sw v->v≠fr->(gt W v).to≠0->∀h,h∈(gt W v).aF↔∃p∈D,du s ar p v≠0∧(gt W p).cost+du s ar p v=(gt W v).cost∧(if p=fr then h=v else h∈(gt W p).aF)
theorem DI.start{s:List ay}{ar fr:Int}(h:sw fr):DI s ar fr (W0 fr) []:=by
 have g:∀v,sw v->(gt (W0 fr) v).to≠0->v=fr:=λv hv hn=>by
  have h1:=hv.1
  have h2:=hv.2
  rw[wq h (by omega) (by omega)]at hn
  split at hn
  ·rename_i e;exact e.symm
  ·exact absurd rfl hn
 have g0:gt (W0 fr) fr=⟨fr,0,[]⟩:=by have h1:=h.1;have h2:=h.2;rw[wq h (by omega) (by omega),if_pos rfl]
 refine⟨by rw[g0];exact⟨rfl,rfl⟩,λv hv hn=>?_,by simp,λv hv dI hn=>absurd (g v hv hn) dI⟩
 have:=g v hv hn
 subst this
 rw[g0];exact .nil h
theorem aqw{a b:Way}(ha:fo a.aF)(hb:fo b.aF)(he:a.cost=b.cost)(h:Int):h∈(jI a b).aF↔h∈a.aF∨h∈b.aF:=by
 unfold jI
 rw[if_neg (by omega),if_neg (by omega),HT]
 constructor
 ·exactλh=>h.2
 ·exactλh'=>⟨h'.elim (ha.2 h) (hb.2 h),h'⟩
theorem DI.step{s:List ay}(hs:eA s=true){ar fr:Int}{W:List Way}{D:List Int}(hI:gU fr W D)(h:DI s ar fr W D)(hb:dT W D≠0):DI s ar fr (rD s ar fr (dT W D) W) (D++[dT W D]):=by
 obtain⟨h1,h2,h3,h4⟩:=(Rz W D).resolve_left λe=>hb e.1
 generalize ha:dT W D=a at*
 have hl:=hI.ok.len
 have bN:=λv (hv:sw v)=>aqv hs ar fr (a:=a) h1 hl hv
 have ho:∀v,sw v->fo (gt W v).aF:=λv hv=>hI.ok.aF v (by have:=hv.1;omega) (by have:=hv.2;omega)
 have jd:∀v,sw v->fo (if a=fr then [v]else(gt W a).aF):=λv hv=>by
  split
  ·exact Jr hv.1 hv.2
  ·exact ho a h1
 have hD:∀p,p∈D∨p=a->gt (rD s ar fr a W) p=gt W p∧sw p:=by
  intro p hp
  rcases hp with hp|rfl
  ·have hm:=hI.mem p hp
   refine⟨?_,hm.1⟩
   rw[bN p hm.1]
   unfold En
   have hmo:=hI.mono p hp a h1.1 h1.2 h3 h2
   have hk:=DT hs ar a p
   by_cases q1:du s ar a p=0∨p=fr
   ·rw[if_pos q1]
   rw[if_neg q1,if_neg,if_neg]
   ·intro e;have:du s ar a p≠0:=λe=>q1 (.inl e);omega
   ·rintro(e|e)
    ·exact hm.2 e
    ·omega
  ·refine⟨?_,h1⟩
   rw[bN p h1];unfold En;rw[if_pos (.inl (H7 hs ar p))]
 have sE:sw fr:=hI.fr6
 refine⟨?_,λv hv hn=>?_,λp hp v hv hc=>?_,λv hv dI hn x=>?_⟩
 ·rw[bN fr sE];unfold En;rw[if_pos (.inr rfl)];exact h.JC
 ·rw[bN v hv]at hn⊢
  unfold En at hn⊢
  by_cases q1:du s ar a v=0∨v=fr
  ·rw[if_pos q1]at hn⊢;exact h.snd v hv hn
  rw[if_neg q1]at hn⊢
  have Ca:=(h.snd a h1 h2).snoc (λe=>q1 (.inl e)) hv
  by_cases q2:(gt W v).to=0∨(gt W a).cost+du s ar a v<(gt W v).cost
  ·rw[if_pos q2];exact Ca
  rw[if_neg q2]at hn⊢
  by_cases q3:(gt W a).cost+du s ar a v=(gt W v).cost
  ·rw[if_pos q3]
   rcases AW (gt W v) ⟨v,(gt W a).cost+du s ar a v,if a=fr then [v]else(gt W a).aF⟩with e|e
   ·rw[e];exact h.snd v hv λe=>q2 (.inl e)
   ·rw[e];exact Ca
  ·rw[if_neg q3];exact h.snd v hv λe=>q2 (.inl e)
 ·have sG:p∈D∨p=a:=by simpa using hp
  obtain⟨g1,g2⟩:=hD p sG
  rw[g1,bN v hv]
  unfold En
  by_cases Ca:p=a
  ·rw[Ca]at hc⊢
   by_cases q1:v=fr
   ·subst q1
    rw[if_pos (.inr rfl)]
    have:=DT hs ar a v
    have h5:=hI.ok.cost a (by omega) (by omega)
    have h6:=h.JC
    have:=hv.1
    refine⟨by omega,by omega⟩
   ·rw[if_neg (λe=>e.elim hc q1)]
    split
    ·exact⟨by show v≠0;have:=hv.1;omega,by show(gt W a).cost+_<=_;omega⟩
    ·rename_i q2
     split
     ·rename_i q3
      have nK:=(hI.ok.to v (by have:=hv.1;omega) (by have:=hv.2;omega)).resolve_left (λe=>q2 (.inl e))
      rw[yo nK rfl]
      refine⟨by have:=hv.1;omega,?_⟩
      rcases AW (gt W v) ⟨v,(gt W a).cost+du s ar a v,if a=fr then [v]else(gt W a).aF⟩with e|e
      ·rw[e];omega
      ·rw[e];exact Int.le_refl _
     ·exact⟨λe=>q2 (.inl e),by omega⟩
  ·have hpD:=sG.resolve_right Ca
   obtain⟨k1,k2⟩:=h.rel p hpD v hv hc
   split
   ·exact⟨k1,k2⟩
   ·split
    ·rename_i q2
     have q3:=q2.resolve_left k1
     exact⟨by show v≠0;have:=hv.1;omega,by show(gt W a).cost+_<=_;omega⟩
    ·split
     ·have nK:=(hI.ok.to v (by have:=hv.1;omega) (by have:=hv.2;omega)).resolve_left k1
      rw[yo nK rfl]
      refine⟨by have:=hv.1;omega,?_⟩
      rcases AW (gt W v) ⟨v,(gt W a).cost+du s ar a v,if a=fr then [v]else(gt W a).aF⟩with e|e
      ·rw[e];exact k2
      ·rename_i q3;rw[e];show(gt W a).cost+_<=_;omega
     ·exact⟨k1,k2⟩
 ·
  have zD:∀c:Int,(∃p∈D++[a],du s ar p v≠0∧(gt (rD s ar fr a W) p).cost+du s ar p v=c∧(if p=fr then x=v else x∈(gt (rD s ar fr a W) p).aF))↔
    ((∃p∈D,du s ar p v≠0∧(gt W p).cost+du s ar p v=c∧(if p=fr then x=v else x∈(gt W p).aF))∨(du s ar a v≠0∧(gt W a).cost+du s ar a v=c∧x∈(if a=fr then [v]else(gt W a).aF))):=by
   intro c
   have ea:(if a=fr then x=v else x∈(gt W a).aF)↔x∈(if a=fr then [v]else(gt W a).aF):=by
    split<;>simp
   constructor
   ·rintro⟨p,hp,k1,k2,k3⟩
    have sG:p∈D∨p=a:=by simpa using hp
    rw[(hD p sG).1]at k2 k3
    rcases sG with sG|rfl
    ·exact .inl ⟨p,sG,k1,k2,k3⟩
    ·exact .inr ⟨k1,k2,ea.1 k3⟩
   ·rintro(⟨p,hp,k1,k2,k3⟩|⟨k1,k2,k3⟩)
    ·exact⟨p,by simp[hp],k1,by rw[(hD p (.inl hp)).1];exact k2,by rw[(hD p (.inl hp)).1];exact k3⟩
    ·exact⟨a,by simp,k1,by rw[(hD a (.inr rfl)).1];exact k2,by rw[(hD a (.inr rfl)).1];exact ea.2 k3⟩
  rw[bN v hv]at hn⊢
  rw[zD]
  unfold En at hn⊢
  by_cases q1:du s ar a v=0
  ·rw[if_pos (.inl q1)]at hn⊢
   rw[h.eD v hv dI hn]
   exact⟨.inl,λk=>k.resolve_right λk=>k.1 q1⟩
  rw[if_neg (λe=>e.elim q1 dI)]at hn⊢
  by_cases q2:(gt W v).to=0∨(gt W a).cost+du s ar a v<(gt W v).cost
  ·rw[if_pos q2]at hn⊢
   show x∈(if a=fr then [v]else(gt W a).aF)↔_
   constructor
   ·exactλk=>.inr ⟨q1,rfl,k⟩
   ·rintro(⟨p,hp,k1,k2,k3⟩|⟨_,_,k⟩)
    ·obtain⟨k4,k5⟩:=h.rel p hp v hv k1
     rcases q2 with q2|q2
     ·exact absurd q2 k4
     ·have k2:(gt W p).cost+du s ar p v=(gt W a).cost+du s ar a v:=k2
      omega
    ·exact k
  rw[if_neg q2]at hn⊢
  have Zn:(gt W v).to≠0:=λe=>q2 (.inl e)
  by_cases q3:(gt W a).cost+du s ar a v=(gt W v).cost
  ·rw[if_pos q3]
   have DV:(jI (gt W v) ⟨v,(gt W a).cost+du s ar a v,if a=fr then [v]else(gt W a).aF⟩).cost=(gt W v).cost:=by
    rcases AW (gt W v) ⟨v,(gt W a).cost+du s ar a v,if a=fr then [v]else(gt W a).aF⟩with e|e
    ·exact e
    ·rw[e];exact q3
   rw[DV,aqw (ho v hv) (jd v hv) q3.symm,h.eD v hv dI Zn]
   constructor
   ·exactλk=>k.imp_right λk=>⟨q1,q3,k⟩
   ·exactλk=>k.imp_right λk=>k.2.2
  ·rw[if_neg q3]
   rw[h.eD v hv dI Zn]
   exact⟨.inl,λk=>k.resolve_right λk=>q3 k.2.1⟩
theorem Zo{s:List ay}(hs:eA s=true)(ar fr:Int):∀k W D,gU fr W D->DI s ar fr W D->D.length+k=6->∃D',gU fr (sj s ar fr k W D) D'∧DI s ar fr (sj s ar fr k W D) D'∧dT (sj s ar fr k W D) D'=0
 |0,W,D,h,h',hk=>⟨D,h,h',h.full (by omega)⟩
 |k+1,W,D,h,h',hk=>by
  unfold sj
  by_cases hb:dT W D=0
  ·rw[if_pos hb];exact⟨D,h,h',hb⟩
  ·rw[if_neg hb];exact Zo hs ar fr k _ _ (h.step hs ar hb) (h'.step hs h hb) (by simp;omega)
theorem aqx{s:List ay}(hs:eA s=true){ar fr:Int}(hf:sw fr)(hp:0<=iz s ar fr):
  (∀w∈aH s ar fr,sw w.to∧Pa s ar fr w.to w.cost∧(∀n,Pa s ar fr w.to n->w.cost<=n)∧(w.to≠fr->∀h,h∈w.aF↔du s ar fr h≠0∧∃n,Pa s ar h w.to n∧du s ar fr h+n=w.cost))∧
  (∀v n,Pa s ar fr v n->∃w∈aH s ar fr,w.to=v):=by
 have hc:eA s=true∧jO fr 1 6=true∧0<=iz s ar fr:=⟨hs,aZ.2 hf,hp⟩
 unfold aH
 rw[if_pos hc]
 obtain⟨D,hI,hd,hb⟩:=Zo hs ar fr 6 (W0 fr) [] (gU.start hf) (DI.start hf) rfl
 generalize sj s ar fr 6 (W0 fr) []=W at*
 have nL:∀u,sw u->(gt W u).to≠0->u∈D:=by
  rcases Rz W D with⟨_,e⟩|⟨e,_⟩
  ·exactλu hu=>e u hu.1 hu.2
  ·omega
 have gen:∀a v n,Pa s ar a v n->(gt W a).to≠0->(gt W v).to≠0∧(gt W v).cost<=(gt W a).cost+n:=by
  intro a v n Ca
  induction Ca with
  |nil h=>exactλh0=>⟨h0,by omega⟩
  | @cons a u b n h hc p ih=>
   intro h0
   obtain⟨k1,k2⟩:=hd.rel a (nL a h h0) u p.l hc
   obtain⟨k3,k4⟩:=ih k1
   exact⟨k3,by omega⟩
 have low:∀v n,Pa s ar fr v n->(gt W v).to≠0∧(gt W v).cost<=n:=by
  intro v n Ca
  have:=gen fr v n Ca (by rw[hd.JC.1];have:=hf.1;omega)
  rw[hd.JC.2]at this
  exact⟨this.1,by omega⟩
 have hl:=hI.ok.len
 have je:∀w,w∈yn W↔∃v,sw v∧w=gt W v∧w.to=v:=by
  intro w
  unfold yn
  rw[List.mem_filter]
  constructor
  ·rintro⟨h1,h2⟩
   have h2:w.to≠0:=by simpa using h2
   obtain⟨i,hi,rfl⟩:=List.mem_iff_getElem.1 h1
   have h3:=hI.ok.to (i:Int) (by omega) (by omega)
   rw[ed hi]at h3
   have h3:=h3.resolve_left h2
   exact⟨i,⟨by omega,by omega⟩,(ed hi).symm,h3⟩
  ·rintro⟨v,hv,rfl,h2⟩
   have h3:=hv.1
   have h4:=hv.2
   exact⟨gZ (by omega) (by omega),by simp[h2];omega⟩
 refine⟨λw hw=>?_,λv n Ca=>?_⟩
 ·obtain⟨v,hv,rfl,nK⟩:=(je w).1 hw
  have h0:(gt W v).to≠0:=by rw[nK];have:=hv.1;omega
  rw[nK]
  refine⟨hv,hd.snd v hv h0,λn hn=>(low v n hn).2,λdI x=>?_⟩
  have aF:∀m:Nat,∀v,sw v->v≠fr->(gt W v).to≠0->(gt W v).cost<=m->∀x,x∈(gt W v).aF↔du s ar fr x≠0∧∃n,Pa s ar x v n∧du s ar fr x+n=(gt W v).cost:=by
   intro m
   induction m with
   |zero=>
    intro v hv dI h0 hc x
    have:=(hd.snd v hv h0).nn hs
    exact absurd (this.2 (by omega)).symm dI
   |succ m ih=>
    intro v hv dI h0 hc x
    rw[hd.eD v hv dI h0]
    constructor
    ·rintro⟨p,hp,k1,k2,k3⟩
     have hpm:=hI.mem p hp
     by_cases B_:p=fr
     ·rw[if_pos B_]at k3
      subst k3;subst B_
      rw[hd.JC.2]at k2
      exact⟨k1,0,.nil hv,by omega⟩
     ·rw[if_neg B_]at k3
      have hk:=DT hs ar p v
      obtain⟨k4,n,k5,k6⟩:=(ih p hpm.1 B_ hpm.2 (by omega) x).1 k3
      exact⟨k4,n+du s ar p v,k5.snoc k1 hv,by omega⟩
    ·rintro⟨k1,n,k2,k3⟩
     have hkx:=DT hs ar fr x
     rcases k2.last with⟨rfl,rfl⟩|⟨p,j,k4,k5,k6⟩
     ·refine⟨fr,nL fr hf (by rw[hd.JC.1];have:=hf.1;omega),k1,by rw[hd.JC.2];omega,by rw[if_pos rfl]⟩
     ·have Zp:=Pa.cons hf k1 k4
      obtain⟨k7,k8⟩:=low p _ Zp
      have Pr:=k4.r
      obtain⟨_,k9⟩:=hd.rel p (nL p Pr k7) v hv k5
      have hj:=k4.nn hs
      have hk:=DT hs ar p v
      have B_:p≠fr:=by
       intro e
       rw[e,hd.JC.2]at k9
       rw[e]at k6
       omega
      refine⟨p,nL p Pr k7,k5,by omega,?_⟩
      rw[if_neg B_]
      exact(ih p Pr B_ k7 (by omega) x).2 ⟨k1,j,k4,by omega⟩
  exact aF (gt W v).cost.toNat v hv dI h0 (by omega) x
 ·obtain⟨k1,k2⟩:=low v n Ca
  have hv:=Ca.r
  have:=(hI.ok.to v (by have:=hv.1;omega) (by have:=hv.2;omega)).resolve_left k1
  exact⟨gt W v,(je _).2 ⟨v,hv,rfl,this⟩,this⟩
theorem aqy(s:List ay)(r:ay)(u4 u5 u6 u7:T)(h:s.length<=1048576)(hn:bh s):
  DA [.l (s.map aC),ii r.ae,ii r.kind,ii r.owner,ii r.key,u4,u5,u6,u7]=if bG s r<0 then some [ii 0,ii 0,ii 0,ii 0,ii 0,.l [],ii 0,bb false,bb false]else some (aC (gt s (bG s r))++[bb true]):=by
 have hk:=DN s r.ae r.kind r.owner r.key u4 u5 u6 u7 h
 rw[Oj]at hk
 have bE:bG s r<s.length:=rz _ _
 rw[WZ]
 by_cases h0:bG s r<0
 ·rw[if_pos h0]
  simp(disch:=omega) only[↓pq,↓pj,ps,pz,↓reduceIte,af,ah,ai,aj,ak,ap,aq,au,av,AJ,hk,h0]
 ·rw[if_neg h0]
  have h1:0<=bG s r:=by omega
  have oH:=hn.gt h1 bE
  simp(disch:=omega) only[↓pq,↓pj,ps,pz,↓reduceIte,af,ah,ai,aj,ak,ap,aq,au,av,AJ,hk,h0,h1,bE,Xr]
  rfl
theorem Zq{f:ay->ay}{x:ay}:∀{l s:List ay},x∈fS f s l->x∈s∨∃r∈l,x=f r
 | [],s,h=>.inl h
 |r::l,s,h=>by
  have h:x∈fS f (dx s (f r)) l:=h
  rcases Zq h with h|⟨y,hy,e⟩
  ·rcases zt h with h|h
   ·exact .inr ⟨r,.head _,h⟩
   ·exact .inl h
  ·exact .inr ⟨y,.tail _ hy,e⟩
theorem RI{α β:Type}{P:β->Prop}{g:β->α->β}:∀{l:List α} {c:β},(∀a∈l,∀c,P c->P (g c a))->P c->P (l.foldl g c)
 | [],c,_,h=>h
 |a::l,c,hg,h=>by rw[List.foldl_cons];exact RI (λb hb=>hg b (.tail _ hb)) (hg a (.head _) c h)
section
variable {x:Net} {L U:List Bool}
def RJ(x:Net)(L U:List Bool)(r:ay):Prop:=
 gt U (r.owner-1)=true∧r.seq=1∧(1<=r.owner∧r.owner<=x.n)∧(r.kind=1->r=A' x.aA L U r.owner r.ae∧r.ae∈jF x.aA r.owner)∧(r.kind=3->∃t∈x.aN,r=Iq t)∧
  (r.kind=2->yx x.aA r.owner=true)
theorem aqz(h:pC x=true):∀r∈Bc x L U,RJ x L U r:=by
 obtain⟨hn,_,_,hA,hT⟩:=wC h
 unfold Bc
 refine RI (P:=λc=>∀r∈c,RJ x L U r) (λk _ c hc=>?_) ?_
 ·unfold yA
  refine RI (P:=λc=>∀r∈c,RJ x L U r) (λi hi c hc=>?_) hc
  have hi:=List.mem_range.1 hi
  unfold Bb
  split
  ·rename_i hu
   split
   ·rename_i hb
    intro r hr
    unfold A_ at hr
    rcases Zq hr with hr|⟨y,hy,e⟩
    ·exact hc r (List.mem_filter.1 hr).1
    ·obtain⟨a,ha,hy⟩:=List.mem_flatMap.1 hy
     obtain⟨q1,q2,q3,q4,q5,q6,_⟩:=O_ hy
     have e1:r.owner=(i:Int)+1:=by rw[e];exact q3
     have e2:r.kind=2:=by rw[e];exact q2
     have e3:r.seq=1:=by rw[e];rfl
     refine⟨by rw[e1];exact hu,e3,by omega,λh=>by omega,λh=>by omega,λ_=>by rw[e1];exact hb⟩
   ·exact hc
  ·exact hc
 ·refine RI (P:=λc=>∀r∈c,RJ x L U r) (λt ht c hc=>?_) ?_
  ·unfold wy
   split
   ·rename_i hu
    intro r hr
    rcases zt hr with e|hr
    ·have:=Ir hT ht
     rw[e]
     exact⟨hu,rfl,this.1,λh=>absurd h (by show(3:Int)≠1;decide),λ_=>⟨t,ht,rfl⟩,λh=>absurd h (by show(3:Int)≠2;decide)⟩
    ·exact hc r hr
   ·exact hc
  ·refine RI (P:=λc=>∀r∈c,RJ x L U r) (λi hi c hc=>?_) (by simp)
   have hi:=List.mem_range.1 hi
   unfold Ba
   split
   ·rename_i hu
    refine RI (P:=λc=>∀r∈c,RJ x L U r) (λa ha c hc=>?_) hc
    intro r hr
    rcases zt hr with e|hr
    ·rw[e]
     exact⟨hu,rfl,by show 1<=(i:Int)+1∧(i:Int)+1<=x.n;omega,λ_=>⟨rfl,ha⟩,λh=>absurd h (by show(1:Int)≠3;decide),λh=>absurd h (by show(1:Int)≠2;decide)⟩
    ·exact hc r hr
   ·exact hc
end
theorem Zr(s:List ay)(r:ay):bG s r<s.length:=rz _ _
theorem aqA{s:List ay}(h:jk s){a b:ay}(ha:a∈s)(hb:b∈s)(hk:dZ a b=true):a=b:=by
 obtain⟨i,hi,e1⟩:=List.mem_iff_getElem.1 ha
 obtain⟨j,hj,e2⟩:=List.mem_iff_getElem.1 hb
 have hp:=List.pairwise_iff_getElem.1 h
 rw[sameKey_iff]at hk
 rcases Nat.lt_trichotomy i j with qu|qu|qu
 ·have:=hp i j hi hj qu
  rw[e1,e2]at this
  rw[rf]at this
  omega
 ·subst qu;rw[<-e1,<-e2]
 ·have:=hp j i hj hi qu
  rw[e1,e2]at this
  rw[rf]at this
  omega
theorem Iz{s:List ay}{r:ay}(h:0<=bG s r):gt s (bG s r)∈s∧dZ (gt s (bG s r)) r=true:=
 ⟨gZ h (Zr s r),tE (λx:ay=>dZ x r) s h⟩
theorem Zs{s:List ay}{r:ay}(h:bG s r<0):∀x∈s,dZ x r=false:=(EN _ _).1 h
theorem Zt{s:List ay}{r x:ay}(hx:x∈s)(hk:dZ x r=true):0<=bG s r:=A8 hx hk
theorem Ps{s:List ay}(hs:jk s){r x:ay}(hx:x∈s)(hk:dZ x r=true):gt s (bG s r)=x:=by
 obtain⟨h1,h2⟩:=Iz (Zt hx hk)
 refine aqA hs h1 hx ?_
 rw[sameKey_iff]at*
 omega
def IA(s:List ay)(r:ay):Bool:=fu r&&(if 0<=bG s r then decide ((gt s (bG s r)).seq<r.seq)else decide (s.length<150))
def sx(s:List ay)(r:ay):List ay:=if IA s r=true then dx s r else s
theorem Pu{s:List ay}(h:eA s=true):s.length<=150:=by
 unfold eA at h
 simp only[bI,decide_eq_true_eq]at h
 exact h.1
theorem aqB{s:List ay}(h1:jk s)(h2:∀r∈s,fu r=true)(h3:s.length<=150):eA s=true:=by
 unfold eA
 simp only[bI,decide_eq_true_eq]
 exact⟨h3,Ea h2 h1⟩
theorem E4{s:List ay}(h:eA s=true):bh s:=λr hr=>by
 have:=Eb (B6 h hr)
 omega
theorem Zu{α:Type}{p q:α->Bool}(hpq:∀a,p a=true->q a=false):∀{l:List α} {x:α},x∈l->p x=false->q x=false->(l.filter p).length+(l.filter q).length+1<=l.length
 |a::l,x,hx,hp,hq=>by
  have gen:∀l:List α,(l.filter p).length+(l.filter q).length<=l.length:=by
   intro l
   induction l with
   |nil=>simp
   |cons a l ih=>
    have:=hpq a
    cases h1:p a<;>cases h2:q a<;>simp_all<;>omega
  rcases List.mem_cons.1 hx with rfl|hx
  ·have:=gen l
   simp only[List.filter_cons,hp,hq,cI,if_false,List.length_cons]
   omega
  ·have ih:=Zu hpq hx hp hq
   have:=hpq a
   cases h1:p a<;>cases h2:q a<;>simp_all<;>omega
theorem aqD{s:List ay}{r:ay}(h:0<=bG s r):(dx s r).length<=s.length:=by
 obtain⟨h1,h2⟩:=Iz h
 rw[sameKey_iff]at h2
 have:=Zu (p:=λx=>ff x r) (q:=λx=>ff r x) (λa ha=>by
  rw[<-Bool.not_eq_true]
  intro hb
  rw[rf]at ha hb
  omega) h1 (by rw[<-Bool.not_eq_true,rf];omega) (by rw[<-Bool.not_eq_true,rf];omega)
 unfold dx
 simp only[List.length_append,List.length_singleton]
 omega
theorem aqE{s:List ay}(h:eA s=true){r:ay}(hr:fu r=true)(hk:0<=bG s r∨s.length<150):eA (dx s r)=true:=by
 have hl:=Pu h
 refine aqB (Jq (B4 h) r) (λx hx=>?_) ?_
 ·rcases zt hx with rfl|hx
  ·exact hr
  ·exact B6 h hx
 ·rcases hk with hk|hk
  ·have:=aqD hk;omega
  ·have:=HP s r;omega
theorem aqF{s:List ay}(h:eA s=true)(r:ay):eA (sx s r)=true:=by
 unfold sx
 split
 ·rename_i hi
  unfold IA at hi
  simp only[bI]at hi
  refine aqE h hi.1 ?_
  split at hi
  ·rename_i h0;exact .inl h0
  ·exact .inr (by simpa using hi.2)
 ·exact h
theorem ks_(s:List ay)(r:ay)(hl:s.length<=1048570)(hn:bh s)(xg:jk s)(hr:r.bf.length<=1048576):
  BG [.l (s.map aC),ii r.ae,ii r.kind,ii r.owner,ii r.key,ii r.seq,.l (r.bf.map eQ),ii r.cost,bb r.eY]=some [.l ((sx s r).map aC),bb (IA s r)]:=by
 have e2:=Xg r.ae r.kind r.owner r.key r.seq r.bf r.cost r.eY hr
 have e3:=DN s r.ae r.kind r.owner r.key (ii r.seq) (.l (r.bf.map eQ)) (ii r.cost) (bb r.eY) (by omega)
 have e4:=Om s r.ae r.kind r.owner r.key r.seq r.bf r.cost r.eY (by omega) hn hr
 rw[Oj]at e3
 have bE:=Zr s r
 rw[ala]
 unfold sx
 have hB:IA s r=(fu r&&(if 0<=bG s r then decide ((gt s (bG s r)).seq<r.seq)else decide (s.length<150))):=rfl
 cases hk:fu r with
 |false=>
  rw[show fu ⟨r.ae,r.kind,r.owner,r.key,r.seq,r.bf,r.cost,r.eY⟩=fu r from rfl,hk]at e2
  rw[hB,hk]
  simp(disch:=omega) only[↓pq,↓pj,ps,pz,↓reduceIte,af,ah,ai,aj,ak,ap,aq,au,av,M0,e2,e3,cI]
  simp
 |true=>
  rw[show fu ⟨r.ae,r.kind,r.owner,r.key,r.seq,r.bf,r.cost,r.eY⟩=fu r from rfl,hk]at e2
  by_cases h0:0<=bG s r
  ·rw[hB,hk,if_pos h0]
   have h1:bG s r>=0:=h0
   have h2:¬bG s r<0:=by omega
   by_cases hq:(gt s (bG s r)).seq<r.seq
   ·have nk:¬(gt s (bG s r)).seq>=r.seq:=by omega
    simp(disch:=omega) only[↓pq,↓pj,ps,pz,↓reduceIte,af,ah,ai,aj,ak,ap,aq,au,av,M0,e2,e3,h1,h2,bE,nk,e4]
    simp[hq]
   ·have nk:(gt s (bG s r)).seq>=r.seq:=by omega
    simp(disch:=omega) only[↓pq,↓pj,ps,pz,↓reduceIte,af,ah,ai,aj,ak,ap,aq,au,av,M0,e2,e3,h1,h2,bE,nk]
    simp[hq]
  ·rw[hB,hk,if_neg h0]
   have h1:¬bG s r>=0:=h0
   have h2:bG s r<0:=by omega
   by_cases hq:s.length<150
   ·have nk:¬(s.length:Int)>=150:=by omega
    simp(disch:=omega) only[↓pq,↓pj,ps,pz,↓reduceIte,af,ah,ai,aj,ak,ap,aq,au,av,M0,e2,e3,h1,h2,nk,e4]
    simp[hq]
   ·have nk:(s.length:Int)>=150:=by omega
    simp(disch:=omega) only[↓pq,↓pj,ps,pz,↓reduceIte,af,ah,ai,aj,ak,ap,aq,au,av,M0,e2,e3,h1,h2,nk]
    simp[hq]
theorem Pw{x:Self}(h:jY x=true){s:List ay}(hs:eA s=true):jY {x with store:=s}=true:=by
 unfold jY at*
 simp only[bI]at*
 exact⟨h.1,h.2.1,h.2.2.1,h.2.2.2.1,hs⟩
theorem Px(a b c d e:Int):Prim.ev (.lit 1 [true,true,true,true,true]) [ii a,ii b,ii c,ii d,ii e]=some (.l ([a,b,c,d,e].map aD)):=by simp[Prim.ev,sM,pF,dX,aD]
def Zv(B:List Int)(o:Option (List T)):Prop:=
 ∃(r:ay) (i' h':Int),o=some [ii r.ae,ii r.kind,ii r.owner,ii r.key,ii r.seq,.l (r.bf.map eQ),ii r.cost,bb r.eY,.l (B.map fP),ii i',ii h']∧(fu r=true∧r.seq<=5∧r.owner<=4)∧0<=i'∧i'<=B.length
theorem aqG{a o s:Int}{l:List cw}(ha:0<=a∧a<=2)(ho:1<=o∧o<=6)(hs:1<=s∧s<=100000)(hl:wm o l=true):fu ⟨a,1,o,0,s,l,0,false⟩=true:=by
 unfold fu
 simp only[bI,aZ]
 refine⟨⟨ho,hs⟩,?_⟩
 simp[aZ,ha,hl]
theorem aqH{a o k s c:Int}(ha:0<=a∧a<=2)(ho:1<=o∧o<=6)(hk:1<=k∧k<=6)(hs:1<=s∧s<=100000)(hc:0<=c∧c<=60000):fu ⟨a,2,o,k,s,[],c,false⟩=true:=by
 unfold fu
 simp only[bI,aZ]
 refine⟨⟨ho,hs⟩,?_⟩
 simp[aZ,ha,hk,hc]
theorem aqI{o k s c:Int}{f:Bool}(ho:1<=o∧o<=6)(hk:1<=k∧k<=9)(hs:1<=s∧s<=100000)(hc:(1<=c∧c<=1000)∨c=60000):fu ⟨9,3,o,k,s,[],c,f⟩=true:=by
 unfold fu
 simp only[bI,aZ]
 refine⟨⟨ho,hs⟩,?_⟩
 simp[aZ,hk,hc]
set_option maxHeartbeats 1000000 in
theorem Py{B:List Int}(hB:∀x∈B,tJ x)(hl:B.length<=1048576){i:Int}(h:Int)(hi:0<=i)(aO:i<=B.length):Zv B (ya [.l (B.map fP),ii i,ii h]):=by
 rw[ak_]
 obtain⟨k,i,h,e1,r1,hi,aO⟩:=nx hB hl h hi aO 3 (by omega) (by omega)
 obtain⟨o,i,h,e2,r2,hi,aO⟩:=nx hB hl h hi aO 4 (by omega) (by omega)
 obtain⟨a,i,h,e3,r3,hi,aO⟩:=nx hB hl h hi aO 3 (by omega) (by omega)
 obtain⟨s,i,h,e4,r4,hi,aO⟩:=nx hB hl h hi aO 5 (by omega) (by omega)
 by_cases c1:1+k=1
 ·simp(disch:=omega) only[↓pq,↓pj,ps,pz,↓reduceIte,af,ah,ai,aj,ak,ap,aq,au,av,BU,WX,e1,e2,e3,e4,c1]
  refine zy (Zv B) (λm st=>∃(v:Nat) (i h:Int) (l:List cw),st=[ii ((v:Int)+1),.l (B.map fP),ii i,ii h,.l (l.map eQ)]∧v<=6∧(0<=i∧i<=B.length)∧(l.length<=v∧(l.Pairwise λx y=>x.to<y.to)∧∀x∈l,(1<=x.to∧x.to<=v)∧x.to≠1+o∧1<=x.cost∧x.cost<=1000)∧m=6-v) ?_ 6
   [ii 1,.l (B.map fP),ii i,ii h,.l []] rounds ⟨0,i,h,[],rfl,by omega,⟨hi,aO⟩,⟨by simp,.nil,by simp⟩,rfl⟩ (by unfold rounds;omega)
  rintro m st q ⟨v,i,h,l,rfl,hv,⟨hi,aO⟩,⟨qI,tc,Pl⟩,rfl⟩ hq
  by_cases c2:(v:Int)+1<=6
  ·have same:(l.Pairwise λx y=>x.to<y.to)∧∀x∈l,(1<=x.to∧x.to<=((v+1:Nat):Int))∧x.to≠1+o∧1<=x.cost∧x.cost<=1000:=⟨tc,λx hx=>by have:=Pl x hx;omega⟩
   by_cases c3:(v:Int)+1=1+o
   ·simp(disch:=omega) only[↓pq,↓pj,ps,pz,↓reduceIte,af,ah,ai,aj,ak,ap,aq,au,av,BU,BU,c2,eq_true c3]
    exact hq (6-(v+1)) _ (by omega) ⟨v+1,i,h,l,by rw[tD],by omega,⟨hi,aO⟩,⟨by omega,same⟩,rfl⟩
   ·obtain⟨f,i,h,e5,hi,aO⟩:=Bh hB hl h hi aO 3 (by omega) (by omega)
    cases f with
    |false=>
     simp(disch:=omega) only[↓pq,↓pj,ps,pz,↓reduceIte,af,ah,ai,aj,ak,ap,aq,au,av,BU,BU,c2,c3,e5,cI]
     exact hq (6-(v+1)) _ (by omega) ⟨v+1,i,h,l,by rw[tD],by omega,⟨hi,aO⟩,⟨by omega,same⟩,rfl⟩
    |true=>
     obtain⟨c,i,h,e6,r6,hi,aO⟩:=nx hB hl h hi aO 4 (by omega) (by omega)
     have Pz:Prim.ev (.lit 2 [true,true]) [ii ((v:Int)+1),ii (1+c)]=some (.l ([(⟨(v:Int)+1,1+c⟩:cw)].map eQ)):=by simp[Prim.ev,sM,pF,dX,eQ]
     have PA:Prim.ev (.app true 2) [.l (l.map eQ),.l ([(⟨(v:Int)+1,1+c⟩:cw)].map eQ)]=some (.l ((l++[(⟨(v:Int)+1,1+c⟩:cw)]).map eQ)):=LK (l:=l) (by omega)
     simp(disch:=omega) only[↓pq,↓pj,ps,pz,↓reduceIte,af,ah,ai,aj,ak,ap,aq,au,av,BU,BU,c2,c3,e5,e6,Pz,PA]
     refine hq (6-(v+1)) _ (by omega) ⟨v+1,i,h,l++[⟨(v:Int)+1,1+c⟩],by rw[tD],by omega,⟨hi,aO⟩,⟨by simp;omega,?_,?_⟩,rfl⟩
     ·rw[List.pairwise_append]
      refine⟨tc,List.pairwise_singleton _ _,λx hx y hy=>?_⟩
      rw[List.mem_singleton]at hy
      rw[hy]
      have:=Pl x hx
      show x.to<(v:Int)+1
      omega
     ·intro x hx
      rcases List.mem_append.1 hx with hx|hx
      ·have:=Pl x hx;omega
      ·rw[List.mem_singleton]at hx
       rw[hx]
       exact⟨⟨by show 1<=(v:Int)+1;omega,by show(v:Int)+1<=_;omega⟩,c3,by show 1<=1+c;omega,by show 1+c<=1000;omega⟩
  ·simp(disch:=omega) only[↓pq,↓pj,ps,pz,↓reduceIte,af,ah,ai,aj,ak,ap,aq,au,av,BU,BU,c2]
   refine⟨⟨a,1,1+o,0,1+s,l,0,false⟩,i,h,rfl,⟨aqG (by omega) (by omega) (by omega) (O7 (λx hx=>?_) tc),by show 1+s<=5;omega,by show 1+o<=4;omega⟩,hi,aO⟩
   have:=Pl x hx
   omega
 ·by_cases c2:1+k=2
  ·obtain⟨y,i,h,e5,r5,hi,aO⟩:=nx hB hl h hi aO 5 (by omega) (by omega)
   obtain⟨c,i,h,e6,r6,hi,aO⟩:=Bi hB hl h hi aO [0,1,2,5,60000] (by simp) (by simp)
   have r6:0<=c∧c<=60000:=by simp at r6;omega
   simp(disch:=omega) only[↓pq,↓pj,ps,pz,↓reduceIte,af,ah,ai,aj,ak,ap,aq,au,av,BU,WX,e1,e2,e3,e4,c2,e5,Px,e6]
   exact⟨⟨a,2,1+o,1+y,1+s,[],c,false⟩,i,h,rfl,⟨aqH (by omega) (by omega) (by omega) (by omega) r6,by show 1+s<=5;omega,by show 1+o<=4;omega⟩,hi,aO⟩
  ·have c3:1+k=3:=by omega
   obtain⟨y,i,h,e5,r5,hi,aO⟩:=nx hB hl h hi aO 3 (by omega) (by omega)
   obtain⟨c,i,h,e6,r6,hi,aO⟩:=Bi hB hl h hi aO [1,2,5,60000] (by simp) (by simp)
   obtain⟨f,i,h,e7,hi,aO⟩:=Bh hB hl h hi aO 2 (by omega) (by omega)
   have r6:(1<=c∧c<=1000)∨c=60000:=by simp at r6;omega
   simp(disch:=omega) only[↓pq,↓pj,ps,pz,↓reduceIte,af,ah,ai,aj,ak,ap,aq,au,av,BU,WX,e1,e2,e3,e4,c3,e5,xh,e6,e7]
   exact⟨⟨9,3,1+o,1+y,1+s,[],c,f⟩,i,h,rfl,⟨aqI (by omega) (by omega) (by omega) r6,by show 1+s<=5;omega,by show 1+o<=4;omega⟩,hi,aO⟩
def ny(n:Nat)(s:List ay):Prop:=eA s=true∧s.length<=n∧(∀r∈s,r.seq<=5)∧(s.filter rE).length+(if n<100 then 0 else 119)<=n
theorem ny.ins{n:Nat}{s:List ay}(h:ny n s){r:ay}(hr:r.seq<=5)(hn:n≠99):ny (n+1) (sx s r):=by
 refine⟨aqF h.1 r,?_,λx hx=>?_,?_⟩
 ·have:=h.2.1
  unfold sx
  split
  ·have:=HP s r;omega
  ·omega
 ·unfold sx at hx
  split at hx
  ·rcases zt hx with rfl|hx
   ·exact hr
   ·exact h.2.2.1 x hx
  ·exact h.2.2.1 x hx
 ·have h3:=h.2.2.2
  have h4:=YA s r rE
  have:((sx s r).filter rE).length<=(s.filter rE).length+1:=by
   unfold sx
   split
   ·split at h4<;>omega
   ·omega
  split at h3<;>split<;>omega
theorem ny.nil:ny 0 []:=⟨rfl,by simp,by simp,by simp⟩
theorem ny.mono{n m:Nat}{s:List ay}(h:ny n s)(hm:n<=m)(hk:n+119<=m∨100<=n∨m<100):ny m s:=by
 refine⟨h.1,Nat.le_trans h.2.1 hm,h.2.2.1,?_⟩
 have h3:=h.2.2.2
 have h4:(s.filter rE).length<=n:=Nat.le_trans (List.length_filter_le _ _) h.2.1
 split at h3<;>split<;>omega
theorem PB{B:List Int}(hB:∀x∈B,tJ x)(hl:B.length<=1048576){i:Int}(h:Int)(hi:0<=i)(aO:i<=B.length):
  ∃(s:List ay) (i' h':Int),zd [.l (B.map fP),ii i,ii h]=some [.l (s.map aC),.l (B.map fP),ii i',ii h']∧ny 11 s∧0<=i'∧i'<=B.length:=by
 rw[alc];simp(disch:=omega) only[↓pq,↓pj,ps,pz,↓reduceIte,af,ah,ai,aj,ak,ap,aq,au,av,jr_,M1]
 refine zy (λo=>∃(s:List ay) (i' h':Int),o=some [.l (s.map aC),.l (B.map fP),ii i',ii h']∧ny 11 s∧0<=i'∧i'<=B.length)
  (λm st=>∃(k:Nat) (i h:Int) (s:List ay),st=[.l (s.map aC),ii k,.l (B.map fP),ii i,ii h]∧k<=11∧(0<=i∧i<=B.length)∧ny k s∧m=11-k) ?_ 11 [.l [],ii 0,.l (B.map fP),ii i,ii h] rounds ⟨0,i,h,[],rfl,by omega,⟨hi,aO⟩,ny.nil,rfl⟩ (by unfold rounds;omega)
 rintro m st q ⟨k,i,h,s,rfl,hk,⟨hi,aO⟩,hs,rfl⟩ hq
 obtain⟨d,i,h,e1,r1,hi,aO⟩:=nx hB hl h hi aO 12 (by omega) (by omega)
 by_cases c1:(k:Int)<d
 ·obtain⟨r,i,h,e2,⟨r2,r3,_⟩,hi,aO⟩:=Py hB hl h hi aO
  have wW:=hs.2.1
  have e3:=ks_ s r (by omega) (E4 hs.1) (B4 hs.1) (by have:=Eb r2;omega)
  simp(disch:=omega) only[↓pq,↓pj,ps,pz,↓reduceIte,af,ah,ai,aj,ak,ap,aq,au,av,jr_,e1,c1,e2,e3]
  exact hq (11-(k+1)) _ (by omega) ⟨k+1,i,h,sx s r,by rw[tD],by omega,⟨hi,aO⟩,hs.ins r3 (by omega),rfl⟩
 ·simp(disch:=omega) only[↓pq,↓pj,ps,pz,↓reduceIte,af,ah,ai,aj,ak,ap,aq,au,av,jr_,e1,c1]
  exact⟨s,i,h,rfl,hs.mono hk (.inr (.inr (by decide))),hi,aO⟩
def rk(P:List (Int×Int)):List Int:=P.flatMap λp=>[p.1,p.2]
theorem IB(P:List (Int×Int)):(rk P).length=2*P.length:=by
 induction P with
 |nil=>rfl
 |cons p P ih=>show(p.1::p.2::rk P).length=_;simp[ih];omega
theorem Zw:∀(P:List (Int×Int)) (k:Nat) (h:k<P.length),(rk P)[2*k]?=some P[k].1∧(rk P)[2*k+1]?=some P[k].2
 |p::P,0,_=>⟨rfl,rfl⟩
 |p::P,k+1,h=>by
  have ih:=Zw P k (by simpa using h)
  show(p.1::p.2::rk P)[2*(k+1)]?=_∧(p.1::p.2::rk P)[2*(k+1)+1]?=_
  rw[show 2*(k+1)=2*k+1+1 by omega]
  simpa using ih
def Bj(p q:Int×Int):Prop:=p.1<q.1∨p.1=q.1∧p.2<q.2
theorem Zx{ok:Int->Int->Bool}{P:List (Int×Int)}(h1:P.Pairwise Bj)(h2:∀p∈P,ok p.1 p.2=true):zr ok (rk P)=true:=by
 unfold zr
 rw[ca,IB]
 intro k hk
 have nc:k<P.length:=by omega
 have g:∀k:Nat,(h:k<P.length)->gt (rk P) (2*(k:Int))=P[k].1∧gt (rk P) (2*(k:Int)+1)=P[k].2:=by
  intro k h
  have:=Zw P k h
  rw[show(2*(k:Int))=((2*k:Nat):Int) by omega,show(((2*k:Nat):Int)+1)=((2*k+1:Nat):Int) by omega]
  exact⟨LJ this.1,LJ this.2⟩
 obtain⟨g1,g2⟩:=g k nc
 rw[g1,g2]
 simp only[bI,Bool.or_eq_true,Bool.not_eq_true',decide_eq_false_iff_not,decide_eq_true_eq]
 refine⟨h2 _ (List.getElem_mem nc),?_⟩
 rcases Nat.eq_zero_or_pos k with h0|h0
 ·exact .inl (by omega)
 ·right
  obtain⟨g3,g4⟩:=g (k-1) (by omega)
  have e:2*((k-1:Nat):Int)=2*(k:Int)-2:=by omega
  rw[e]at g3
  rw[show 2*((k-1:Nat):Int)+1=2*(k:Int)-1 by omega]at g4
  rw[g3,g4]
  exact List.pairwise_iff_getElem.1 h1 (k-1) k (by omega) nc (by omega)
def s9(B:List Int)(o:Option (List T)):Prop:=
 ∃(x:Self) (i' h':Int),o=some [ii x.id,ii x.aV,ii x.net.n,.l (x.net.aA.map dm),.l (x.net.aN.map dM),.l (x.heard.map aD),.l (x.store.map aC),.l (B.map fP),ii i',ii h']∧(jY x=true∧x.aV<=1∧ny 132 x.store∧x.net.aN.length<=2∧2<=x.net.n)∧0<=i'∧i'<=B.length
section
variable {B:List Int} (hB:∀x∈B,tJ x) (hl:B.length<=1048576) {x:Net} (hx:pC x=true∧2<=x.n∧x.aN.length<=2) {id aV:Int} (hid:1<=id∧id<=x.n) (jf:0<=aV∧aV<=1)
 {P:List (Int×Int)} (Bk:P.Pairwise Bj) (wI:∀p∈P,decide (0<=dz (eh id p.1 p.2) x.aA)=true)
include hB hl hx hid jf Bk wI
theorem Zy{s:List ay}(hs:ny 130 s){i:Int}(h:Int)(hi:0<=i)(aO:i<=B.length):
  s9 B (iter (vh ku ya BG (ii x.n) (.l (x.aA.map dm)) (.l (x.aN.map dM)) (ii aV) (ii id) (.l ((rk P).map aD))) rounds [ii 0,.l (s.map aC),.l (B.map fP),ii i,ii h]):=by
 refine zy (s9 B) (λm st=>∃(k:Nat) (i h:Int) (s:List ay),st=[ii k,.l (s.map aC),.l (B.map fP),ii i,ii h]∧k<=2∧(0<=i∧i<=B.length)∧ny (130+k) s∧m=2-k) ?_ 2 _ rounds ⟨0,i,h,s,rfl,by omega,⟨hi,aO⟩,hs,rfl⟩ (by unfold rounds;omega)
 rintro m st q ⟨k,i,h,s,rfl,hk,⟨hi,aO⟩,hs,rfl⟩ hq
 obtain⟨d,i,h,e1,r1,hi,aO⟩:=nx hB hl h hi aO 3 (by omega) (by omega)
 by_cases c1:(k:Int)<d
 ·obtain⟨r,i,h,e2,⟨r2,r3,_⟩,hi,aO⟩:=Py hB hl h hi aO
  have wW:=hs.2.1
  have e3:=ks_ s r (by omega) (E4 hs.1) (B4 hs.1) (by have:=Eb r2;omega)
  simp(disch:=omega) only[↓pq,↓pj,ps,pz,↓reduceIte,af,ah,ai,aj,ak,ap,aq,au,av,vh,uC,vi,uD,wh,vh,e1,c1,e2,e3]
  exact hq (2-(k+1)) _ (by omega) ⟨k+1,i,h,sx s r,by rw[tD],by omega,⟨hi,aO⟩,hs.ins r3 (by omega),rfl⟩
 ·simp(disch:=omega) only[↓pq,↓pj,ps,pz,↓reduceIte,af,ah,ai,aj,ak,ap,aq,au,av,vh,uC,vi,uD,wh,vh,e1,c1]
  refine⟨⟨id,aV,x,rk P,s⟩,i,h,rfl,⟨?_,jf.2,hs.mono (by omega) (by omega),hx.2.2,hx.2.1⟩,hi,aO⟩
  have hp:=Zx (ok:=λv a=>decide (0<=dz (eh id v a) x.aA)) Bk wI
  unfold jY
  simp only[bI,aZ,decide_eq_true_eq]
  exact⟨hx.1,hid,by omega,⟨by rw[IB];omega,hp⟩,hs.1⟩
theorem aqJ{L:List Bool}(hL:L.length=x.aA.length){i:Int}(h:Int)(hi:0<=i)(aO:i<=B.length):
  s9 B (iter (uC rounds Jd ku r7 ya BG zd (ii x.n) (.l (x.aA.map dm)) (.l (x.aN.map dM)) (ii aV) (ii id) (.l ((rk P).map aD)) (.l (L.map iF))) rounds [ii 0,.l (B.map fP),ii i,ii h,.l ((List.replicate x.n.toNat false).map iF)]):=by
 have hn:=Pq hx.1
 have CO:=(X5 hx.1).2
 refine zy (s9 B) (λm st=>∃(k:Nat) (i h:Int) (U:List Bool),st=[ii k,.l (B.map fP),ii i,ii h,.l (U.map iF)]∧(k:Int)<=x.n∧(0<=i∧i<=B.length)∧(U.length:Int)=x.n∧m=x.n.toNat-k) ?_ x.n.toNat _ rounds ⟨0,i,h,_,rfl,by omega,⟨hi,aO⟩,by simp;omega,rfl⟩ (by unfold rounds;omega)
 rintro m st q ⟨k,i,h,U,rfl,hk,⟨hi,aO⟩,hU,rfl⟩ hq
 by_cases c1:(k:Int)<U.length
 ·obtain⟨f,i,h,e1,hi,aO⟩:=Bh hB hl h hi aO 8 (by omega) (by omega)
  have e2:=Ot (l:=U) (n:=(k:Int)) (x:=!f) (by omega) c1
  simp(disch:=omega) only[↓pq,↓pj,ps,pz,↓reduceIte,af,ah,ai,aj,ak,ap,aq,au,av,vh,uC,vi,uD,wh,uC,c1,e1,e2]
  exact hq (x.n.toNat-(k+1)) _ (by omega) ⟨k+1,i,h,_,by rw[tD],by omega,⟨hi,aO⟩,by simpa using hU,rfl⟩
 ·have sO:yB x L U=true:=by unfold yB;simp[hx.1,hL,hU]
  have eI:=apt x.n x.aA x.aN L U (by omega) (by have:=hx.2.2;omega)
  rw[show(⟨x.n,x.aA,x.aN⟩:Net)=x from rfl,if_pos sO]at eI
  have hS:=apq (L:=L) (U:=U) hx.1
  have hR:=aqz (L:=L) (U:=U) hx.1
  have hI:ny 130 (Bc x L U):=⟨hS.ok (by decide),hS.len,λr hr=>by have:=(hR r hr).2.1;omega,by have:=hS.2.2;rw[if_neg (by decide)];omega⟩
  obtain⟨f,i,h,e1,hi,aO⟩:=Bh hB hl h hi aO 3 (by omega) (by omega)
  cases f with
  |false=>
   simp(disch:=omega) only[↓pq,↓pj,ps,pz,↓reduceIte,af,ah,ai,aj,ak,ap,aq,au,av,vh,uC,vi,uD,wh,uC,c1,eI,e1,cI]
   exact Zy hB hl hx hid jf Bk wI hI h hi aO
  |true=>
   obtain⟨s,i,h,e2,hs,hi,aO⟩:=PB hB hl h hi aO
   simp(disch:=omega) only[↓pq,↓pj,ps,pz,↓reduceIte,af,ah,ai,aj,ak,ap,aq,au,av,vh,uC,vi,uD,wh,uC,c1,eI,e1,e2]
   exact Zy hB hl hx hid jf Bk wI (hs.mono (by omega) (by omega)) h hi aO
theorem aqK{i:Int}(h:Int)(hi:0<=i)(aO:i<=B.length):
  s9 B (iter (vi rounds Jd ku r7 ya BG zd (ii x.n) (.l (x.aA.map dm)) (.l (x.aN.map dM)) (ii aV) (ii id) (.l ((rk P).map aD)) (.l ((List.replicate x.n.toNat false).map iF))) rounds [ii 0,.l (B.map fP),ii i,ii h,.l ((List.replicate x.aA.length false).map iF)]):=by
 have hn:=Pq hx.1
 have CO:=(X5 hx.1).2
 refine zy (s9 B) (λm st=>∃(k:Nat) (i h:Int) (L:List Bool),st=[ii k,.l (B.map fP),ii i,ii h,.l (L.map iF)]∧k<=x.aA.length∧(0<=i∧i<=B.length)∧L.length=x.aA.length∧m=x.aA.length-k) ?_ x.aA.length _ rounds ⟨0,i,h,_,rfl,by omega,⟨hi,aO⟩,by simp,rfl⟩ (by unfold rounds;omega)
 rintro m st q ⟨k,i,h,L,rfl,hk,⟨hi,aO⟩,hL,rfl⟩ hq
 by_cases c1:(k:Int)<L.length
 ·obtain⟨f,i,h,e1,hi,aO⟩:=Bh hB hl h hi aO 6 (by omega) (by omega)
  have e2:=Ot (l:=L) (n:=(k:Int)) (x:=!f) (by omega) c1
  simp(disch:=omega) only[↓pq,↓pj,ps,pz,↓reduceIte,af,ah,ai,aj,ak,ap,aq,au,av,vh,uC,vi,uD,wh,vi,c1,e1,e2]
  exact hq (x.aA.length-(k+1)) _ (by omega) ⟨k+1,i,h,_,by rw[tD],by omega,⟨hi,aO⟩,by simpa using hL,rfl⟩
 ·simp(disch:=omega) only[↓pq,↓pj,ps,pz,↓reduceIte,af,ah,ai,aj,ak,ap,aq,au,av,vh,uC,vi,uD,wh,vi,c1]
  exact aqJ hB hl hx hid jf Bk wI hL h hi aO
end
theorem aqL{B:List Int}(hB:∀x∈B,tJ x)(hl:B.length<=1048576){i:Int}(h:Int)(hi:0<=i)(aO:i<=B.length):s9 B (QP [.l (B.map fP),ii i,ii h]):=by
 rw[ale]
 obtain⟨x,i,h,e1,hx,hi,aO⟩:=aqs hB hl h hi aO
 have hn:=Pq hx.1
 have CO:=X5 hx.1
 obtain⟨aV,i,h,e2,jf,hi,aO⟩:=nx hB hl h hi aO 2 (by omega) (by omega)
 obtain⟨d,i,h,e3,hd,hi,aO⟩:=nx hB hl h hi aO x.n (by omega) (by omega)
 obtain⟨id,aqM⟩:∃id,id=1+d:=⟨_,rfl⟩
 have hid:1<=id∧id<=x.n:=by omega
 simp(disch:=omega) only[↓pq,↓pj,ps,pz,↓reduceIte,af,ah,ai,aj,ak,ap,aq,au,av,vh,uC,vi,uD,wh,M2,e1,e2,e3,<-aqM]
 refine zy (s9 B) (λm st=>∃(v:Nat) (i h:Int) (P:List (Int×Int)),st=[ii ((v:Int)+1),.l (B.map fP),ii i,ii h,.l ((rk P).map aD)]∧(v:Int)<=x.n∧(0<=i∧i<=B.length)∧(P.length<=3*v∧P.Pairwise Bj∧(∀p∈P,decide (0<=dz (eh id p.1 p.2) x.aA)=true)∧∀p∈P,p.1<=v)∧m=x.n.toNat-v)
  ?_ x.n.toNat [ii 1,.l (B.map fP),ii i,ii h,.l []] rounds ⟨0,i,h,[],rfl,by omega,⟨hi,aO⟩,⟨by simp,.nil,by simp,by simp⟩,rfl⟩ (by unfold rounds;omega)
 rintro m st q ⟨v,i,h,P,rfl,hv,⟨hi,aO⟩,⟨hP0,Bk,wI,PC⟩,rfl⟩ hq
 by_cases c1:(v:Int)+1<=x.n
 ·simp(disch:=omega) only[↓pq,↓pj,ps,pz,↓reduceIte,af,ah,ai,aj,ak,ap,aq,au,av,vh,uC,vi,uD,wh,wh,c1]
  refine zy (s9 B) (λm st=>∃(a:Nat) (i h:Int) (P:List (Int×Int)),st=[ii a,.l (B.map fP),ii i,ii h,.l ((rk P).map aD)]∧a<=3∧(0<=i∧i<=B.length)∧(P.length<=3*v+a∧P.Pairwise Bj∧(∀p∈P,decide (0<=dz (eh id p.1 p.2) x.aA)=true)∧∀p∈P,p.1<=v∨p.1=(v:Int)+1∧p.2<a)∧m=3-a)
   ?_ 3 [ii 0,.l (B.map fP),ii i,ii h,.l ((rk P).map aD)] rounds ⟨0,i,h,P,rfl,by omega,⟨hi,aO⟩,⟨by omega,Bk,wI,λp hp=>.inl (PC p hp)⟩,rfl⟩ (by unfold rounds;omega)
  clear hP0 Bk wI PC
  rintro m st q' ⟨a,i,h,P,rfl,ha,⟨hi,aO⟩,⟨hP0,Bk,wI,PC⟩,rfl⟩ nk
  have e4:=N_ (ii x.n) (.l (x.aN.map dM)) x.aA id ((v:Int)+1) a (by omega)
  by_cases c2:(a:Int)<=2
  ·have bp:∀i h:Int,(0<=i∧i<=B.length)->s9 B (q' [ii (a+1),.l (B.map fP),ii i,ii h,.l ((rk P).map aD)]):=λi h hi=>nk (3-(a+1)) _ (by omega) ⟨a+1,i,h,P,by rw[tD],by omega,hi,⟨by omega,Bk,wI,λp hp=>by have:=PC p hp;omega⟩,rfl⟩
   by_cases c3:lT x.aA id ((v:Int)+1) a>0
   ·obtain⟨f,i,h,e5,hi,aO⟩:=Bh hB hl h hi aO 4 (by omega) (by omega)
    cases f with
    |true=>
     simp(disch:=omega) only[↓pq,↓pj,ps,pz,↓reduceIte,af,ah,ai,aj,ak,ap,aq,au,av,vh,uC,vi,uD,wh,uD,c2,e4,c3,e5,Bool.not_true,cI]
     exact bp i h ⟨hi,aO⟩
    |false=>
     have wU:=IB P
     have e6:=Wf (l:=rk P) (x:=(v:Int)+1) (y:=(a:Int)) (by omega)
     have ez:0<=dz (eh id ((v:Int)+1) a) x.aA:=by
      have:=Xf CO.1 id ((v:Int)+1) a
      rcases Int.lt_or_le (dz (eh id ((v:Int)+1) a) x.aA) 0 with h0|h0
      ·have:=this.2 h0;omega
      ·exact h0
     simp(disch:=omega) only[↓pq,↓pj,ps,pz,↓reduceIte,af,ah,ai,aj,ak,ap,aq,au,av,vh,uC,vi,uD,wh,uD,c2,e4,c3,e5,Bool.not_false,e6]
     refine nk (3-(a+1)) _ (by omega) ⟨a+1,i,h,P++[((v:Int)+1,(a:Int))],?_,by omega,⟨hi,aO⟩,⟨by simp;omega,?_,?_,?_⟩,rfl⟩
     ·rw[tD,show rk (P++[((v:Int)+1,(a:Int))])=rk P++[(v:Int)+1,(a:Int)] by simp[rk]]
     ·rw[List.pairwise_append]
      refine⟨Bk,List.pairwise_singleton _ _,λp hp p' sG=>?_⟩
      rw[List.mem_singleton]at sG
      rw[sG]
      have:=PC p hp
      show p.1<(v:Int)+1∨p.1=(v:Int)+1∧p.2<(a:Int)
      omega
     ·intro p hp
      rcases List.mem_append.1 hp with hp|hp
      ·exact wI p hp
      ·rw[List.mem_singleton.1 hp];simpa using ez
     ·intro p hp
      rcases List.mem_append.1 hp with hp|hp
      ·have:=PC p hp;omega
      ·rw[List.mem_singleton.1 hp];exact .inr ⟨rfl,by show(a:Int)<((a+1:Nat):Int);omega⟩
   ·simp(disch:=omega) only[↓pq,↓pj,ps,pz,↓reduceIte,af,ah,ai,aj,ak,ap,aq,au,av,vh,uC,vi,uD,wh,uD,c2,e4,c3]
    exact bp i h ⟨hi,aO⟩
  ·simp(disch:=omega) only[↓pq,↓pj,ps,pz,↓reduceIte,af,ah,ai,aj,ak,ap,aq,au,av,vh,uC,vi,uD,wh,uD,c2]
   exact hq (x.n.toNat-(v+1)) _ (by omega) ⟨v+1,i,h,P,by rw[tD],by omega,⟨hi,aO⟩,⟨by omega,Bk,wI,λp hp=>by have:=PC p hp;omega⟩,rfl⟩
 ·have m1:=yl (enc:=iF) (n:=x.aA.length) (x:=false) (vs:=[bb false]) (by omega) rfl
  have m2:=yl (enc:=iF) (n:=x.n.toNat) (x:=false) (vs:=[bb false]) (by omega) rfl
  rw[show((x.n.toNat:Nat):Int)=x.n by omega]at m2
  simp(disch:=omega) only[↓pq,↓pj,ps,pz,↓reduceIte,af,ah,ai,aj,ak,ap,aq,au,av,vh,uC,vi,uD,wh,wh,c1,m1,m2]
  exact aqK hB hl hx hid (by omega) Bk wI h hi aO
theorem aqN(a b c:Int):Prim.ev (.lit 1 [true,true,true]) [ii a,ii b,ii c]=some (.l ([a,b,c].map aD)):=by simp[Prim.ev,sM,pF,dX,aD]
theorem Zz(a b c d e f:Int):Prim.ev (.lit 1 [true,true,true,true,true,true]) [ii a,ii b,ii c,ii d,ii e,ii f]=some (.l ([a,b,c,d,e,f].map aD)):=by simp[Prim.ev,sM,pF,dX,aD]
def aqO(B:List Int)(o:Option (List T)):Prop:=
 ∃(r:ay) (i' h':Int),o=some [ii r.ae,ii r.kind,ii r.owner,ii r.key,ii r.seq,.l (r.bf.map eQ),ii r.cost,bb r.eY,.l (B.map fP),ii i',ii h']∧r.bf.length<=7∧0<=i'∧i'<=B.length
set_option maxHeartbeats 1000000 in
theorem aqP{B:List Int}(hB:∀x∈B,tJ x)(hl:B.length<=1048576){i:Int}(h:Int)(hi:0<=i)(aO:i<=B.length):aqO B (Q5 [.l (B.map fP),ii i,ii h]):=by
 rw[alO]
 obtain⟨r,i,h,e1,⟨hr,_,_⟩,hi,aO⟩:=Py hB hl h hi aO
 have hn:=Eb hr
 obtain⟨k,i,h,e2,hk,hi,aO⟩:=nx hB hl h hi aO 30 (by omega) (by omega)
 by_cases c0:k=0
 ·obtain⟨c,i,h,e3,_,hi,aO⟩:=Bi hB hl h hi aO [-1,3,9,0] (by simp) (by simp)
  simp(disch:=omega) only[↓pq,↓pj,ps,pz,↓reduceIte,af,ah,ai,aj,ak,ap,aq,au,av,DH,e1,e2,c0,xh,e3]
  exact⟨{r with ae:=c},i,h,rfl,(by show r.bf.length<=7;omega),hi,aO⟩
 by_cases c1:k=1
 ·obtain⟨c,i,h,e3,_,hi,aO⟩:=Bi hB hl h hi aO [0,1,2,3,4] (by simp) (by simp)
  simp(disch:=omega) only[↓pq,↓pj,ps,pz,↓reduceIte,af,ah,ai,aj,ak,ap,aq,au,av,DH,e1,e2,c1,Px,e3]
  exact⟨{r with kind:=c},i,h,rfl,(by show r.bf.length<=7;omega),hi,aO⟩
 by_cases c2:k=2
 ·obtain⟨c,i,h,e3,_,hi,aO⟩:=Bi hB hl h hi aO [0,6,7] (by simp) (by simp)
  simp(disch:=omega) only[↓pq,↓pj,ps,pz,↓reduceIte,af,ah,ai,aj,ak,ap,aq,au,av,DH,e1,e2,c2,aqN,e3]
  exact⟨{r with owner:=c},i,h,rfl,(by show r.bf.length<=7;omega),hi,aO⟩
 by_cases c3:k=3
 ·obtain⟨c,i,h,e3,_,hi,aO⟩:=Bi hB hl h hi aO [-1,0,6,7,9,10] (by simp) (by simp)
  simp(disch:=omega) only[↓pq,↓pj,ps,pz,↓reduceIte,af,ah,ai,aj,ak,ap,aq,au,av,DH,e1,e2,c3,Zz,e3]
  exact⟨{r with key:=c},i,h,rfl,(by show r.bf.length<=7;omega),hi,aO⟩
 by_cases c4:k=4
 ·obtain⟨c,i,h,e3,_,hi,aO⟩:=Bi hB hl h hi aO [0,-1,100000,100001] (by simp) (by simp)
  simp(disch:=omega) only[↓pq,↓pj,ps,pz,↓reduceIte,af,ah,ai,aj,ak,ap,aq,au,av,DH,e1,e2,c4,xh,e3]
  exact⟨{r with seq:=c},i,h,rfl,(by show r.bf.length<=7;omega),hi,aO⟩
 by_cases c5:k=5
 ·obtain⟨d,i,h,e3,_,hi,aO⟩:=nx hB hl h hi aO 8 (by omega) (by omega)
  obtain⟨c,i,h,e4,_,hi,aO⟩:=Bi hB hl h hi aO [0,1,1000,1001] (by simp) (by simp)
  have Pz:Prim.ev (.lit 2 [true,true]) [ii d,ii c]=some (.l ([(⟨d,c⟩:cw)].map eQ)):=by simp[Prim.ev,sM,pF,dX,eQ]
  have PA:Prim.ev (.app true 2) [.l (r.bf.map eQ),.l ([(⟨d,c⟩:cw)].map eQ)]=some (.l ((r.bf++[(⟨d,c⟩:cw)]).map eQ)):=LK (l:=r.bf) (by omega)
  simp(disch:=omega) only[↓pq,↓pj,ps,pz,↓reduceIte,af,ah,ai,aj,ak,ap,aq,au,av,DH,e1,e2,c5,e3,xh,e4,Pz,PA]
  exact⟨{r with bf:=r.bf++[⟨d,c⟩]},i,h,rfl,by simp;omega,hi,aO⟩
 by_cases c6:k=6
 ·obtain⟨c,i,h,e3,_,hi,aO⟩:=Bi hB hl h hi aO [-1,0,1000,1001,60000,60001] (by simp) (by simp)
  simp(disch:=omega) only[↓pq,↓pj,ps,pz,↓reduceIte,af,ah,ai,aj,ak,ap,aq,au,av,DH,e1,e2,c6,Zz,e3]
  exact⟨{r with cost:=c},i,h,rfl,(by show r.bf.length<=7;omega),hi,aO⟩
 by_cases c7:k=7
 ·simp(disch:=omega) only[↓pq,↓pj,ps,pz,↓reduceIte,af,ah,ai,aj,ak,ap,aq,au,av,DH,e1,e2,c7]
  exact⟨{r with eY:=!r.eY},i,h,rfl,(by show r.bf.length<=7;omega),hi,aO⟩
 ·simp(disch:=omega) only[↓pq,↓pj,ps,pz,↓reduceIte,af,ah,ai,aj,ak,ap,aq,au,av,DH,e1,e2,c0,c1,c2,c3,c4,c5,c6,c7]
  exact⟨r,i,h,rfl,by omega,hi,aO⟩
def Cb(r:ay):ay:=⟨r.ae,r.kind,r.owner,r.key,r.seq,[],if r.kind=3 then 1 else 0,false⟩
theorem aqQ(a k o y s:Int)(t5 t6 t7:T):Q0 [ii a,ii k,ii o,ii y,ii s,t5,t6,t7]=some [ii a,ii k,ii o,ii y,ii s,.l [],ii (if k=3 then 1 else 0),bb false]:=by
 rw[alG]
 by_cases h:k=3
 ·subst h;simp(disch:=omega) only[↓pq,↓pj,ps,pz,↓reduceIte,af,ah,ai,aj,ak,ap,aq,au,av,Ht]
 ·simp(disch:=omega) only[↓pq,↓pj,ps,pz,↓reduceIte,af,ah,ai,aj,ak,ap,aq,au,av,Ht,h]
def xi(l:List ay)(i:Nat):List ay:=(l.take i).map Cb++l.drop i
theorem PD(l:List ay)(i:Nat):(xi l i).length=l.length:=by unfold xi;simp;omega
theorem aqR{l:List ay}{i:Nat}(h:i<l.length):gt (xi l i) (i:Int)=gt l (i:Int):=by
 rw[ed (l:=xi l i) (by rw[PD];exact h),ed h]
 unfold xi
 rw[List.getElem_append_right (by rw[List.length_map,List.length_take];omega)]
 simp[Nat.min_eq_left (Nat.le_of_lt h)]
theorem aqS{l:List ay}{i:Nat}(h:i<l.length):(xi l i).set i (Cb (gt l (i:Int)))=xi l (i+1):=by
 have hl:((l.take i).map Cb).length=i:=by rw[List.length_map,List.length_take];omega
 unfold xi
 rw[ed h,List.set_append_right _ _ (by omega),hl,Nat.sub_self,List.drop_eq_getElem_cons h,List.set_cons_zero,List.take_add_one,List.getElem?_eq_getElem h]
 simp only[Option.toList,List.map_append,List.map_cons,List.map_nil,List.append_assoc,List.cons_append,List.nil_append]
theorem PE(s:List ay)(ar:Int)(h:s.length<=1048576)(hn:bh s):GS [.l (s.map aC),ii ar]=some [.l (((scope s ar).map Cb).map aC)]:=by
 have hl:(scope s ar).length<=s.length:=List.length_filter_le _ _
 rw[alI];simp(disch:=omega) only[↓pq,↓pj,ps,pz,↓reduceIte,af,ah,ai,aj,ak,ap,aq,au,av,j3_,Nb,HM s ar h hn]
 generalize scope s ar=l at hl
 refine AO (λi=>[ii (i:Int),.l ((xi l i).map aC)]) l.length rfl (dh (by omega)) ?_ ?_
 ·intro i hi q
  have aO:i<l.length:=by omega
  have g0:=aqR aO
  have hL:=PD l i
  have hs:=aqS aO
  have p:Prim.ev (.put false 8 0 8) [.l ((xi l i).map aC),ii (i:Int),ii (gt l (i:Int)).ae,ii (gt l (i:Int)).kind,ii (gt l (i:Int)).owner,ii (gt l (i:Int)).key,ii (gt l (i:Int)).seq,.l [],ii (if(gt l (i:Int)).kind=3 then 1 else 0),bb false]=some (.l ((xi l (i+1)).map aC)):=by
   have:=B5 (enc:=aC) (sc:=false) (w:=8) (off:=0) (m:=8) (l:=xi l i) (n:=(i:Int)) (vs:=aC (Cb (gt l (i:Int)))) (x:=Cb (gt l (i:Int))) (by omega) (by omega) (λ_=>rfl) (by decide) rfl rfl rfl
   rw[Int.toNat_natCast,hs]at this
   exact this
  generalize xi l (i+1)=L2 at p hs
  generalize xi l i=L at*
  have e1:(i:Int)<L.length:=by omega
  simp(disch:=omega) only[↓pq,↓pj,ps,pz,↓reduceIte,af,ah,ai,aj,ak,ap,aq,au,av,j3_,e1,g0,aqQ,p]
 ·intro q
  have hz:¬((l.length:Int)<(xi l l.length).length):=by rw[PD];omega
  simp(disch:=omega) only[↓pq,↓pj,ps,pz,↓reduceIte,af,ah,ai,aj,ak,ap,aq,au,av,j3_,hz]
  unfold xi
  simp
def PkP(B:List Int)(o:Option (List T)):Prop:=
 ∃(p:b_) (i' h':Int),o=some [ii p.kind,ii p.BC,ii p.to,ii p.ae,.l (p.heard.map aD),.l (p.list.map aC),.l (B.map fP),ii i',ii h']∧(p.heard.length<=10∧p.list.length<=200∧bh p.list)∧0<=i'∧i'<=B.length
theorem PF{s:List ay}{n:Nat}(h:s.length<=n)(hn:bh s)(a:Int):(scope s a).length<=n∧bh (scope s a):=⟨Nat.le_trans (List.length_filter_le _ _) h,λr hr=>hn r (List.mem_filter.1 hr).1⟩
theorem PG{s:List ay}{n:Nat}(h:s.length<=n)(a:Int):((scope s a).map Cb).length<=n∧bh ((scope s a).map Cb):=
 ⟨by rw[List.length_map];exact Nat.le_trans (List.length_filter_le _ _) h,λr hr=>by obtain⟨y,_,rfl⟩:=List.mem_map.1 hr;simp[Cb]⟩
set_option maxHeartbeats 1000000 in
theorem ZA{B:List Int}(hB:∀x∈B,tJ x)(hl:B.length<=1048576){i:Int}(h:Int)(hi:0<=i)(aO:i<=B.length):PkP B (GU [.l (B.map fP),ii i,ii h]):=by
 rw[alK]
 obtain⟨k,i,h,e1,hk,hi,aO⟩:=nx hB hl h hi aO 3 (by omega) (by omega)
 obtain⟨f,i,h,e2,hf,hi,aO⟩:=nx hB hl h hi aO 4 (by omega) (by omega)
 obtain⟨a,i,h,e3,ha,hi,aO⟩:=nx hB hl h hi aO 3 (by omega) (by omega)
 have avl:(1+f).tmod 5+1<=10∧0<=(1+f).tmod 5:=by
  have h1:=Int.tmod_lt_of_pos (1+f) (show(0:Int)<5 by decide)
  have h2:=Int.tmod_nonneg 5 (show 0<=1+f by omega)
  omega
 by_cases c1:1+k=1
 ·simp(disch:=omega) only[↓pq,↓pj,ps,pz,↓reduceIte,af,ah,ai,aj,ak,ap,aq,au,av,Nc,W5,e1,e2,e3,c1]
  refine zy (PkP B) (λm st=>∃(v:Nat) (i h:Int) (l:List Int),st=[ii ((v:Int)+1),.l (B.map fP),ii i,ii h,.l (l.map aD)]∧v<=5∧(0<=i∧i<=B.length)∧l.length<=v∧m=5-v) ?_ 5 [ii 1,.l (B.map fP),ii i,ii h,.l []] rounds ⟨0,i,h,[],rfl,by omega,⟨hi,aO⟩,by simp,rfl⟩ (by unfold rounds;omega)
  rintro m st q ⟨v,i,h,l,rfl,hv,⟨hi,aO⟩,hll,rfl⟩ hq
  by_cases c2:(v:Int)+1<=5
  ·obtain⟨b,i,h,e5,hi,aO⟩:=Bh hB hl h hi aO 2 (by omega) (by omega)
   cases b with
   |false=>
    simp(disch:=omega) only[↓pq,↓pj,ps,pz,↓reduceIte,af,ah,ai,aj,ak,ap,aq,au,av,Nc,c2,e5,cI]
    exact hq (5-(v+1)) _ (by omega) ⟨v+1,i,h,l,by rw[tD],by omega,⟨hi,aO⟩,by omega,rfl⟩
   |true=>
    simp(disch:=omega) only[↓pq,↓pj,ps,pz,↓reduceIte,af,ah,ai,aj,ak,ap,aq,au,av,Nc,c2,e5]
    exact hq (5-(v+1)) _ (by omega) ⟨v+1,i,h,l++[(v:Int)+1],by rw[tD],by omega,⟨hi,aO⟩,by simp;omega,rfl⟩
  ·simp(disch:=omega) only[↓pq,↓pj,ps,pz,↓reduceIte,af,ah,ai,aj,ak,ap,aq,au,av,Nc,c2]
   exact⟨⟨1,1+f,(1+f).tmod 5+1,a,l,[]⟩,i,h,rfl,⟨by show l.length<=10;omega,by simp,by intro r hr;cases hr⟩,hi,aO⟩
 ·obtain⟨s,i,h,e4,hs,hi,aO⟩:=PB hB hl h hi aO
  have wW:=hs.2.1
  have yz:=E4 hs.1
  have eS:=HM s a (by omega) yz
  have eH:=PE s a (by omega) yz
  by_cases c2:1+k=2
  ·simp(disch:=omega) only[↓pq,↓pj,ps,pz,↓reduceIte,af,ah,ai,aj,ak,ap,aq,au,av,Nc,W5,e1,e2,e3,c2,e4,eS,eH]
   exact⟨⟨2,1+f,(1+f).tmod 5+1,a,[],(scope s a).map Cb⟩,i,h,rfl,⟨by simp,(PG (n:=200) (by omega) a).1,(PG (n:=200) (by omega) a).2⟩,hi,aO⟩
  ·simp(disch:=omega) only[↓pq,↓pj,ps,pz,↓reduceIte,af,ah,ai,aj,ak,ap,aq,au,av,Nc,W5,e1,e2,e3,c1,c2,e4,eS]
   exact⟨⟨1+k,1+f,(1+f).tmod 5+1,a,[],scope s a⟩,i,h,rfl,⟨by simp,(PF (n:=200) (by omega) yz a).1,(PF (n:=200) (by omega) yz a).2⟩,hi,aO⟩
theorem ZB(p:b_)(h1:p.heard.length<=1048576)(h2:p.list.length<=1048576)(h3:bh p.list):
  GV [ii p.kind,ii p.BC,ii p.to,ii p.ae,.l (p.heard.map aD),.l (p.list.map aC)]=some [ii p.kind,ii p.BC,ii p.to,ii p.ae,.l (p.heard.map aD),.l (p.list.map aC)]:=by
 rw[alM];simp(disch:=omega) only[↓pq,↓pj,ps,pz,↓reduceIte,af,ah,ai,aj,ak,ap,aq,au,av,Nd,Jp _ h2 h3]
set_option maxHeartbeats 1000000 in
theorem ZC{B:List Int}(hB:∀x∈B,tJ x)(hl:B.length<=1048576){i:Int}(h:Int)(hi:0<=i)(aO:i<=B.length):
  ∃(p:b_) (i' h':Int),Q6 [.l (B.map fP),ii i,ii h]=some [ii p.kind,ii p.BC,ii p.to,ii p.ae,.l (p.heard.map aD),.l (p.list.map aC),.l (B.map fP),ii i',ii h']∧(p.heard.length<=11∧p.list.length<=201∧bh p.list)∧0<=i'∧i'<=B.length:=by
 rw[alQ]
 obtain⟨p,i,h,e1,⟨h1,h2,h3⟩,hi,aO⟩:=ZA hB hl h hi aO
 have e2:=ZB p (by omega) (by omega) h3
 obtain⟨k,i,h,e3,hk,hi,aO⟩:=nx hB hl h hi aO 24 (by omega) (by omega)
 have same:p.heard.length<=11∧p.list.length<=201∧bh p.list:=⟨by omega,by omega,h3⟩
 by_cases c0:k=0
 ·obtain⟨c,i,h,e4,_,hi,aO⟩:=Bi hB hl h hi aO [0,1,2,3,4] (by simp) (by simp)
  simp(disch:=omega) only[↓pq,↓pj,ps,pz,↓reduceIte,af,ah,ai,aj,ak,ap,aq,au,av,Jm,e1,e2,e3,c0,Px,e4]
  exact⟨{p with kind:=c},i,h,rfl,same,hi,aO⟩
 by_cases c1:k=1
 ·obtain⟨c,i,h,e4,_,hi,aO⟩:=Bi hB hl h hi aO [0,6,7,p.to] (by simp) (by simp)
  simp(disch:=omega) only[↓pq,↓pj,ps,pz,↓reduceIte,af,ah,ai,aj,ak,ap,aq,au,av,Jm,e1,e2,e3,c1,xh,e4]
  exact⟨{p with BC:=c},i,h,rfl,same,hi,aO⟩
 by_cases c2:k=2
 ·obtain⟨c,i,h,e4,_,hi,aO⟩:=Bi hB hl h hi aO [-1,0,2,3] (by simp) (by simp)
  simp(disch:=omega) only[↓pq,↓pj,ps,pz,↓reduceIte,af,ah,ai,aj,ak,ap,aq,au,av,Jm,e1,e2,e3,c2,xh,e4]
  exact⟨{p with ae:=c},i,h,rfl,same,hi,aO⟩
 by_cases c3:k=3
 ·obtain⟨c,i,h,e4,_,hi,aO⟩:=nx hB hl h hi aO 8 (by omega) (by omega)
  simp(disch:=omega) only[↓pq,↓pj,ps,pz,↓reduceIte,af,ah,ai,aj,ak,ap,aq,au,av,Jm,e1,e2,e3,c3,e4]
  exact⟨{p with heard:=p.heard++[c]},i,h,rfl,⟨by show(p.heard++[c]).length<=11;simp;omega,same.2⟩,hi,aO⟩
 by_cases c4:k=4
 ·obtain⟨r,i,h,e4,hr,hi,aO⟩:=aqP hB hl h hi aO
  have oZ:=V4 r.ae r.kind r.owner r.key r.seq r.bf r.cost r.eY
  simp(disch:=omega) only[↓pq,↓pj,ps,pz,↓reduceIte,af,ah,ai,aj,ak,ap,aq,au,av,Jm,e1,e2,e3,c4,e4,oZ]
  refine⟨{p with list:=p.list++[r]},i,h,rfl,⟨same.1,by show(p.list++[r]).length<=201;simp;omega,λy hy=>?_⟩,hi,aO⟩
  rcases List.mem_append.1 hy with hy|hy
  ·exact h3 y hy
  ·rw[List.mem_singleton]at hy
   rw[hy];omega
 ·simp(disch:=omega) only[↓pq,↓pj,ps,pz,↓reduceIte,af,ah,ai,aj,ak,ap,aq,au,av,Jm,e1,e2,e3,c0,c1,c2,c3,c4]
  exact⟨p,i,h,rfl,same,hi,aO⟩
theorem aqT(l:List cw):B3 l l=true:=by
 unfold B3
 rw[bI,ca]
 exact⟨by simp,λi hi=>by simp⟩
theorem aqU{a b:ay}(h:dZ a b=true)(h1:a.cost=b.cost)(h2:a.eY=b.eY)(h3:a.bf=b.bf):xb a b=true:=by
 unfold xb
 rw[h,h1,h2,h3,aqT]
 simp
theorem aqV(r:ay):dZ (fT r) r=true:=by
 unfold fT
 split<;>(rw[sameKey_iff];exact⟨rfl,rfl,rfl,rfl⟩)
theorem Eo(x:Self)(r:ay):dZ (yE x r) r=true:=aqV r
theorem PH(x:Self)(r:ay):dZ (wF x r) r=true:=by rw[sameKey_iff];exact⟨rfl,rfl,rfl,rfl⟩
theorem PI{a b:ay}(h:¬dZ a b=true):dZ a b=false:=by
 cases hc:dZ a b with
 |false=>rfl
 |true=>exact absurd hc h
theorem PJ{s:List ay}(h:jk s){f:ay->ay}(hf:∀r,dZ (f r) r=true):s.Pairwise λa b=>dZ (f a) (f b)=false:=by
 refine List.Pairwise.imp (λ{a b} nE=>PI λhc=>?_) h
 have h1:=Xs nE
 rw[wD (B9 (hf a)) (wD hc (hf b))]at h1
 cases h1
theorem aqW{s:List ay}(hs:jk s){a b:ay}(ha:a∈s)(hb:b∈s)(h:dZ a b=true):a=b:=by
 rw[<-Ps hs ha h,Ps hs hb (Pg b)]
theorem PK{f:ay->ay}:∀{l s:List ay},jk s->jk (fS f s l)
 | [],_,h=>h
 |a::l,s,h=>PK (l:=l) (Jq h (f a))
theorem Ep{f:ay->ay}{p:ay->Bool}:∀(l c:List ay),l.foldl (λc r=>if p r=true then dx c (f r)else c) c=fS f c (l.filter p)
 | [],c=>rfl
 |a::l,c=>by
  rw[List.foldl_cons,Ep l,List.filter_cons]
  cases h:p a<;>rfl
theorem IC{x:Self}{W:List ay}(hW:jk W)(hs:jk x.store){r:ay}:r∈sL x W↔(∃w∈W,qz x.store w=true∧r=wF x w)∨∃o∈x.store,s7 x W o=true∧r=yE x o:=by
 have e1:W.foldl (su x) []=fS (wF x) [] (W.filter (qz x.store)):=Ep (f:=wF x) (p:=qz x.store) W []
 have e2:sL x W=fS (yE x) (W.foldl (su x) []) (x.store.filter (s7 x W)):=Ep (f:=yE x) (p:=s7 x W) x.store _
 rw[e2,Jy ((PJ hs (Eo x)).filter _),e1,Jy ((PJ hW (PH x)).filter _)]
 constructor
 ·rintro(⟨o,ho,e⟩|⟨⟨w,hw,e⟩|⟨h,_⟩,_⟩)
  ·obtain⟨h1,h2⟩:=List.mem_filter.1 ho
   exact .inr ⟨o,h1,h2,e⟩
  ·obtain⟨h1,h2⟩:=List.mem_filter.1 hw
   exact .inl ⟨w,h1,h2,e⟩
  ·cases h
 ·rintro(⟨w,hw,h,e⟩|⟨o,ho,h,e⟩)
  ·refine .inr ⟨.inl ⟨w,List.mem_filter.2 ⟨hw,h⟩,e⟩,λo ho=>PI λhc=>?_⟩
   obtain⟨_,h2⟩:=List.mem_filter.1 ho
   unfold s7 at h2
   simp only[bI,decide_eq_true_eq]at h2
   have h3:=Zs h2.2.1 w hw
   rw[wD (B9 (PH x w)) (wD (e▸hc) (Eo x o))]at h3
   cases h3
  ·exact .inl ⟨o,List.mem_filter.2 ⟨ho,h⟩,e⟩
theorem RK(x:Self)(W:List ay):jk (sL x W):=by
 have e1:W.foldl (su x) []=fS (wF x) [] (W.filter (qz x.store)):=Ep (f:=wF x) (p:=qz x.store) W []
 have e2:sL x W=fS (yE x) (W.foldl (su x) []) (x.store.filter (s7 x W)):=Ep (f:=yE x) (p:=s7 x W) x.store _
 rw[e2,e1]
 exact PK (PK .nil)
theorem yH{s N:List ay}(hN:jk N){r:ay}:r∈fS same s N↔r∈N∨(r∈s∧∀o∈N,dZ r o=false):=by
 rw[Jy (f:=same) (PJ hN λr=>Pg r)]
 constructor
 ·rintro(⟨o,ho,e⟩|h)
  ·exact .inl (e▸ho)
  ·exact .inr h
 ·rintro(h|h)
  ·exact .inl ⟨r,h,rfl⟩
  ·exact .inr h
theorem aqX{x:Self}{W:List ay}(hW:jk W)(hs:jk x.store){w:ay}(hw:w∈W):∃r∈fS same x.store (sL x W),dZ r w=true∧xb r w=true:=by
 have hN:=RK x W
 cases hn:qz x.store w with
 |true=>exact⟨wF x w,(yH hN).2 (.inl ((IC hW hs).2 (.inl ⟨w,hw,hn,rfl⟩))),PH x w,aqU (PH x w) rfl rfl rfl⟩
 |false=>
  have gO:=hn
  unfold qz at gO
  simp only[Bool.or_eq_false_iff,decide_eq_false_iff_not,Bool.not_eq_false']at gO
  obtain⟨h1,h2⟩:=Iz (s:=x.store) (r:=w) (by omega)
  refine⟨gt x.store (bG x.store w),(yH hN).2 (.inr ⟨h1,λo ho=>PI λhc=>?_⟩),h2,gO.2⟩
  have how:=wD (B9 hc) h2
  rcases(IC hW hs).1 ho with⟨w',P2,h3,e⟩|⟨o',_,h3,e⟩
  ·have:w'=w:=aqW hW P2 hw (wD (B9 (PH x w')) (e▸how))
   rw[this,hn]at h3
   cases h3
  ·unfold s7 at h3
   simp only[bI,decide_eq_true_eq]at h3
   have h4:=Zs h3.2.1 w hw
   rw[wD (B9 (e▸how)) (Eo x o')]at h4
   cases h4
theorem ZD{f:ay->ay}{x:ay}:∀{l s:List ay},x∈fS f s l->x∈s∨∃y∈l,x=f y
 | [],s,h=>.inl h
 |a::l,s,h=>by
  rcases ZD (l:=l) h with h|⟨y,hy,e⟩
  ·rcases zt h with h|h
   ·exact .inr ⟨a,.head _,h⟩
   ·exact .inl h
  ·exact .inr ⟨y,.tail _ hy,e⟩
theorem ZE{x:Self}{S:List ay}{w:ay}(h:w∈oP x S):w∈fq x∨w∈pe x S∨w∈Is x:=by
 rcases ZD h with h|⟨y,hy,e⟩
 ·cases h
 ·rw[e]
  rcases List.mem_append.1 hy with hy|hy
  ·rcases List.mem_append.1 hy with hy|hy
   ·exact .inl hy
   ·exact .inr (.inl hy)
  ·exact .inr (.inr hy)
theorem PM(x:Self)(S:List ay):jk (oP x S):=PK .nil
theorem aqY{x:Self}{S:List ay}{w:ay}(h:w∈oP x S):w.owner=x.id∧(w.kind=3->w∈Is x):=by
 rcases ZE h with h|h|h
 ·have:=Be h
  exact⟨this.2.2.1,λhk=>by omega⟩
 ·unfold pe at h
  split at h
  ·obtain⟨a,_,h⟩:=List.mem_flatMap.1 h
   have:=O_ h
   exact⟨this.2.2.1,λhk=>by omega⟩
  ·cases h
 ·refine⟨?_,λ_=>h⟩
  obtain⟨t,_,rfl⟩:=List.mem_map.1 h
  rfl
section
variable {x:Self} {Q:Int} {k:Nat} (h:jY x=true) (hb:x.aV<=1) (hq:(∀r∈x.store,r.seq<=Q)∧0<=Q∧Q<=90000) (h3:(x.store.filter rE).length<=k∧k<=22) (ht:x.net.aN.length<=2)
def ID(x:Self):List ay:=sL x (oP x (sY x.store x.id (fq x)))
def oI(x:Self):List ay:=fS same x.store (ID x)
include h hb hq in
theorem IE{r:ay}(hr:r∈ID x):r.seq<=Q+1001∧1000*x.aV<r.seq∧sZ x.store r<r.seq:=by
 obtain⟨hN,hid,jf,jS,xN,cC⟩:=qy h
 have xg:=B4 cC
 have ho:∀q:ay,0<=sZ x.store q∧sZ x.store q<=Q:=by
  intro q
  refine⟨(Iw cC q).1,?_⟩
  unfold sZ
  split
  ·omega
  ·exact hq.1 _ (Iz (s:=x.store) (r:=q) (by omega)).1
 have hs:∀q:ay,wE x q<=Q+1001∧1000*x.aV<wE x q∧sZ x.store q<wE x q:=by
  intro q
  have:=ho q
  unfold wE
  split<;>omega
 have hk:∀{a b:ay},dZ a b=true->sZ x.store a=sZ x.store b:=by
  intro a b nE
  have e:bG x.store a=bG x.store b:=by
   unfold bG
   congr 1
   funext y
   rw[Bool.eq_iff_iff]
   exact⟨λhh=>wD hh nE,λhh=>wD hh (B9 nE)⟩
  unfold sZ
  rw[e]
 rcases(IC (PM _ _) xg).1 hr with⟨w,hw,_,e⟩|⟨o,_,hg,e⟩
 ·rw[hk (e▸PH x w:dZ r w=true),e]
  exact hs w
 ·rw[hk (e▸Eo x o:dZ r o=true),e]
  exact hs o
include h hb hq in
theorem ZF:((ID x).all λr=>decide (r.seq<=100000))=true:=by
 rw[List.all_eq_true]
 intro r hr
 have:=IE h hb hq hr
 rw[decide_eq_true_eq];omega
include h hb hq in
theorem aqZ{r:ay}(hr:r∈oI x):fu r=true:=by
 have cC:=(qy h).2.2.2.2.2
 rcases(yH (RK _ _)).1 hr with hr|⟨hr,_⟩
 ·exact ap5 h _ (ZF h hb hq) r hr
 ·exact B6 cC hr
include h h3 ht in
theorem aq0:((oI x).filter rE).length<=k+2:=by
 have cC:=(qy h).2.2.2.2.2
 have xg:=B4 cC
 have f1:Fit k (x.store.filter rE):=⟨xg.filter _,λr hr=>E4 cC r (List.mem_filter.1 hr).1,h3.1⟩
 have hl:=YQ x
 have f2:=Fit.nv (f:=same) (l:=Is x) (λr hr=>by obtain⟨t,_,rfl⟩:=List.mem_map.1 hr;simp[same,ss]) f1
 refine Nat.le_trans (js_ ((PK xg).filter rE) f2.so λr hr=>?_) (Nat.le_trans f2.len (by omega))
 obtain⟨hr,hk⟩:=List.mem_filter.1 hr
 have nc:r.kind=3:=by simpa[rE]using hk
 rcases(yH (RK _ _)).1 hr with hr|⟨hr,_⟩
 ·rcases(IC (PM _ _) xg).1 hr with⟨w,hw,_,e⟩|⟨o,ho,_,e⟩
  ·exact cB.pf (z:=w) (e▸PH x w) ((aqY hw).2 (by rw[e]at nc;exact nc))
  ·have I5:=Eo x o
   refine cB.nv ⟨o,List.mem_filter.2 ⟨ho,?_⟩,e▸I5⟩
   have:=(sameKey_iff.1 I5).2.1
   rw[e]at nc
   simp[rE,<-this,nc]
 ·exact cB.nv ⟨r,List.mem_filter.2 ⟨hr,hk⟩,Pg r⟩
include h hb hq h3 ht in
theorem IF:iU (k+2) (oI x):=⟨PK (B4 (qy h).2.2.2.2.2),λr hr=>aqZ h hb hq hr,aq0 h h3 ht⟩
include h hb hq h3 ht in
theorem PN:pE x=({x with store:=oI x},ID x):=by
 unfold pE
 rw[if_pos h]
 unfold Bd
 have:=(IF h hb hq h3 ht).len
 exact if_pos ⟨ZF h hb hq,by show(oI x).length<=150;omega⟩
end
def vt(e:eE):Int×Int:=(e.node,e.ae)
def pg(ls:List bC)(id m a:Int)(c:List eE):Prop:=(c.Pairwise λx y=>Bj (vt x) (vt y))∧∀e∈c,0<=dz (eh id e.node e.ae) ls∧(e.node<m∨e.node=m∧e.ae<a)
theorem pg.step{ls:List bC}{id:Int}{v a:Nat}{c:List eE}(h:pg ls id ((v:Int)+1) a c):pg ls id ((v:Int)+1) ((a:Int)+1) (se ls id v c a):=by
 unfold se
 split
 ·rename_i hf
  refine⟨List.pairwise_append.2 ⟨h.1,List.pairwise_singleton _ _,λx hx y hy=>?_⟩,λe he=>?_⟩
  ·rw[List.mem_singleton]at hy
   rw[hy]
   exact(h.2 x hx).2
  ·rcases List.mem_append.1 he with he|he
   ·have:=h.2 e he
    exact⟨this.1,by omega⟩
   ·rw[List.mem_singleton]at he
    rw[he]
    exact⟨hf,.inr ⟨rfl,by show(a:Int)<(a:Int)+1;omega⟩⟩
 ·refine⟨h.1,λe he=>?_⟩
  have:=h.2 e he
  exact⟨this.1,by omega⟩
theorem pg.row{ls:List bC}{id:Int}{v:Nat}{c:List eE}(h:pg ls id ((v:Int)+1) 0 c):pg ls id ((v:Int)+1+1) 0 (ET ls id c v):=by
 have h0:pg ls id ((v:Int)+1) ((0:Nat):Int) c:=h
 have h1:=h0.step
 have h1:pg ls id ((v:Int)+1) ((1:Nat):Int) (se ls id v c 0):=h1
 have h2:=h1.step
 have h2:pg ls id ((v:Int)+1) ((2:Nat):Int) (se ls id v (se ls id v c 0) 1):=h2
 have h3:=h2.step
 show pg ls id ((v:Int)+1+1) 0 (se ls id v (se ls id v (se ls id v c 0) 1) 2)
 refine⟨h3.1,λe he=>?_⟩
 have:=h3.2 e he
 exact⟨this.1,by omega⟩
theorem PO(ls:List bC)(id:Int):∀k:Nat,pg ls id ((k:Int)+1) 0 ((List.range k).foldl (ET ls id) [])
 |0=>⟨.nil,by simp⟩
 |k+1=>by
  rw[List.range_succ,List.foldl_append]
  have:=(PO ls id k).row
  show pg ls id (((k+1:Nat):Int)+1) 0 (ET ls id _ k)
  rw[show(((k+1:Nat):Int)+1)=(k:Int)+1+1 by omega]
  exact this
theorem ZG(es:List eE):nh es=rk ((es.filter λe=>e.both).map vt):=by
 have:∀(l:List eE) (c:List Int),l.foldl HJ c=c++rk ((l.filter λe=>e.both).map vt):=by
  intro l
  induction l with
  |nil=>intro c;simp[rk]
  |cons e l ih=>
   intro c
   rw[List.foldl_cons,ih,List.filter_cons]
   unfold HJ
   cases hb:e.both with
   |true=>simp[rk,vt]
   |false=>simp
 exact this es []
def iv(x:Self)(es:List eE):Prop:=es.map vt=(o_ x.net.aA x.id x.net.n).map vt
theorem ZH{n:Node}(h:rh n=true):iv n.self n.eW:=by
 obtain⟨_,hl,_⟩:=Po h
 unfold rh uL at h
 simp only[bI,decide_eq_true_eq]at h
 have ha:=ca.1 h.2.1.2
 refine List.ext_getElem (by simp[hl]) λi h1 h2=>?_
 rw[List.length_map]at h1 h2
 have:=ha i h1
 unfold uK at this
 simp only[bI,decide_eq_true_eq]at this
 rw[List.getElem_map,List.getElem_map,<-ed h1,<-ed h2]
 exact Prod.ext this.1 this.2.1
theorem iv.heard{x:Self}{es:List eE}(h:iv x es)(hn:0<=x.net.n):(nh es).length%2=0∧zr (λv a=>decide (0<=dz (eh x.id v a) x.net.aA)) (nh es)=true:=by
 have hA:=PO x.net.aA x.id x.net.n.toNat
 have hA:pg x.net.aA x.id ((x.net.n.toNat:Int)+1) 0 (o_ x.net.aA x.id x.net.n):=hA
 have hp:(es.map vt).Pairwise Bj:=by
  rw[h]
  exact List.pairwise_map.2 hA.1
 rw[ZG]
 refine⟨by rw[IB];omega,Zx (List.pairwise_map.2 ((List.pairwise_map.1 hp).filter _)) λp sG=>?_⟩
 obtain⟨e,he,rfl⟩:=List.mem_map.1 sG
 have:vt e∈(o_ x.net.aA x.id x.net.n).map vt:=by rw[<-h];exact List.mem_map_of_mem (List.mem_filter.1 he).1
 obtain⟨e',TT,e1⟩:=List.mem_map.1 this
 rw[decide_eq_true_eq,<-e1]
 exact(hA.2 e' TT).1
theorem PP{x:Self}(h:jY x=true){es:List eE}(he:iv x es):jY {x with heard:=nh es}=true:=by
 have hn:=(wC (qy h).1).1
 obtain⟨h1,h2⟩:=he.heard (by omega)
 unfold jY at h⊢
 simp only[bI,decide_eq_true_eq,aZ]at h⊢
 exact⟨h.1,h.2.1,h.2.2.1,⟨h1,h2⟩,h.2.2.2.2⟩
theorem aq1{x:Self}{es:List eE}(h:iv x es):iv x (es.map iM):=by
 unfold iv at h⊢
 rw[List.map_map]
 exact h
structure mW (Q:Int) (k:Nat) (n:Node):Prop where
 ok:rh n=true
 aV:n.self.aV<=1
 seq:∀r∈n.self.store,r.seq<=Q
 three:(n.self.store.filter rE).length<=k
 aN:n.self.net.aN.length<=2
theorem aq2{w e:eE}(h:uK w e=true):uK w (iM e)=true:=by
 unfold uK at h⊢
 simp only[bI,aZ,decide_eq_true_eq,Bool.not_eq_true']at h⊢
 refine⟨h.1,h.2.1,?_,?_⟩
 ·show 0<=(if 0>e.left-1 then 0 else e.left-1)∧(if 0>e.left-1 then 0 else e.left-1)<=3
  split<;>omega
 ·show(e.both&&decide ((if 0>e.left-1 then 0 else e.left-1)>0)&&decide ((if 0>e.left-1 then 0 else e.left-1)=0))=false
  by_cases h0:(if 0>e.left-1 then 0 else e.left-1)=0
  ·rw[h0];simp
  ·simp[h0]
theorem mW.tick{Q:Int}{k:Nat}{n:Node}(h:mW Q k n)(hQ:0<=Q∧Q<=90000)(hk:k<=22):mW (Q+1001) (k+2) (Bg n)∧(Bg n).self={n.self with heard:=nh (n.eW.map iM),store:=oI {n.self with heard:=nh (n.eW.map iM)}}:=by
 obtain⟨x,es⟩:=n
 obtain⟨ez,hb,hq,h3,ht⟩:=h
 simp only at hb hq h3 ht
 have hA:=aq1 (ZH ez)
 obtain⟨hs,yU,_⟩:=Po ez
 simp only at hs yU
 have hx:=PP hs hA
 have nk:(∀r∈({x with heard:=nh (es.map iM)}:Self).store,r.seq<=Q)∧0<=Q∧Q<=90000:=⟨hq,hQ⟩
 have F_:(({x with heard:=nh (es.map iM)}:Self).store.filter rE).length<=k∧k<=22:=⟨h3,hk⟩
 have r1:=PN hx hb nk F_ ht
 have r2:=IF hx hb nk F_ ht
 have e:Bg ⟨x,es⟩=⟨{x with heard:=nh (es.map iM),store:=oI {x with heard:=nh (es.map iM)}},es.map iM⟩:=by
  unfold Bg
  simp only
  rw[r1]
 rw[e]
 refine⟨⟨?_,hb,λr hr=>?_,r2.2.2,ht⟩,rfl⟩
 ·unfold rh uL
  simp only[bI,decide_eq_true_eq]
  refine⟨Pw hx (r2.ok (by omega)),⟨by rw[List.length_map,yU],ca.2 λi hi=>?_⟩,?_⟩
  ·rw[List.length_map]at hi
   have h1:rh ⟨x,es⟩=true:=ez
   unfold rh uL at h1
   simp only[bI,decide_eq_true_eq]at h1
   have:=aq2 (ca.1 h1.2.1.2 i hi)
   rw[ed (l:=es.map iM) (by simpa using hi),List.getElem_map,<-ed hi]
   exact this
  ·rw[oF]
 ·rcases(yH (RK _ _)).1 hr with hr|⟨hr,_⟩
  ·exact(IE hx hb nk hr).1
  ·have:=hq r hr
   omega
section
variable {s:List ay} {A:List Int} {z:Bool} {fr:Int}
end
section
variable {s:List ay} {A:List Int} {v:Int}
theorem aq3{w:Way}(h:w∈within s A v):Ic ((mU s A v).filter λy=>y.to==w.to) w:=by
 have hm:=(D1 (λx hx=>(E1 x hx).2.1)).1 h
 rcases E0 (v:=w.to) _ ((mU s A v).filter λy=>y.to==w.to) rfl (λy hy=>by have:=List.mem_filter.1 hy;exact⟨by simpa using this.2,(E1 y this.1).2.1⟩)with⟨_,e1⟩|⟨b,e1,hb,B⟩
 ·rw[e1]at hm;cases hm.2
 ·rw[e1]at hm;cases hm.2;exact B
end
section
variable {x:Net} {L U:List Bool}
end
theorem Pa.first{s:List ay}{ar a v n:Int}(h:Pa s ar a v n):(a=v∧n=0)∨∃p m,du s ar a p≠0∧Pa s ar p v m∧du s ar a p+m=n:=by
 cases h with
 |nil=>exact .inl ⟨rfl,rfl⟩
 |cons h hc p=>exact .inr ⟨_,_,hc,p,rfl⟩
end Go.Proofs.YtjimmglpkndemaaGreatC

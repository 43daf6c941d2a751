/- The walk by reflection: a part of its laws, for any function. Conditions: none. -/
import Derived.Test.YtjimmglpkndemaaGreatKc
import Derived.Test.YtjimmglpkndemaaGreatKa
import Derived.ChangeSame
import Derived.JoinedOf
import Derived.JoinedAt
import Derived.RowKit3
import Derived.Carry
namespace Go.Proofs.YtjimmglpkndemaaGreatC
set_option linter.unusedVariables false
section
variable {M:Nat->Prop} {B:ft} {d:Nat} {up:Nat->Nat->Value} {ρ:List T} {G:Gh} {a:Act} {w:World} {s:St} {S:Nat->aA} {P:Program} {cx:Cx} {R:Nat} {out:List T}
theorem ah8{t:Nat}{ti:TI}(hT:tX P t ti){b off:Nat}{vs:List Value}(hl:vs.length=ti.sz)(hc:∀j v,vs[j]?=some v->w.cell? ⟨b,off+j,none⟩=some v):
  (loadVar t ⟨b,off,none⟩).run P w=.ok (if ti.ag then .agg vs.toArray else vs.getD 0 undef) w:=by
 have:=A6 (P:=P) hT hl hc
 simpa[Instr.loadAt,Instr.sureAddr]using this
def yR(tmps:Array Value):ResultVar->Sem Value
 | .tmp t=>pure (tmps.getD t undef)
 | .cell a t=>do loadVar t (<-asAddr (tmps.getD a undef))
theorem FE(ez:eZ P cx)(hr:Rel M B d up s ρ G a w):∀{rvs:List ResultVar} {rs:List SV},Go.Proofs.YtjimmglpkndemaaGreatC.results cx d s rvs=some rs->
  ∃us:List Value,(rvs.mapM (yR a.tmps)).run P w=.ok us w∧dt G w ρ rs us∧∀v∈rs,∀i∈dI v,M i
 | [],rs,h=>by
  simp[Go.Proofs.YtjimmglpkndemaaGreatC.results]at h
  subst h
  exact⟨[],rfl,trivial,λv hv=>by cases hv⟩
 | .tmp t::rvs,rs,h=>by
  simp only[Go.Proofs.YtjimmglpkndemaaGreatC.results,cU,bP]at h
  obtain⟨vs,pg,rfl⟩:=h
  obtain⟨us,g1,g2,g3⟩:=FE ez hr pg
  have ht:=hr.tm d t (Nat.le_refl _)
  simp only[oP,if_true]at ht
  refine⟨a.tmps.getD t undef::us,?_,⟨ht,g2⟩,λv hv=>?_⟩
  ·rw[List.mapM_cons,Sem.run_bind]
   simp only[yR,Sem.run_pure,Result.andThen_ok,Sem.run_bind,g1]
  ·rcases List.mem_cons.1 hv with rfl|hv
   ·exact hr.gA _
   ·exact g3 v hv
 | .cell ad t::rvs,rs,h=>by
  simp only[Go.Proofs.YtjimmglpkndemaaGreatC.results,cU]at h
  obtain⟨ti,gn,h⟩:=h
  have ht:=hr.tm d ad (Nat.le_refl _)
  simp only[oP,if_true]at ht
  split at h
  ·rename_i bx off hpt
   split at h
   ·rename_i ag cs vg
    cases hb:Nat.ble (off+ti.sz) cs.length with
    |false=>simp[hb]at h
    |true=>
     simp only[hb,cond_true,cU,bP]at h
     obtain⟨vs,pg,rfl⟩:=h
     obtain⟨us,g1,g2,g3⟩:=FE ez hr pg
     rw[hpt]at ht
     have qk:=hr.bx bx
     rw[vg]at qk
     obtain⟨_,arr,elem,hh,kZ⟩:=qk
     have hle:=Nat.le_of_ble_eq_true hb
     have hlen:=kZ.length
     simp only[Array.length_toList]at hlen
     have hT:=ez.ty _ _ gn
     have oT:=bu.take ti.sz (bu.drop off kZ)
     have pi:((arr.toList.drop off).take ti.sz).length=ti.sz:=by simp;omega
     have fu:=ah8 (P:=P) (w:=w) (b:=G.β bx) (off:=off) hT pi (λj v hj=>by
      rw[yq hh]
      have bC:=(List.getElem?_eq_some_iff.1 hj).1
      rw[List.getElem?_take,if_pos (by omega),List.getElem?_drop]at hj
      simpa using hj)
     refine⟨_::us,?_,⟨A7 hT oT pi,g2⟩,λv hv=>?_⟩
     ·rw[List.mapM_cons,Sem.run_bind]
      simp only[yR,Sem.run_bind]
      rw[show a.tmps.getD ad undef=.pointer (some ⟨G.β bx,off,none⟩) from ht]
      simp only[asAddr,Sem.run_pure,Result.andThen_ok,fu,g1]
     ·rcases List.mem_cons.1 hv with rfl|hv
      ·intro i hi
       have hm:=hr.gA (.x bx)
       rw[vg]at hm
       exact hm i (JP _ _ i (JQ _ _ i hi))
      ·exact g3 v hv
   ·cases h
  ·cases h
theorem TE{fn:Func}{us:List Value}(h:(fn.results.toList.mapM (yR a.tmps)).run P w=.ok us w):(Go.results fn a.tmps).run P w=.ok (nH us) w:=by
 have h2:(fn.results.mapM (yR a.tmps)).run P w=.ok us.toArray w:=by
  rw[Array.mapM_eq_mapM_toList,Sem.run_map,h]
  rfl
 have h3:Go.results fn a.tmps=(do let vs <-fn.results.mapM (yR a.tmps);pure (if h:vs.size=1 then vs[0]else .tuple vs)):=by
  unfold Go.results
  congr 1
 rw[h3,Sem.run_bind,h2]
 simp only[Result.andThen_ok,Sem.run_pure,nH,List.size_toArray]
 by_cases hl:us.length=1
 ·simp[hl]
 ·simp[hl]
theorem FF(d e n:Nat):∀s:St,(rW d s).get (.t e n)=if d<=e then .un else s.get (.t e n)
 | []=>by simp[rW,St.get]
 |(.t e' n',v)::s=>by
  simp only[rW]
  cases hb:Nat.ble d e' with
  |true=>
   have:=Nat.le_of_ble_eq_true hb
   simp only[cond_true]
   rw[FF d e n s]
   split
   ·rfl
   ·simp only[St.get]
    have:(bN.t e' n').beq (.t e n)=false:=by
     cases hq:(bN.t e' n').beq (.t e n)with
     |false=>rfl
     |true=>have:=bN.beq_iff.1 hq;cases this;omega
    rw[this];rfl
  |false=>
   have bC:¬d<=e':=λh=>by rw[Nat.ble_eq_true_of_le h]at hb;cases hb
   simp only[cond_false,St.get]
   cases hq:(bN.t e' n').beq (.t e n)with
   |true=>have:=bN.beq_iff.1 hq;cases this;simp[bC]
   |false=>simp only[cond_false];exact FF d e n s
 |(.x b,v)::s=>by
  simp only[rW,St.get]
  rw[show(bN.x b).beq (.t e n)=false from rfl]
  exact FF d e n s
 |(.o b,v)::s=>by
  simp only[rW,St.get]
  rw[show(bN.o b).beq (.t e n)=false from rfl]
  exact FF d e n s
theorem FG(d:Nat)(r:bN)(hr:∀e n,r≠.t e n):∀s:St,(rW d s).get r=s.get r
 | []=>rfl
 |(.t e' n',v)::s=>by
  have hb:(bN.t e' n').beq r=false:=by
   cases hq:(bN.t e' n').beq r with
   |false=>rfl
   |true=>exact absurd (bN.beq_iff.1 hq).symm (hr e' n')
  simp only[rW]
  cases Nat.ble d e' with
  |true=>simp only[cond_true,St.get,hb,cond_false];exact FG d r hr s
  |false=>simp only[cond_false,St.get,hb];exact FG d r hr s
 |(.x b,v)::s=>by
  simp only[rW,St.get]
  rw[FG d r hr s]
 |(.o b,v)::s=>by
  simp only[rW,St.get]
  rw[FG d r hr s]
theorem FH(d:Nat):∀(vs:List SV) (s:St) (i:Nat) (r:bN),(vX d s i vs).get r=match r with
  | .t e n=>if e=d∧i<=n∧n<i+vs.length then vs.getD (n-i) .un else s.get (.t e n)
  |r=>s.get r
 | [],s,i,r=>by
  cases r with
  |t e n=>simp only[vX,List.length_nil];rw[if_neg (by omega)]
  |_=>rfl
 |v::vs,s,i,r=>by
  simp only[vX]
  rw[FH d vs (s.set (.t d i) v) (i+1) r]
  cases r with
  |t e n=>
   simp only[List.length_cons]
   by_cases h1:e=d∧i+1<=n∧n<i+1+vs.length
   ·rw[if_pos h1,if_pos ⟨h1.1,by omega,by omega⟩]
    rw[show n-i=(n-(i+1))+1 by omega]
    simp
   ·rw[if_neg h1]
    by_cases h2:e=d∧n=i
    ·obtain⟨rfl,rfl⟩:=h2
     rw[if_pos ⟨rfl,by omega,by omega⟩,St.cw]
     simp
    ·rw[if_neg (by omega),St.eT _ _ (λh=>by cases h;exact h2 ⟨rfl,rfl⟩)]
  |x b=>exact St.eT _ _ (by simp)
  |o b=>exact St.eT _ _ (by simp)
theorem dt.get{vs:List SV}{us:List Value}(h:dt G w ρ vs us):∀(i:Nat) (v:SV),vs[i]?=some v->∃u,us[i]?=some u∧cR G w ρ v u:=by
 induction vs generalizing us with
 |nil=>intro i v hi;simp at hi
 |cons x vs ih=>
  cases us with
  |nil=>exact h.elim
  |cons u us=>
   intro i v hi
   cases i with
   |zero=>simp at hi;subst hi;exact⟨u,rfl,h.1⟩
   |succ i=>simpa using ih h.2 i v (by simpa using hi)
theorem Rel.enter{vs:List SV}{args:List Value}{nt:Nat}(hr:Rel M B d up s ρ G a w)(hv:dt G w ρ vs args)(hm:∀v∈vs,∀i∈dI v,M i)(hn:vs.length<=nt):
  Rel M B (d+1) (oP up d a) (vX (d+1) (rW (d+1) s) 0 vs) ρ G {tmps:=args.toArray++Array.replicate (nt-args.toArray.size) undef,defers:=[]} w∧
   (args.toArray++Array.replicate (nt-args.toArray.size) undef:Array Value).size=nt:=by
 have hl:=hv.length
 have hg:∀r,(∀e n,r≠.t e n)->(vX (d+1) (rW (d+1) s) 0 vs).get r=s.get r:=by
  intro r hr
  rw[FH]
  cases r with
  |t e n=>exact absurd rfl (hr e n)
  |x b=>exact FG _ _ hr s
  |o b=>exact FG _ _ hr s
 refine⟨⟨λe n he=>?_,λb=>?_,λi=>?_,λr i hi=>?_,λi hi=>?_,hr.iP,rfl,hr.base,hr.bt⟩,by simp;omega⟩
 ·rw[FH]
  simp only[Nat.zero_le,true_and,Nat.zero_add,Nat.sub_zero]
  by_cases hed:e=d+1
  ·subst hed
   by_cases hnl:n<vs.length
   ·rw[if_pos ⟨rfl,hnl⟩]
    obtain⟨u,hu,qK⟩:=hv.get n vs[n] (List.getElem?_eq_getElem hnl)
    rw[List.getD_eq_getElem?_getD,List.getElem?_eq_getElem hnl]
    have:oP (oP up d a) (d+1) {tmps:=args.toArray++Array.replicate (nt-args.toArray.size) undef,defers:=[]} (d+1) n=u:=by
     simp only[oP,if_true]
     rw[Array.getD_eq_getD_getElem?,Array.getElem?_append_left (by simp;omega),List.getElem?_toArray,hu]
     rfl
    rw[this]
    exact qK
   ·rw[if_neg (by omega),FF,if_pos (Nat.le_refl _)]
    trivial
  ·rw[if_neg (by omega),FF,if_neg (by omega)]
   have:oP (oP up d a) (d+1) {tmps:=args.toArray++Array.replicate (nt-args.toArray.size) undef,defers:=[]} e n=oP up d a e n:=by
    show(if e=d+1 then _ else _)=_
    rw[if_neg hed]
   rw[this]
   exact hr.tm e n (by omega)
 ·rw[hg _ (by simp)];exact hr.bx b
 ·rw[hg _ (by simp)];exact hr.ob i
 ·rw[FH]at hi
  cases r with
  |t e n=>
   simp only[Nat.zero_le,true_and,Nat.zero_add,Nat.sub_zero]at hi
   split at hi
   ·rename_i hc
    rw[List.getD_eq_getElem?_getD,List.getElem?_eq_getElem hc.2]at hi
    exact hm _ (List.getElem_mem hc.2) i hi
   ·rw[FF]at hi
    split at hi
    ·simp[dI]at hi
    ·exact hr.gA _ i hi
  |x b=>
   simp only at hi
   exact hr.gA (.x b) i (by rwa[FG _ _ (by simp) s]at hi)
  |o b=>
   simp only at hi
   exact hr.gA (.o b) i (by rwa[FG _ _ (by simp) s]at hi)
 ·rw[hg _ (by simp),hg _ (by simp)]at hi;exact hr.key i hi
theorem Rel.TF{a2:Act}{w2:World}{G2:Gh}{s2:St}{FD:List T}(hd:a.defers=[])(hr:Rel M B (d+1) (oP up d a) s2 FD G2 a2 w2):Rel M B d up (rW (d+1) s2) FD G2 a w2:=by
 have hg:∀r,(∀e n,r≠.t e n)->(rW (d+1) s2).get r=s2.get r:=λr hr=>FG _ _ hr s2
 refine⟨λe n he=>?_,λb=>?_,λi=>?_,λr i hi=>?_,λi hi=>?_,hr.iP,hd,hr.base,hr.bt⟩
 ·rw[FF,if_neg (by omega)]
  have:=hr.tm e n (by omega)
  have e1:oP (oP up d a) (d+1) a2 e n=oP up d a e n:=by
   show(if e=d+1 then _ else _)=_
   rw[if_neg (by omega)]
  rw[e1]at this
  exact this
 ·rw[hg _ (by simp)];exact hr.bx b
 ·rw[hg _ (by simp)];exact hr.ob i
 ·cases r with
  |t e n=>
   rw[FF]at hi
   split at hi
   ·simp[dI]at hi
   ·exact hr.gA _ i hi
  |x b=>exact hr.gA (.x b) i (by rwa[hg _ (by simp)]at hi)
  |o b=>exact hr.gA (.o b) i (by rwa[hg _ (by simp)]at hi)
 ·rw[hg _ (by simp),hg _ (by simp)]at hi;exact hr.key i hi
theorem TG(E:Env P cx S)(xr:P.follows .mixedOrders=true):∀n,Fw P S R out B (EP cx n)
 |0=>by intro f g vs lv s ct fs kk p K0 a w args Ψ h;cases h
 |n+1=>by
  intro f g vs lv s ct fs kk p Z a w args Ψ h bR hk
  simp only[EP,cU]at h
  obtain⟨fn,SN,c,hc,h⟩:=h
  obtain⟨hf,jH⟩:=E.dW g fn SN
  refine⟨jH,?_⟩
  cases hb:(Nat.ble vs.length fn.ntmps&&xc fn.ntmps c)with
  |false=>simp[hb]at h
  |true=>
   simp only[hb,cond_true]at h
   simp only[bL]at hb
   obtain⟨K,ρ,G,h1,h2,h3,h4,h5,h6,h7,h8,h9,nX⟩:=bR
   have hle:=Nat.le_of_ble_eq_true hb.1
   obtain⟨q1,q2⟩:=h7.enter h9 nX hle
   refine calls_of_wp hf hc ?_
   refine TC (f:=⟨f.d+1,oP f.up f.d a,fn.ntmps⟩) E (TG E xr n) xr c 0 lv _ ct fs _ p _ w Z _ hb.2 h ⟨K,ρ,G,h1,h2,h3,h4,h5,h6,q1,q2,trivial⟩ λe=>?_
   have fin:∀(qM:Nat) (s':St) (iM:Ct) (jU:kl) (p':PL) (a2:Act) (w2:World),(Go.Proofs.YtjimmglpkndemaaGreatC.results cx (f.d+1) s' fn.results.toList).bind (λrs=>kk rs qM (rW (f.d+1) s') iM jU)=some p'->
     At S R out B ⟨f.d+1,oP f.up f.d a,fn.ntmps⟩ Z XT p' qM s' iM jU a2 w2->a2.defers=[]∧∃v,(Go.results fn a2.tmps).run P w2=.ok v w2∧∃v',Ending.returned v=.returned v'∧Ψ v' w2:=by
    rintro qM s' iM jU p' a2 w2 dh ⟨K2,FD,G2,g1,g2,g3,g4,g5,g6,g7,g8,_⟩
    rw[cU]at dh
    obtain⟨rs,KB,dh⟩:=dh
    obtain⟨us,u1,u2,u3⟩:=FE E.ez g7 KB
    refine⟨g7.dn,nH us,TE u1,nH us,rfl,?_⟩
    exact hk rs qM _ iM jU p' w2 us dh ⟨K2,FD,G2,g1,g2,g3,g4,g5,g6,g7.TF h7.dn,h8,u2,u3⟩
   cases e with
   |normal=>intro qM s' iM jU p' a2 w2 dh lP;exact fin qM s' iM jU p' a2 w2 dh lP
   |ret=>intro qM s' iM jU p' a2 w2 dh lP;exact fin qM s' iM jU p' a2 w2 dh lP
   |exit id=>intro qM s' iM jU p' a2 w2 dh lP;cases dh
theorem TH{k:Wk}{c:Ce}{x:Lf}{v:Value}(hk:∀id,cS G w ρ id (k.get (.o id)))(h:k.plain c=some x)(hr:gD G w ρ c v):∃t,x.ev ρ=t∧fq G.q w t v:=by
 unfold Wk.plain at h
 split at h
 ·cases h;obtain⟨t,h1,h2⟩:=hr;exact⟨t,Lf.cb h1,h2⟩
 ·cases h
  have hv:v=.slice none 0 0:=hr
  subst hv
  exact⟨_,rfl,.nil⟩
 ·rename_i id
  split at h
  ·rename_i y hy
   cases h
   have eU:=hk id
   rw[hy]at eU
   obtain⟨t,h1,h2,_⟩:=eU
   obtain⟨p,hp,hv⟩:=hr
   simp only[mB,bP]at hp
   subst hp
   exact⟨t,Lf.cb h1,by rw[hv];exact h2⟩
  ·cases h
 ·cases h
theorem TJ{k:Wk}(hk:∀id,cS G w ρ id (k.get (.o id))):∀{cs:List Ce} {xs:List Lf} {vs:List Value},k.pZ cs=some xs->bu G w ρ cs vs->fa G.q w (xs.map (Lf.ev ρ)) vs∧xs.length=cs.length
 | [],xs,vs,h,hr=>by
  simp[Wk.pZ]at h
  subst h
  cases vs with
  |nil=>exact⟨trivial,rfl⟩
  |cons _ _=>exact hr.elim
 |c::cs,xs,[],h,hr=>hr.elim
 |c::cs,xs,v::vs,h,hr=>by
  simp only[Wk.pZ,cU,bP]at h
  obtain⟨x,hx,ys,Sf,rfl⟩:=h
  obtain⟨t,ht,hd⟩:=TH hk hx hr.1
  obtain⟨g1,g2⟩:=TJ hk Sf hr.2
  exact⟨⟨by rw[ht];exact hd,g1⟩,by simp[g2]⟩
theorem BO:∀{cs:List Ce} {ks:List Ck} {k k1:Wk} {xs:List Lf} {ids:List Nat} {vs:List Value},mm k cs ks=some (k1,xs,ids)->(∀id,cS G w ρ id (k.get (.o id)))->bu G w ρ cs vs->k1.bT S ρ->
  k.bT S ρ∧k.fB k1∧∃is,ci G w ks vs (xs.map (Lf.ev ρ)) is∧is.filterMap id=ids∧∀j,some j∈is->j%4≠2
 | [],[],k,k1,xs,ids,vs,h,hk,hr,hd=>by
  simp only[mm,bP,Prod.mk.injEq]at h
  obtain⟨rfl,rfl,rfl⟩:=h
  cases vs with
  |nil=>exact⟨hd,.refl _,[],trivial,rfl,λj hj=>by cases hj⟩
  |cons _ _=>exact hr.elim
 |c::cs,ck::ks,k,k1,xs,ids,[],h,hk,hr,hd=>hr.elim
 |c::cs,.p::ks,k,k1,xs,ids,v::vs,h,hk,hr,hd=>by
  have h':(k.plain c).bind (λx=>(mm k cs ks).bind λr=>some (r.1,x::r.2.1,r.2.2))=some (k1,xs,ids):=by
   cases c with
   |o id q=>cases q<;>exact h
   |p x=>exact h
   |n=>exact h
   |d=>exact h
  simp only[cU,bP,Prod.mk.injEq]at h'
  obtain⟨x,hx,⟨k2,ys,q0⟩,h2,rfl,rfl,rfl⟩:=h'
  obtain⟨g1,g2,is,g3,g4,g5⟩:=BO h2 hk hr.2 hd
  obtain⟨t,ht,eG⟩:=TH hk hx hr.1
  exact⟨g1,g2,none::is,⟨rfl,by rw[ht];exact eG,g3⟩,by simpa using g4,λj hj=>g5 j (by simpa using hj)⟩
 | .p x::cs,.s::ks,k,k1,xs,ids,v::vs,h,hk,hr,hd=>by
  simp only[mm,cU,bP,Prod.mk.injEq]at h
  obtain⟨⟨k2,ys,q0⟩,h2,rfl,rfl,rfl⟩:=h
  obtain⟨oR,r,se,mc⟩:=Wk.cf hd
  obtain⟨g1,g2,is,g3,g4,g5⟩:=BO h2 hk hr.2 oR
  obtain⟨t,ht,eG⟩:=hr.1
  simp only[List.map_cons,List.map_nil,Lf.cb ht,Prim.ev]at se
  split at se
  ·rename_i np
   cases se
   refine⟨g1,g2.trans (Wk.bX _ _ _),none::is,⟨rfl,?_,?_,g3⟩,by simpa using g4,λj hj=>g5 j (by simpa using hj)⟩
   ·rw[Lf.cb mc];exact eG
   ·rw[Lf.cb mc];exact np
  ·cases se
 | .n::cs,.o dp::ks,k,k1,xs,ids,v::vs,h,hk,hr,hd=>by
  simp only[mm,cU,bP,Prod.mk.injEq]at h
  obtain⟨⟨k2,ys,q0⟩,h2,rfl,rfl,rfl⟩:=h
  obtain⟨g1,g2,is,g3,g4,g5⟩:=BO h2 hk hr.2 hd
  exact⟨g1,g2,none::is,⟨hr.1,rfl,g3⟩,by simpa using g4,λj hj=>g5 j (by simpa using hj)⟩
 | .o id []::cs,.o dp::ks,k,k1,xs,ids,v::vs,h,hk,hr,hd=>by
  simp only[mm]at h
  split at h
  ·rename_i uZ x hx
   cases g_:(uZ==dp&& !Nat.beq (id%4) 2)with
   |false=>simp[g_]at h
   |true=>
    simp only[g_,cond_true,cU,bP,Prod.mk.injEq]at h
    simp only[bL,beq_iff_eq,Bool.not_eq_true']at g_
    obtain⟨g_,Bn⟩:=g_
    subst g_
    obtain⟨⟨k2,ys,q0⟩,h2,rfl,rfl,rfl⟩:=h
    obtain⟨g1,g2,is,g3,g4,g5⟩:=BO h2 hk hr.2 hd
    have eU:=hk id
    rw[hx]at eU
    obtain⟨t,ht,b8⟩:=eU
    obtain⟨p,hp,hv⟩:=hr.1
    simp only[mB,bP]at hp
    subst hp
    refine⟨g1,g2,some id::is,⟨hv,by rw[Lf.cb ht];exact b8,g3⟩,by simpa using g4,λj hj=>?_⟩
    rcases List.mem_cons.1 hj with hj|hj
    ·cases hj;intro e;rw[e]at Bn;cases Bn
    ·exact g5 j hj
  ·cases h
 | [],_::_,k,k1,xs,ids,vs,h,_,_,_=>by simp[mm]at h
 |c::_,[],k,k1,xs,ids,vs,h,_,_,_=>by simp[mm]at h
 | .p _::_,.o _::_,k,k1,xs,ids,_::_,h,_,_,_=>by simp[mm]at h
 | .n::_,.s::_,k,k1,xs,ids,_::_,h,_,_,_=>by simp[mm]at h
 | .d::_,.s::_,k,k1,xs,ids,_::_,h,_,_,_=>by simp[mm]at h
 | .d::_,.o _::_,k,k1,xs,ids,_::_,h,_,_,_=>by simp[mm]at h
 | .o _ _::_,.s::_,k,k1,xs,ids,_::_,h,_,_,_=>by simp[mm]at h
 | .o _ (_::_)::_,.o _::_,k,k1,xs,ids,_::_,h,_,_,_=>by simp[mm]at h
theorem BP:∀{cs:List Ce} {ks:List Ck} {k k1:Wk} {xs:List Lf} {ids:List Nat},mm k cs ks=some (k1,xs,ids)->k.fB k1
 | [],[],k,k1,xs,ids,h=>by
  simp only[mm,bP,Prod.mk.injEq]at h
  obtain⟨rfl,rfl,rfl⟩:=h
  exact .refl _
 |c::cs,.p::ks,k,k1,xs,ids,h=>by
  have h':(k.plain c).bind (λx=>(mm k cs ks).bind λr=>some (r.1,x::r.2.1,r.2.2))=some (k1,xs,ids):=by
   cases c with
   |o id q=>cases q<;>exact h
   |p x=>exact h
   |n=>exact h
   |d=>exact h
  simp only[cU,bP,Prod.mk.injEq]at h'
  obtain⟨x,hx,⟨k2,ys,q0⟩,h2,rfl,rfl,rfl⟩:=h'
  exact BP h2
 | .p x::cs,.s::ks,k,k1,xs,ids,h=>by
  simp only[mm,cU,bP,Prod.mk.injEq]at h
  obtain⟨⟨k2,ys,q0⟩,h2,rfl,rfl,rfl⟩:=h
  exact(BP h2).trans (Wk.bX _ _ _)
 | .n::cs,.o dp::ks,k,k1,xs,ids,h=>by
  simp only[mm,cU,bP,Prod.mk.injEq]at h
  obtain⟨⟨k2,ys,q0⟩,h2,rfl,rfl,rfl⟩:=h
  exact BP h2
 | .o id []::cs,.o dp::ks,k,k1,xs,ids,h=>by
  simp only[mm]at h
  split at h
  ·rename_i uZ x hx
   cases g_:(uZ==dp&& !Nat.beq (id%4) 2)with
   |false=>simp[g_]at h
   |true=>
    simp only[g_,cond_true,cU,bP,Prod.mk.injEq]at h
    obtain⟨⟨k2,ys,q0⟩,h2,rfl,rfl,rfl⟩:=h
    exact BP h2
  ·cases h
 | [],_::_,k,k1,xs,ids,h=>by simp[mm]at h
 |c::_,[],k,k1,xs,ids,h=>by simp[mm]at h
 | .p _::_,.o _::_,k,k1,xs,ids,h=>by simp[mm]at h
 | .n::_,.s::_,k,k1,xs,ids,h=>by simp[mm]at h
 | .d::_,.s::_,k,k1,xs,ids,h=>by simp[mm]at h
 | .d::_,.o _::_,k,k1,xs,ids,h=>by simp[mm]at h
 | .o _ _::_,.s::_,k,k1,xs,ids,h=>by simp[mm]at h
 | .o _ (_::_)::_,.o _::_,k,k1,xs,ids,h=>by simp[mm]at h
theorem KY:∀{vs:List SV} {rs:List (Bool×List Ck)} {k k1:Wk} {xs:List Lf} {ids:List Nat},l_ k vs rs=some (k1,xs,ids)->k.fB k1
 | [],[],k,k1,xs,ids,h=>by
  simp only[l_,bP,Prod.mk.injEq]at h
  obtain⟨rfl,rfl,rfl⟩:=h
  exact .refl _
 | .v ag cs::vs,(xb,ks)::rs,k,k1,xs,ids,h=>by
  simp only[l_]at h
  cases nZ:(ag==xb)with
  |false=>simp[nZ]at h
  |true=>
   simp only[nZ,cond_true,cU,bP,Prod.mk.injEq]at h
   obtain⟨⟨k2,ys,q0⟩,h2,⟨k3,zs,TK⟩,h3,rfl,rfl,rfl⟩:=h
   exact(KY h2).trans (BP h3)
 | [],_::_,k,k1,xs,ids,h=>by simp[l_]at h
 |v::_,[],k,k1,xs,ids,h=>by cases v<;>simp[l_]at h
 | .un::_,_::_,k,k1,xs,ids,h=>by simp[l_]at h
 | .pt _ _::_,_::_,k,k1,xs,ids,h=>by simp[l_]at h
 | .ep _ _ _ _ _::_,_::_,k,k1,xs,ids,h=>by simp[l_]at h
 | .fp _ _ _ _::_,_::_,k,k1,xs,ids,h=>by simp[l_]at h
 | .tp _::_,_::_,k,k1,xs,ids,h=>by simp[l_]at h
 | .cl _ _::_,_::_,k,k1,xs,ids,h=>by simp[l_]at h
 | .ob _ _::_,_::_,k,k1,xs,ids,h=>by simp[l_]at h
 | .fz _ _::_,_::_,k,k1,xs,ids,h=>by simp[l_]at h
 | .tk _ _::_,_::_,k,k1,xs,ids,h=>by simp[l_]at h
 | .fl _::_,_::_,k,k1,xs,ids,h=>by simp[l_]at h
 | .fr _::_,_::_,k,k1,xs,ids,h=>by simp[l_]at h
theorem TL:∀{vs:List SV} {rs:List (Bool×List Ck)} {k k1:Wk} {xs:List Lf} {ids:List Nat} {us:List Value},l_ k vs rs=some (k1,xs,ids)->(∀id,cS G w ρ id (k.get (.o id)))->dt G w ρ vs us->k1.bT S ρ->
  k.bT S ρ∧k.fB k1∧∃is,jy G w rs us (xs.map (Lf.ev ρ)) is∧is.filterMap id=ids∧∀j,some j∈is->j%4≠2
 | [],[],k,k1,xs,ids,us,h,hk,hr,hd=>by
  simp only[l_,bP,Prod.mk.injEq]at h
  obtain⟨rfl,rfl,rfl⟩:=h
  cases us with
  |nil=>exact⟨hd,.refl _,[],trivial,rfl,λj hj=>by cases hj⟩
  |cons _ _=>exact hr.elim
 | .v ag cs::vs,(xb,ks)::rs,k,k1,xs,ids,[],h,hk,hr,hd=>hr.elim
 | .v ag cs::vs,(xb,ks)::rs,k,k1,xs,ids,u::us,h,hk,hr,hd=>by
  simp only[l_]at h
  cases nZ:(ag==xb)with
  |false=>simp[nZ]at h
  |true=>
   simp only[nZ,cond_true,cU,bP,Prod.mk.injEq]at h
   simp only[beq_iff_eq]at nZ
   subst nZ
   obtain⟨⟨k2,ys,q0⟩,h2,⟨k3,zs,TK⟩,h3,rfl,rfl,rfl⟩:=h
   have h0:=hr.1
   have key:∀ws:List Value,bu G w ρ cs ws->(∀is,ci G w ks ws (zs.map (Lf.ev ρ)) is->Ss G w (ag,ks) u (zs.map (Lf.ev ρ)) is)->
     k.bT S ρ∧k.fB k3∧∃is,jy G w ((ag,ks)::rs) (u::us) ((zs++ys).map (Lf.ev ρ)) is∧is.filterMap id=TK++q0∧∀j,some j∈is->j%4≠2:=by
    intro ws hws ah'
    have ub:∀{k':Wk},k.fB k'->∀id,cS G w ρ id (k'.get (.o id)):=λhs id=>by rw[hs.get];exact hk id
    have pre:k.fB k2:=KY h2
    obtain⟨g1,g2,is,g3,g4,g5⟩:=BO h3 (ub pre) hws hd
    obtain⟨f1,f2,is2,f3,f4,f5⟩:=TL h2 hk hr.2 g1
    exact⟨f1,f2.trans g2,is++is2,⟨_,_,is,is2,List.map_append,rfl,ah' is g3,f3⟩,by rw[List.filterMap_append,g4,f4],λj hj=>(List.mem_append.1 hj).elim (g5 j) (f5 j)⟩
   cases ag with
   |true=>obtain⟨ws,rfl,hws⟩:=h0;exact key ws hws λis ho=>⟨ws,rfl,ho⟩
   |false=>obtain⟨c,rfl,hc,E1⟩:=h0;exact key [u] ⟨hc,trivial⟩ λis ho=>⟨ho,E1⟩
 | [],_::_,k,k1,xs,ids,us,h,_,_,_=>by simp[l_]at h
 |v::_,[],k,k1,xs,ids,us,h,_,_,_=>by cases v<;>simp[l_]at h
 | .un::_,_::_,k,k1,xs,ids,us,h,_,_,_=>by simp[l_]at h
 | .pt _ _::_,_::_,k,k1,xs,ids,us,h,_,_,_=>by simp[l_]at h
 | .ep _ _ _ _ _::_,_::_,k,k1,xs,ids,us,h,_,_,_=>by simp[l_]at h
 | .fp _ _ _ _::_,_::_,k,k1,xs,ids,us,h,_,_,_=>by simp[l_]at h
 | .tp _::_,_::_,k,k1,xs,ids,us,h,_,_,_=>by simp[l_]at h
 | .cl _ _::_,_::_,k,k1,xs,ids,us,h,_,_,_=>by simp[l_]at h
 | .ob _ _::_,_::_,k,k1,xs,ids,us,h,_,_,_=>by simp[l_]at h
 | .fz _ _::_,_::_,k,k1,xs,ids,us,h,_,_,_=>by simp[l_]at h
 | .tk _ _::_,_::_,k,k1,xs,ids,us,h,_,_,_=>by simp[l_]at h
 | .fl _::_,_::_,k,k1,xs,ids,us,h,_,_,_=>by simp[l_]at h
 | .fr _::_,_::_,k,k1,xs,ids,us,h,_,_,_=>by simp[l_]at h
end
section
variable {ρ:List T} {w:World} {S:Nat->aA} {P:Program} {cx:Cx} {R:Nat} {out:List T}
def Gh.IL(ω:Nat->Option Lb)(bl:Nat->Option Nat):Gh where
 ω:=ω
 β:=λi=>(bl i).getD 0
 H:=λ_ _=>.slice none 0 0
 hs:=λ_ _=>⟨_,_,_,rfl⟩
theorem KZ{nY:Nat->Option Lb}{bl:Nat->Option Nat}:∀{ps:List PS} {args:List Value} {ts:List T} {i a:Nat},yK nY w bl i ps args ts->(∀j t,ts[j]?=some t->ρ[a+j]?=some t)->
  (u_ a i ps).1=a+ts.length∧args.length=ps.length∧(∀n,(∃m,ps[n]?=some (.x m))->bl (i+n)≠none)∧
  ∀r v,(r,v)∈(u_ a i ps).2->(∃n c,r=.t 0 (i+n)∧n<ps.length∧args[n]?=some c∧cR (Gh.IL nY bl) w ρ v c∧∀j∈dI v,j<i+ps.length)∨
   (∃b,r=.x b∧b<i+ps.length∧gy (Gh.IL nY bl) w ρ b v∧dI v=[])
 | [],args,ts,i,a,h,nq=>by
  obtain⟨rfl,rfl⟩:=h
  exact⟨rfl,rfl,λn ⟨m,hm⟩=>by simp at hm,λr v hm=>by simp[u_]at hm⟩
 | .v ag n::ps,args,ts,i,a,h,nq=>by
  obtain⟨c,fD,vs,t1,t2,rfl,rfl,hl,nZ,hd,h⟩:=h
  obtain⟨g1,g2,g3,g4⟩:=KZ (i:=i+1) (a:=a+n) h (λj t hj=>by
   have:=nq (n+j) t (by rw[List.getElem?_append_right (by omega),hl];simpa using hj)
   rw[<-this];congr 1;omega)
  obtain⟨r1,r2⟩:=Fl (a:=a) (G:=Gh.IL nY bl) hl (hd.bw (Nat.le_refl _) λb _ hb=>⟨AY hb,rfl⟩) (λj t hj=>nq j t (by rw[List.getElem?_append_left (List.getElem?_eq_some_iff.1 hj).1];exact hj))
  refine⟨by simp only[u_,List.length_append];omega,by simp[g2],λn' ⟨m,hm⟩=>?_,λr v hm=>?_⟩
  ·cases n' with
   |zero=>simp at hm
   |succ n'=>have:=g3 n' ⟨m,by simpa using hm⟩;rwa[show i+1+n'=i+(n'+1) by omega]at this
  ·simp only[u_,List.mem_cons,Prod.mk.injEq]at hm
   simp only[List.length_cons]
   rcases hm with⟨rfl,rfl⟩|hm
   ·left
    refine⟨0,c,by simp,by omega,rfl,?_,λj hj=>by rw[show dI (.v ag (DP a n))=dZ (DP a n) from rfl,r2]at hj;cases hj⟩
    cases ag with
    |true=>exact⟨vs,nZ,r1⟩
    |false=>
     obtain⟨rfl,E1⟩:=nZ
     match h0:DP a n,r1 with
     | [x],r1=>exact⟨x,h0.symm▸h0,r1.1,E1⟩
   ·rcases g4 r v hm with⟨n',c',e1,e2,e3,e4,e5⟩|⟨b,e1,e2,e3,e4⟩
    ·exact .inl ⟨n'+1,c',by rw[e1];congr 1;omega,by omega,by simpa using e3,e4,λj hj=>by have:=e5 j hj;omega⟩
    ·exact .inr ⟨b,e1,by omega,e3,e4⟩
 | .x n::ps,args,ts,i,a,h,nq=>by
  obtain⟨c,fD,b,arr,elem,t1,t2,rfl,hc,hb,iE,hh,rfl,hl,hd,h⟩:=h
  obtain⟨g1,g2,g3,g4⟩:=KZ (i:=i+1) (a:=a+n) h (λj t hj=>by
   have:=nq (n+j) t (by rw[List.getElem?_append_right (by omega),hl];simpa using hj)
   rw[<-this];congr 1;omega)
  obtain⟨r1,r2⟩:=Fl (a:=a) (G:=Gh.IL nY bl) hl (hd.bw (Nat.le_refl _) λb _ hb=>⟨AY hb,rfl⟩) (λj t hj=>nq j t (by rw[List.getElem?_append_left (List.getElem?_eq_some_iff.1 hj).1];exact hj))
  have EU:(Gh.IL nY bl).β i=b:=by simp[Gh.IL,hb]
  refine⟨by simp only[u_,List.length_append];omega,by simp[g2],λn' ⟨m,hm⟩=>?_,λr v hm=>?_⟩
  ·cases n' with
   |zero=>rw[Nat.add_zero,hb];simp
   |succ n'=>have:=g3 n' ⟨m,by simpa using hm⟩;rwa[show i+1+n'=i+(n'+1) by omega]at this
  ·simp only[u_,List.mem_cons,Prod.mk.injEq]at hm
   simp only[List.length_cons]
   rcases hm with⟨rfl,rfl⟩|⟨rfl,rfl⟩|hm
   ·exact .inl ⟨0,c,by simp,by omega,rfl,by rw[cR,EU];exact hc,λj hj=>by simp[dI]at hj;omega⟩
   ·exact .inr ⟨i,rfl,by omega,⟨by rw[EU];exact iE,arr,elem,by rw[EU];exact hh,r1⟩,r2⟩
   ·rcases g4 r v hm with⟨n',c',e1,e2,e3,e4,e5⟩|⟨b,e1,e2,e3,e4⟩
    ·exact .inl ⟨n'+1,c',by rw[e1];congr 1;omega,by omega,by simpa using e3,e4,λj hj=>by have:=e5 j hj;omega⟩
    ·exact .inr ⟨b,e1,by omega,e3,e4⟩
theorem K1{G:Gh}{bl:Nat->Option Nat}{k:Wk}(hk:∀id,cS G w ρ id (k.get (.o id)))(hx:∀b,gy G w ρ b (k.get (.x b)))(sy:∀i b,bl i=some b->G.β i=b):
  ∀{ps:List PS} {i:Nat} {xs:List Lf},yn k i ps=some xs->(∀n,(∃m,ps[n]?=some (.x m))->bl (i+n)≠none)->iQ G w bl i ps (xs.map (Lf.ev ρ))
 | [],i,xs,h,_=>by simp[yn]at h;subst h;rfl
 | .v _ _::ps,i,xs,h,hn=>K1 (ps:=ps) (i:=i+1) hk hx sy h λn ⟨m,hm⟩=>by have:=hn (n+1) ⟨m,by simpa using hm⟩;rwa[show i+1+n=i+(n+1) by omega]
 | .x n::ps,i,xs,h,hn=>by
  simp only[yn]at h
  split at h
  ·rename_i ag cs kZ
   cases hb:Nat.beq cs.length n with
   |false=>simp[hb]at h
   |true=>
    simp only[hb,cond_true,cU,bP]at h
    obtain⟨x1,h1,x2,h2,rfl⟩:=h
    have qk:=hx i
    rw[kZ]at qk
    obtain⟨g1,arr,elem,g2,g3⟩:=qk
    obtain⟨f1,f2⟩:=TJ hk h1 g3
    cases hbi:bl i with
    |none=>exact absurd hbi (by have:=hn 0 ⟨n,rfl⟩;simpa using this)
    |some b=>
     have EU:=sy i b hbi
     rw[EU]at g1 g2
     exact⟨b,arr,elem,_,_,hbi,g1,g2,List.map_append,by rw[List.length_map,f2];exact ew hb,f1,
      K1 hk hx sy h2 λn ⟨m,hm⟩=>by have:=hn (n+1) ⟨m,by simpa using hm⟩;rwa[show i+1+n=i+(n+1) by omega]⟩
  ·cases h
theorem jy.len{G':Gh}{w':World}:∀{rs:List (Bool×List Ck)} {vs:List Value} {ts:List T} {is:List (Option Nat)},jy G' w' rs vs ts is->rs.length=vs.length
 | [],[],[],[],_=>rfl
 |r::rs,v::vs,ts,is,h=>by
  obtain⟨t1,t2,i1,i2,rfl,rfl,h1,h2⟩:=h
  simp[jy.len h2]
 | [],[],_::_,_,h=>h.elim
 | [],[],[],_::_,h=>h.elim
 | [],_::_,_,_,h=>h.elim
 |_::_,[],_,_,h=>h.elim
theorem TM{G':Gh}{w':World}{rs:List (Bool×List Ck)}{vs:List Value}{ts:List T}{is:List (Option Nat)}(h:jy G' w' rs vs ts is):Kr G' w' rs (nH vs) ts is:=by
 have hl:=h.len
 match rs,vs,h,hl with
 | [],[],h,_=>
  cases ts with
  |nil=>cases is with
   |nil=>exact⟨rfl,rfl⟩
   |cons _ _=>exact h.elim
  |cons _ _=>exact h.elim
 | [r],[v],h,_=>exact h
 |r::r'::rs,v::v'::vs,h,_=>
  refine⟨v::v'::vs,?_,h⟩
  unfold nH
  rw[dif_neg (by simp)]
theorem dt.ext{G:Gh}{e:List T}:∀{vs:List SV} {us:List Value},dt G w ρ vs us->dt G w (ρ++e) vs us
 | [],[],_=>trivial
 |_::_,_::_,h=>⟨h.1.ext,dt.ext h.2⟩
 | [],_::_,h=>h.elim
 |_::_,[],h=>h.elim
def Gh.gT(G:Gh):Gh:={G with ω:=G.q}
theorem Gh.nI(G:Gh):G.gT.q=G.q:=by
 funext b
 show qf (qf G.ω) b=qf G.ω b
 unfold qf
 cases hb:G.ω b with
 |none=>rfl
 |some l=>cases hq:qt l<;>simp[hq]
theorem aib{sg:nU}(h:ES sg=true)(hp:pV sg=true):∀r∈sg.rs,∀k∈r.2,k≠.o true:=by
 intro r hr k hk e
 subst e
 simp only[ES,hp,Bool.true_and,Bool.not_eq_true']at h
 have h1:=List.any_eq_false.1 h r hr
 exact absurd (List.any_eq_true.2 ⟨Ck.o true,hk,rfl⟩) h1
theorem ci.gT{G:Gh}:∀{ks:List Ck} {vs:List Value} {ts:List T} {is:List (Option Nat)},ci G w ks vs ts is->(∀k∈ks,k≠.o true)->(∀j,some j∈is->j%4≠2)->ci G.gT w ks vs ts is
 | [],[],[],[],_,_,_=>trivial
 | .s::ks,v::vs,t::ts,x::is,h,hk,h2=>⟨h.1,by rw[Gh.nI];exact h.2.1,h.2.2.1,ci.gT h.2.2.2 (λk hm=>hk k (by simp[hm])) λj hj=>h2 j (by simp[hj])⟩
 | .p::ks,v::vs,t::ts,x::is,h,hk,h2=>⟨h.1,by rw[Gh.nI];exact h.2.1,ci.gT h.2.2 (λk hm=>hk k (by simp[hm])) λj hj=>h2 j (by simp[hj])⟩
 | .o dp::ks,v::vs,t::ts,none::is,h,hk,h2=>⟨h.1,h.2.1,ci.gT h.2.2 (λk hm=>hk k (by simp[hm])) λj hj=>h2 j (by simp[hj])⟩
 | .o true::ks,v::vs,t::ts,some id::is,h,hk,h2=>absurd rfl (hk _ (by simp))
 | .o false::ks,v::vs,t::ts,some id::is,h,hk,h2=>
  ⟨h.1,h.2.1.ql (λc hc=>AZ hc (rX (h2 id (by simp)))) rfl (λb hb=>by rw[Gh.nI];exact hb),ci.gT h.2.2 (λk hm=>hk k (by simp[hm])) λj hj=>h2 j (by simp[hj])⟩
 | [],[],[],_::_,h,_,_=>h.elim
 | [],[],_::_,_,h,_,_=>h.elim
 | [],_::_,_,_,h,_,_=>h.elim
 |k::_,[],_,_,h,_,_=>by cases k<;>exact h.elim
 |k::_,_::_,[],_,h,_,_=>by cases k<;>exact h.elim
 |k::_,_::_,_::_,[],h,_,_=>by cases k<;>exact h.elim
theorem jy.gT{G:Gh}:∀{rs:List (Bool×List Ck)} {vs:List Value} {ts:List T} {is:List (Option Nat)},jy G w rs vs ts is->(∀r∈rs,∀k∈r.2,k≠.o true)->(∀j,some j∈is->j%4≠2)->jy G.gT w rs vs ts is
 | [],[],[],[],_,_,_=>trivial
 |(ag,ks)::rs,v::vs,ts,is,h,hk,h2=>by
  obtain⟨t1,t2,i1,i2,rfl,rfl,h1,h3⟩:=h
  refine⟨t1,t2,i1,i2,rfl,rfl,?_,jy.gT h3 (λr hr=>hk r (by simp[hr])) λj hj=>h2 j (by simp[hj])⟩
  have h20:∀j,some j∈i1->j%4≠2:=λj hj=>h2 j (by simp[hj])
  have h0:=hk (ag,ks) (by simp)
  cases ag with
  |true=>obtain⟨us,e,h3⟩:=h1;exact⟨us,e,h3.gT h0 h20⟩
  |false=>exact⟨h1.1.gT h0 h20,h1.2⟩
 | [],[],_::_,_,h,_,_=>h.elim
 | [],[],[],_::_,h,_,_=>h.elim
 | [],_::_,_,_,h,_,_=>h.elim
 |_::_,[],_,_,h,_,_=>h.elim
theorem iQ.gT{G:Gh}{bl:Nat->Option Nat}:∀{ps:List PS} {i:Nat} {ts:List T},iQ G w bl i ps ts->iQ G.gT w bl i ps ts
 | [],i,ts,h=>h
 | .v _ _::ps,i,ts,h=>iQ.gT (ps:=ps) (i:=i+1) h
 | .x n::ps,i,ts,h=>by
  obtain⟨b,arr,elem,t1,t2,h1,h2,h3,h4,h5,h6,h7⟩:=h
  exact⟨b,arr,elem,t1,t2,h1,AZ h2 rfl,h3,h4,h5,by rw[Gh.nI];exact h6,iQ.gT h7⟩
theorem TN{n df:Nat}{fn:Func}{sg:nU}{pl:PL}(E:Env P cx S)(xr:P.follows .mixedOrders=true)(hf:P.funcs[df]?=some fn)(h:AX cx n df fn sg=some pl):
  Fi P sg df λts=>pl.den S R [] ts:=by
 intro w nY bl args ts outs hF cn jH
 unfold AX at h
 simp only[cU]at h
 obtain⟨c,hc,h⟩:=h
 cases hb:(xc fn.ntmps c&&Nat.ble sg.ps.length fn.ntmps&&ES sg)with
 |false=>simp[hb]at h
 |true=>
  simp only[hb,cond_true]at h
  simp only[bL]at hb
  obtain⟨hb,aic⟩:=hb
  have pM:=Nat.le_of_ble_eq_true hb.2
  obtain⟨g1,g2,g3,g4⟩:=KZ (ρ:=ts) (i:=0) (a:=0) jH (λj t hj=>by rw[Nat.zero_add];exact hj)
  simp only[Nat.zero_add]at g1 g3 g4
  have rE:∀r,(u_ 0 0 sg.ps).2.get r=.un∨(r,(u_ 0 0 sg.ps).2.get r)∈(u_ 0 0 sg.ps).2:=by
   intro r
   rw[St.tV]
   cases hl:(u_ 0 0 sg.ps).2.look r with
   |none=>exact .inl rfl
   |some v=>exact .inr (Fj hl)
  refine calls_of_wp hf hc ?_
  have iH:(args.toArray++Array.replicate (fn.ntmps-args.toArray.size) undef:Array Value).size=fn.ntmps:=by simp;omega
  have oq:Rel (λi=>i<sg.ps.length+1) ⟨w,nY,bl⟩ 0 (λ_ _=>undef) (u_ 0 0 sg.ps).2 ts (Gh.IL nY bl) {tmps:=args.toArray++Array.replicate (fn.ntmps-args.toArray.size) undef,defers:=[]} w:=by
   refine⟨λe m he=>?_,λb=>?_,λi=>?_,λr i hi=>?_,λi hi=>?_,λb l hb=>?_,rfl,⟨rfl,rfl,rfl,Nat.le_refl _,λb _ hb=>⟨hb,rfl⟩,λb hb=>⟨hb,rfl⟩,cn.gl⟩,λi b hb=>⟨by have:=(cn.bl i b hb).1;omega,by show(bl i).getD 0=b;rw[show bl i=some b from hb];rfl⟩⟩
   ·obtain rfl:e=0:=by omega
    rcases rE (.t 0 m)with hu|hm
    ·rw[hu];trivial
    ·rcases g4 _ _ hm with⟨k,c',e1,e2,e3,e4,_⟩|⟨b,e1,_⟩
     ·cases e1
      simp only[oP,if_true]
      rw[Array.getD_eq_getD_getElem?,Array.getElem?_append_left (by simp;omega),List.getElem?_toArray,e3]
      exact e4
     ·cases e1
   ·rcases rE (.x b)with hu|hm
    ·rw[hu];trivial
    ·rcases g4 _ _ hm with⟨k,c',e1,_⟩|⟨b',e1,_,e2,_⟩
     ·cases e1
     ·cases e1;exact e2
   ·rcases rE (.o i)with hu|hm
    ·rw[hu];trivial
    ·rcases g4 _ _ hm with⟨k,c',e1,_⟩|⟨b',e1,_⟩<;>cases e1
   ·rcases rE r with hu|hm
    ·rw[hu]at hi;simp[dI]at hi
    ·rcases g4 _ _ hm with⟨k,c',_,_,_,_,e5⟩|⟨b',_,_,_,e4⟩
     ·have:=e5 i hi;omega
     ·rw[e4]at hi;cases hi
   ·rcases hi with hi|hi
    ·rcases rE (.x i)with hu|hm
     ·exact absurd hu hi
     ·rcases g4 _ _ hm with⟨k,c',e1,_⟩|⟨b',e1,e2,_⟩
      ·cases e1
      ·cases e1;omega
    ·rcases rE (.o i)with hu|hm
     ·exact absurd hu hi
     ·rcases g4 _ _ hm with⟨k,c',e1,_⟩|⟨b',e1,_⟩<;>cases e1
   ·obtain⟨q1,q2⟩:=cn.iP b l hb
    refine⟨?_,q1⟩
    rcases q2 with rfl|⟨i,rfl,hi⟩
    ·show 0<sg.ps.length+1;omega
    ·have:=(cn.bl i b hi).1;show i<_;omega
  refine TC (f:=⟨0,λ_ _=>undef,fn.ntmps⟩) (R:=R) (out:=outs) (B:=⟨w,nY,bl⟩) E (TG E xr n) xr c 0 0 _ ⟨(u_ 0 0 sg.ps).1,sg.ps.length+1⟩ [] _ pl _ w ⟨[],ts⟩ _ hb.1 h
   ⟨[],ts,Gh.IL nY bl,hF,rfl,⟨[],rfl⟩,⟨[],by simp⟩,g1.symm,λn b hn=>by simp[fact]at hn,oq,iH,trivial⟩ λe=>?_
  have fin:∀(qM:Nat) (s':St) (iM:Ct) (jU:kl) (p':PL) (a2:Act) (w2:World),JF cx fn sg qM s' iM jU=some p'->At S R outs ⟨w,nY,bl⟩ ⟨0,λ_ _=>undef,fn.ntmps⟩ ⟨[],ts⟩ XT p' qM s' iM jU a2 w2->
    a2.defers=[]∧∃v,(Go.results fn a2.tmps).run P w2=.ok v w2∧∃v' G is o1 o2,Ending.returned v=.returned v'∧po sg w nY bl outs v' w2 G is o1 o2:=by
   rintro qM s' iM jU p' a2 w2 hk ⟨K2,FD,G2,d1,d2,d3,d4,d5,d6,d7,d8,_⟩
   unfold JF at hk
   rw[cU]at hk
   obtain⟨vs,pg,hk⟩:=hk
   obtain⟨us,u1,u2,u3⟩:=FE E.ez d7 pg
   refine⟨d7.dn,nH us,TE u1,?_⟩
   simp only at hk
   split at hk
   ·cases hk;cases d1
   ·rename_i k xs ids Kg
    split at hk
    ·cases hk;cases d1
    ·rename_i ys Sf
     cases KA:vL ids with
     |false=>rw[KA]at hk;simp only[cond_false,bP]at hk;subst hk;cases d1
     |true=>
      rw[KA]at hk
      simp only[cond_true]at hk
      cases TO:(Nat.beq k.ct.a (iM.a+qF k.is)&&rV k.ct.a k.is)with
      |false=>rw[TO]at hk;cases hk
      |true=>
       rw[TO]at hk
       simp only[cond_true,bP]at hk
       subst hk
       simp only[bL]at TO
       have hca:=ew TO.1
       obtain⟨tz,w1,w3,w4⟩:=Fp (S:=S) (R:=R) (K:=K2) (out:=outs) (ρ:=FD) (by rw[d5,<-hca];exact TO.2) d1
       have TP:k.bT S (FD++tz):=by
        have:=w4 []
        rw[List.append_nil,d5,<-hca]at this
        exact this
       obtain⟨G3,d9,TQ⟩:=(d7.ext (e:=tz)).BM (l:=ER vs sg.rs++AW s' 0 sg.ps)
       have TR:dt G3 w2 (FD++tz) vs us:=dt.bw (TQ.bw w2) (dt.ext u2)
       have hg:∀r,k.get r=(tR s' (ER vs sg.rs++AW s' 0 sg.ps)).get r:=λr=>(KY Kg).get r
       obtain⟨_,_,is,v3,v4,v5⟩:=TL Kg (λid=>d9.ob id) TR TP
       simp only[PL.den,bP,List.map_append]at w3
       have K3:=K1 (k:=k) (λid=>by rw[hg];exact d9.ob id) (λb=>by rw[hg];exact d9.bx b) (λi b hb=>(d9.bt i b hb).2) Sf λn hn=>by rw[Nat.zero_add];exact g3 n hn
       have TS:(is.filterMap id).Nodup:=by rw[v4];exact Kv KA
       cases hp:pV sg with
       |false=>exact⟨nH us,G3,is,_,_,rfl,⟨⟨d9.base.os,d9.base.tape,d9.base.output⟩,d9.base.size,d9.base.free,d9.base.DR,λb l hb=>(d9.iP b l hb).2,λhq=>absurd (hp.symm.trans hq) (by simp),w3.symm,TS,TM v3,K3⟩⟩
       |true=>
        refine⟨nH us,G3.gT,is,_,_,rfl,⟨⟨d9.base.os,d9.base.tape,d9.base.output⟩,d9.base.size,λb hb h0=>⟨AY (d9.base.free b hb h0).1,(d9.base.free b hb h0).2⟩,λb hb=>⟨AZ (d9.base.DR b hb).1 rfl,(d9.base.DR b hb).2⟩,
         λb l hb=>(d9.iP b l (JG hb)).2,λ_ b hb=>by rw[Gh.nI]at hb;exact hb,w3.symm,TS,TM (v3.gT (aib aic hp) v5),K3.gT⟩⟩
  cases e with
  |normal=>intro qM s' iM jU p' a2 w2 dh lP;exact fin qM s' iM jU p' a2 w2 dh lP
  |ret=>intro qM s' iM jU p' a2 w2 dh lP;exact fin qM s' iM jU p' a2 w2 dh lP
  |exit id=>intro qM s' iM jU p' a2 w2 dh lP;cases dh
end
def pick(l:List (Nat×aA))(g:Nat):aA:=
 match l with
 | []=>λ_=>none
 |e::l=>bif Nat.beq e.1 g then e.2 else pick l g
def Q(p:Prim)(l:List Lf)(r:PL):PL:=.ins (.pr p l) r
def I(n:Int):Lf:=.k (.int .i64 n)
instance Lfn {n:Nat}:OfNat Lf n:=⟨.a n⟩
def Fs(p:PL)(l:List (Nat×aA)):aA:=λts=>p.den (pick l) rounds [] ts
inductive Ty where
 |i (k:IntKind)
 |b
 |s
 |sl (fs:List Ty)
mutual
def WT:Ty->T->Prop
 | .i k,t=>∃n,t=.c (.int k n)∧(Lit.int k n).wf=true
 | .b,t=>∃b,t=.c (.bool b)
 | .s,t=>∃s:ByteArray,t=.c (.string s)∧s.size<=maxLen
 | .sl fs,t=>∃xs,t=.l xs∧xs.length<=maxLen∧∀r∈xs,je fs r
def je:List Ty->List T->Prop
 | [],ts=>ts=[]
 |f::fs,ts=>∃t pP,ts=t::pP∧WT f t∧je fs pP
end
def TT:List Ty->List T->Prop
 | [],ts=>ts=[]
 |f::fs,ts=>∃t pP,ts=t::pP∧(match f with
  | .i k=>∃n,t=.c (.int k n)∧(Lit.int k n).wf=true
  | .b=>∃b,t=.c (.bool b)
  | .s=>∃s:ByteArray,t=.c (.string s)∧s.size<=maxLen
  | .sl gs=>WT (.sl gs) t)∧TT fs pP
theorem K4:∀{fs:List Ty} {ts:List T},je fs ts->TT fs ts
 | [],ts,h=>by unfold je at h;exact h
 |f::fs,ts,h=>by
  unfold je at h
  obtain⟨t,pP,rfl,h1,h2⟩:=h
  refine⟨t,pP,rfl,?_,K4 h2⟩
  cases f with
  |i k=>unfold WT at h1;exact h1
  |b=>unfold WT at h1;exact h1
  |s=>unfold WT at h1;exact h1
  |sl gs=>exact h1
theorem je.append:∀{fs gs:List Ty} {ts us:List T},je fs ts->je gs us->je (fs++gs) (ts++us)
 | [],gs,ts,us,h,h'=>by
  unfold je at h
  subst h
  exact h'
 |f::fs,gs,ts,us,h,h'=>by
  unfold je at h
  obtain⟨t,pP,rfl,h1,h2⟩:=h
  show je (f::(fs++gs)) (t::(pP++us))
  unfold je
  exact⟨t,_,rfl,h1,h2.append h'⟩
theorem je.length:∀{fs:List Ty} {ts:List T},je fs ts->ts.length=fs.length
 | [],ts,h=>by
  unfold je at h
  subst h
  rfl
 |f::fs,ts,h=>by
  unfold je at h
  obtain⟨t,pP,rfl,h1,h2⟩:=h
  simp[h2.length]
mutual
def bulk:T->Nat
 | .c (.string s)=>s.size
 | .c _=>0
 | .l xs=>mG xs
def xy:List T->Nat
 | []=>0
 |t::ts=>bulk t+xy ts
def mG:List (List T)->Nat
 | []=>0
 |r::rs=>1+(xy r+mG rs)
end
theorem TU:∀(xs:List (List T)),xs.length<=mG xs
 | []=>by simp[mG]
 |r::rs=>by have:=TU rs;simp[mG];omega
theorem TV:∀{xs:List (List T)} {i:Nat} {r:List T},xs[i]?=some r->xy r+1<=mG xs
 | [],_,_,h=>by simp at h
 |r'::rs,0,r,h=>by simp at h;subst h;simp[mG];omega
 |r'::rs,i+1,r,h=>by
  have:=TV (xs:=rs) (i:=i) (r:=r) (by simpa using h)
  simp[mG];omega
theorem TW:∀{xs:List (List T)} {i:Nat} {r:List T},xs[i]?=some r->mG (xs.take (i+1))=mG (xs.take i)+(xy r+1)
 | [],_,_,h=>by simp at h
 |r'::rs,0,r,h=>by simp at h;subst h;simp[mG];omega
 |r'::rs,i+1,r,h=>by
  have:=TW (xs:=rs) (i:=i) (r:=r) (by simpa using h)
  simp only[List.take_succ_cons,mG,this];omega
theorem aid(xs ys:List (List T)):mG (xs++ys)=mG xs+mG ys:=by
 induction xs with
 |nil=>simp[mG]
 |cons r rs ih=>simp[mG,ih];omega
theorem BQ(xs:List (List T)):bulk (.l xs)=mG xs:=by simp only[bulk]
theorem TX(k:IntKind)(n:Int):bulk (.c (.int k n))=0:=by simp only[bulk]
theorem TY(b:Bool):bulk (.c (.bool b))=0:=by simp only[bulk]
theorem BR(t:T)(ts:List T):xy (t::ts)=bulk t+xy ts:=by simp only[xy]
theorem gN{α β:Type}(a:α)(f:α->Option β):(some a).bind f=f a:=rfl
theorem yS{n:Int}(h:-9223372036854775808<=n)(h':n<9223372036854775808):IntKind.i64.wrap n=n:=by
 simp[IntKind.wrap,IntKind.bits,IntKind.signed]
 omega
theorem FI(xs:List (List T)):Prim.ev .len [.l xs]=some (.c (.int .i64 xs.length)):=rfl
theorem TZ(s:ByteArray):Prim.ev .lens [.c (.string s)]=some (.c (.int .i64 s.size)):=rfl
theorem T0(k:IntKind)(n:Int):Prim.ev .rP [.c (.int k n)]=some (.c (.int k n)):=rfl
theorem T1(b:Bool):Prim.ev .rP [.c (.bool b)]=some (.c (.bool b)):=rfl
theorem T2(s:ByteArray):Prim.ev .rP [.c (.string s)]=some (.c (.string s)):=rfl
theorem FJ(k:IntKind)(a b:Int):Prim.ev (.bin .lss) [.c (.int k a),.c (.int k b)]=some (.c (.bool (decide (a<b)))):=by simp[Prim.ev,T.val,jS]
theorem T3(k:IntKind)(a b:Int):Prim.ev (.bin .leq) [.c (.int k a),.c (.int k b)]=some (.c (.bool (decide (a<=b)))):=by simp[Prim.ev,T.val,jS]
theorem T4(k:IntKind)(a b:Int):Prim.ev (.bin .gtr) [.c (.int k a),.c (.int k b)]=some (.c (.bool (decide (a>b)))):=by simp[Prim.ev,T.val,jS]
theorem T5(k:IntKind)(a b:Int):Prim.ev (.bin .geq) [.c (.int k a),.c (.int k b)]=some (.c (.bool (decide (a>=b)))):=by simp[Prim.ev,T.val,jS]
theorem K5(k:IntKind)(a b:Int):Prim.ev (.bin .eql) [.c (.int k a),.c (.int k b)]=some (.c (.bool (a==b))):=by simp[Prim.ev,T.val,jS]
theorem T6(k:IntKind)(a b:Int):Prim.ev (.bin .neq) [.c (.int k a),.c (.int k b)]=some (.c (.bool (a !=b))):=by simp[Prim.ev,T.val,jS]
theorem uu(k:IntKind)(a b:Int):Prim.ev (.bin .add) [.c (.int k a),.c (.int k b)]=some (.c (.int k (k.wrap (a+b)))):=by simp[Prim.ev,T.val,jS]
theorem T7(k:IntKind)(a b:Int):Prim.ev (.bin .sub) [.c (.int k a),.c (.int k b)]=some (.c (.int k (k.wrap (a-b)))):=by simp[Prim.ev,T.val,jS]
theorem K6(k:IntKind)(a b:Int):Prim.ev (.bin .mul) [.c (.int k a),.c (.int k b)]=some (.c (.int k (k.wrap (a*b)))):=by simp[Prim.ev,T.val,jS]
theorem T8(a b:ByteArray):Prim.ev (.bin .eql) [.c (.string a),.c (.string b)]=some (.c (.bool (a.toList==b.toList))):=by simp[Prim.ev,T.val,jS]
theorem T9(a b:ByteArray):Prim.ev (.bin .neq) [.c (.string a),.c (.string b)]=some (.c (.bool !(a.toList==b.toList))):=by simp[Prim.ev,T.val,jS]
theorem T_(a b:Bool):Prim.ev (.bb .neq) [.c (.bool a),.c (.bool b)]=some (.c (.bool (a !=b))):=by cases a<;>cases b<;>rfl
theorem T'(a b:Bool):Prim.ev (.bb .eql) [.c (.bool a),.c (.bool b)]=some (.c (.bool (a==b))):=by cases a<;>cases b<;>rfl
theorem Ua(a:Bool):Prim.ev (.un .not) [.c (.bool a)]=some (.c (.bool !a)):=by cases a<;>rfl
theorem FK{xs:List (List T)}{i:Nat}{r:List T}{k:IntKind}(h:xs[i]?=some r):uY (.l xs) (.c (.int k (i:Int)))=some r:=by
 simp[uY,T.rows,T.int,h]
theorem Ub{xs:List (List T)}{i:Nat}{r:List T}{k:IntKind}(h:xs[i]?=some r):Prim.ev .lk [.l xs,.c (.int k (i:Int))]=some (.c (.bool true)):=by
 simp[Prim.ev,FK h]
theorem Uc{sc:Bool}{xs:List (List T)}{i w off n:Nat}{r vs:List T}{k:IntKind}(h:xs[i]?=some r)(hw:r.length=w)(ho:off+n<=w)(hv:vs.length=n)(hs:(!sc||vs.all eA)=true):
  Prim.ev (.put sc w off n) (.l xs:: .c (.int k (i:Int))::vs)=some (.l (setRow xs i off vs)):=by
 simp only[Prim.ev,FK h,hw,ho,hv,hs,T.rows,T.int,Option.bind_some,if_true,Int.toNat_natCast]
theorem aie{k k':IntKind}{n:Nat}{ts:List T}(h:n<uX):Prim.ev .mk (.c (.int k (n:Int)):: .c (.int k' (n:Int))::ts)=some (.l (List.replicate n ts)):=by
 unfold uX at h
 simp[Prim.ev,uX,show(n:Int)<4294967296 by omega]
theorem aif{S:Nat->aA}{R:Nat}{K:List aA}{ρ:List T}(xs:List Lf):PL.den S R K ρ (.ret xs)=some (xs.map (Lf.ev ρ)):=by simp only[PL.den]
theorem wE{S:Nat->aA}{R:Nat}{K:List aA}{ρ:List T}(p:Prim)(xs:List Lf)(k:PL):PL.den S R K ρ (.ins (.pr p xs) k)=(p.ev (xs.map (Lf.ev ρ))).bind λt=>k.den S R K (ρ++[t]):=by simp only[PL.den]
theorem aih{S:Nat->aA}{R:Nat}{K:List aA}{ρ:List T}(g:Nat)(xs:List Lf)(m:Nat)(k:PL):PL.den S R K ρ (.ins (.cl g xs m) k)=(S g (xs.map (Lf.ev ρ))).bind λts=>k.den S R K (ρ++rS ts 0 m):=by simp only[PL.den]
def ax(t:T)(x y:Option (List T)):Option (List T):=match t with
 | .c (.bool b)=>bif b then x else y
 |_=>none
theorem K7(b:Bool)(x y:Option (List T)):ax (.c (.bool b)) x y=bif b then x else y:=rfl
theorem FL{S:Nat->aA}{R:Nat}{K:List aA}{ρ:List T}(c:Nat)(x y:PL):PL.den S R K ρ (.ite c x y)=ax (ρ.getD c T.bQ) (x.den S R K ρ) (y.den S R K ρ):=by
 simp only[PL.den,ax]
 generalize ρ.getD c T.bQ=t
 cases t with
 |c v=>cases v<;>rfl
 |l xs=>rfl
theorem aii{S:Nat->aA}{R:Nat}{K:List aA}{ρ:List T}(xs:List Lf)(b:PL):PL.den S R K ρ (.loop xs b)=iter (λself ts=>b.den S R (self::K) (ρ++ts)) R (xs.map (Lf.ev ρ)):=by simp only[PL.den]
theorem Ud{S:Nat->aA}{R:Nat}{f:aA}{K:List aA}{ρ:List T}(xs:List Lf):PL.den S R (f::K) ρ (.go 0 xs)=f (xs.map (Lf.ev ρ)):=by simp[PL.den]
theorem Ue{S:Nat->aA}{R j:Nat}{f:aA}{K:List aA}{ρ:List T}(xs:List Lf):PL.den S R (f::K) ρ (.go (j+1) xs)=PL.den S R K ρ (.go j xs):=by simp[PL.den]
theorem wF(ρ:List T)(v:Value):Lf.ev ρ (.k v)=.c v:=rfl
theorem aij(ρ:List T):Lf.ev ρ .e=.l []:=rfl
theorem lA(ρ:List T)(n:Nat):Lf.ev ρ (.a n)=ρ.getD n T.bQ:=rfl
set_option linter.unusedSimpArgs false
def big:Nat:=1048576
theorem je.one{f:Ty}{ts:List T}(h:je [f] ts):∃t,ts=[t]∧WT f t:=by
 unfold je at h
 obtain⟨t,pP,rfl,h1,h2⟩:=h
 unfold je at h2
 subst h2
 exact⟨t,rfl,h1⟩
theorem ail{α:Type}{xs:List α}{i:Nat}{r:α}(h:xs[i]?=some r):r∈xs:=List.mem_of_getElem? h
theorem aim{α:Type}{xs:List α}{i:Nat}(h:i<xs.length):∃r,xs[i]?=some r:=⟨xs[i],List.getElem?_eq_getElem h⟩
def ain:Nat->Nat->List Lf
 |_,0=>[]
 |b,n+1=>.a b::ain (b+1) n
theorem BJ{ρ B:List T}{n:Nat}(h:n<ρ.length):Lf.ev (ρ++B) (.a n)=Lf.ev ρ (.a n):=by
 simp[Lf.ev,List.getD,List.getElem?_append_left h]
set_option linter.unusedSimpArgs false
theorem aio{α:Type}{xs:List α}{i:Nat}{r:α}(h:xs[i]?=some r):xs.take (i+1)=xs.take i++[r]:=by
 rw[List.take_add_one,h];rfl
set_option linter.unusedSimpArgs false
theorem aip{α β:Type}{F:(α->Option β)->α->Option β}{n:Nat}(Inv:Nat->α->Prop){Q:Option β->Prop}
  (step:∀i x,i<n->Inv i x->∀s,(∃x',Inv (i+1) x'∧F s x=s x')∨Q (F s x))(fin:∀x,Inv n x->∀s,Q (F s x)){x:α}(hx:Inv 0 x){R:Nat}(hR:n<R):Q (iter F R x):=by
 have:∀d i x,i+d=n->Inv i x->∀R,d<R->Q (iter F R x):=by
  intro d
  induction d with
  |zero=>
   intro i x hi hx R hR
   cases R with
   |zero=>omega
   |succ R=>rw[Nat.add_zero]at hi;subst hi;exact fin x hx _
  |succ d ih=>
   intro i x hi hx R hR
   cases R with
   |zero=>omega
   |succ R=>
    unfold iter
    rcases step i x (by omega) hx (iter F R)with⟨x',h1,h2⟩|h
    ·rw[h2];exact ih (i+1) x' (by omega) h1 R (by omega)
    ·exact h
 exact this n 0 x (by omega) hx R hR
def ayr(o o':Option (List T)):Prop:=∃b,o=some [.c (.bool b)]∧o'=some [.c (.bool b)]
theorem aiq(a b c d:Int):Prim.ev (.eqs [1,1]) [.c (.int .i64 a),.c (.int .i64 b),.c (.int .i64 c),.c (.int .i64 d)]=some (.c (.bool (a==c&&(b==d)))):=by
 simp[Prim.ev,xa,Qd]
set_option linter.unusedSimpArgs false
def gU(g:Nat->List T->Nat×List T):Nat->List (List T)->Nat×List (List T)
 |n,[]=>(n,[])
 |n,r::rs=>((gU g (g n r).1 rs).1,(g n r).2::(gU g (g n r).1 rs).2)
mutual
def qo:Ty->Nat->T->Nat×T
 | .i k,n,_=>(n+1,.c (.int k (n:Int)))
 | .b,n,_=>(n+1,.c (.bool (n%3==0)))
 | .s,n,t=>(n,t)
 | .sl fs,n,t=>match t with
  | .l xs=>((gU (ic fs) n xs).1,.l (gU (ic fs) n xs).2)
  |t=>(n,t)
def ic:List Ty->Nat->List T->Nat×List T
 | [],n,_=>(n,[])
 |f::fs,n,ts=>match ts with
  |t::ts=>((ic fs (qo f n t).1 ts).1,(qo f n t).2::(ic fs (qo f n t).1 ts).2)
  | []=>(n,[])
end
theorem FM(n:Nat)(ts:List T):ic [] n ts=(n,[]):=by simp only[ic]
theorem FN(f:Ty)(fs:List Ty)(n:Nat)(t:T)(ts:List T):ic (f::fs) n (t::ts)=((ic fs (qo f n t).1 ts).1,(qo f n t).2::(ic fs (qo f n t).1 ts).2):=by simp only[ic]
theorem K8(k:IntKind)(n:Nat)(t:T):qo (.i k) n t=(n+1,.c (.int k (n:Int))):=by simp only[qo]
theorem K9(n:Nat)(t:T):qo .b n t=(n+1,.c (.bool (n%3==0))):=by simp only[qo]
theorem K_(fs:List Ty)(n:Nat)(xs:List (List T)):qo (.sl fs) n (.l xs)=((gU (ic fs) n xs).1,.l (gU (ic fs) n xs).2):=by simp only[qo]
theorem Uf{g:Nat->List T->Nat×List T}:∀(xs:List (List T)) (n:Nat) (r:List T),gU g n (xs++[r])=((g (gU g n xs).1 r).1,(gU g n xs).2++[(g (gU g n xs).1 r).2])
 | [],n,r=>rfl
 |x::xs,n,r=>by
  show((gU g (g n x).1 (xs++[r])).1,(g n x).2::(gU g (g n x).1 (xs++[r])).2)=_
  rw[Uf xs]
  rfl
theorem FO{g:Nat->List T->Nat×List T}:∀(xs:List (List T)) (n:Nat),(gU g n xs).2.length=xs.length
 | [],n=>rfl
 |x::xs,n=>by simp[gU,FO xs]
theorem air{g:Nat->List T->Nat×List T}{xs:List (List T)}{i:Nat}{r:List T}(h:xs[i]?=some r)(n:Nat):gU g n (xs.take (i+1))=((g (gU g n (xs.take i)).1 r).1,(gU g n (xs.take i)).2++[(g (gU g n (xs.take i)).1 r).2]):=by
 rw[aio h,Uf]
mutual
def pu:Ty->Bool
 | .i .i64=>true
 | .i _=>false
 | .b=>true
 | .s=>false
 | .sl fs=>Nat.ble fs.length 64&&pw fs
def pw:List Ty->Bool
 | []=>true
 |f::fs=>pu f&&pw fs
end
theorem La{f:Ty}{fs:List Ty}(h:pw (f::fs)=true):pu f=true∧pw fs=true:=by
 unfold pw at h
 simpa using h
theorem BS{fs:List Ty}(h:pu (.sl fs)=true):fs.length<=64∧pw fs=true:=by
 unfold pu at h
 simp only[bL]at h
 exact⟨Nat.le_of_ble_eq_true h.1,h.2⟩
theorem Ug{g:Nat->List T->Nat×List T}{xs:List (List T)}(hg:∀n,∀r∈xs,n<=(g n r).1∧(g n r).1<=n+64*(1+xy r)):∀(n:Nat),n<=(gU g n xs).1∧(gU g n xs).1<=n+64*mG xs:=by
 induction xs with
 |nil=>intro n;simp[gU,mG]
 |cons x xs ih=>
  intro n
  have h1:=hg n x (.head _)
  have h2:=ih (λn r hr=>hg n r (.tail _ hr)) (g n x).1
  simp only[gU,mG]
  omega
mutual
theorem Lc:∀(f:Ty) (n:Nat) (t:T),pu f=true->WT f t->n<=(qo f n t).1∧(qo f n t).1<=n+1+64*bulk t
 | .i k,n,t,_,_=>by simp only[K8];omega
 | .b,n,t,_,_=>by simp only[K9];omega
 | .s,n,t,h,_=>by simp[pu]at h
 | .sl fs,n,t,h,ht=>by
  unfold WT at ht
  obtain⟨xs,rfl,_,hx⟩:=ht
  have hm:=BS h
  rw[K_,BQ]
  have:=Ug (g:=ic fs) (xs:=xs) (λn r hr=>by
   have:=FP fs n r hm.2 (hx r hr)
   omega) n
  simp only
  omega
theorem FP:∀(fs:List Ty) (n:Nat) (ts:List T),pw fs=true->je fs ts->n<=(ic fs n ts).1∧(ic fs n ts).1<=n+fs.length+64*xy ts
 | [],n,ts,_,_=>by simp only[FM,List.length_nil];omega
 |f::fs,n,ts,h,ht=>by
  unfold je at ht
  obtain⟨t,pP,rfl,h1,h2⟩:=ht
  have hm:=La h
  have g1:=Lc f n t hm.1 h1
  have g2:=FP fs (qo f n t).1 pP hm.2 h2
  rw[FN,BR]
  simp only[List.length_cons]
  omega
end
mutual
theorem ais:∀(f:Ty) (n:Nat) (t:T),pu f=true->WT f t->n+1+64*bulk t<4611686018427387904->WT f (qo f n t).2∧bulk (qo f n t).2=bulk t
 | .i k,n,t,hk,ht,hn=>by
  unfold WT at ht
  obtain⟨m,rfl,_⟩:=ht
  rw[K8,TX,TX]
  refine⟨?_,rfl⟩
  unfold WT
  cases k with
  |i64=>exact⟨n,rfl,by simp[Lit.wf,IntKind.min,IntKind.max,IntKind.signed,IntKind.bits];omega⟩
  |_=>simp[pu]at hk
 | .b,n,t,_,ht,_=>by
  unfold WT at ht
  obtain⟨m,rfl⟩:=ht
  rw[K9,TY,TY]
  refine⟨?_,rfl⟩
  unfold WT
  exact⟨_,rfl⟩
 | .s,n,t,h,_,_=>by simp[pu]at h
 | .sl fs,n,t,h,ht,hn=>by
  unfold WT at ht
  obtain⟨xs,rfl,hl,hx⟩:=ht
  have hm:=BS h
  rw[K_,BQ,BQ]
  rw[BQ]at hn
  have:∀(xs:List (List T)) (n:Nat),(∀r∈xs,je fs r)->n+1+64*mG xs<4611686018427387904->(∀r∈(gU (ic fs) n xs).2,je fs r)∧mG (gU (ic fs) n xs).2=mG xs:=by
   intro xs
   induction xs with
   |nil=>intro n _ _;simp[gU]
   |cons x xs ih=>
    intro n hx hn
    simp only[mG]at hn
    have g0:=FP fs n x hm.2 (hx x (.head _))
    have g1:=Uh fs n x hm.2 (hx x (.head _)) (by omega)
    have g2:=ih (ic fs n x).1 (λr hr=>hx r (.tail _ hr)) (by omega)
    simp only[gU,mG,List.mem_cons]
    refine⟨?_,by rw[g1.2,g2.2]⟩
    rintro r (rfl|hr)
    ·exact g1.1
    ·exact g2.1 r hr
  have:=this xs n hx hn
  refine⟨?_,this.2⟩
  unfold WT
  exact⟨_,rfl,by rw[FO];exact hl,this.1⟩
theorem Uh:∀(fs:List Ty) (n:Nat) (ts:List T),pw fs=true->je fs ts->n+fs.length+64*xy ts<4611686018427387904->je fs (ic fs n ts).2∧xy (ic fs n ts).2=xy ts
 | [],n,ts,_,ht,_=>by
  unfold je at ht
  subst ht
  rw[FM]
  refine⟨?_,rfl⟩
  unfold je
  rfl
 |f::fs,n,ts,h,ht,hn=>by
  unfold je at ht
  obtain⟨t,pP,rfl,h1,h2⟩:=ht
  have hm:=La h
  simp only[BR,List.length_cons]at hn
  have g0:=Lc f n t hm.1 h1
  have g1:=ais f n t hm.1 h1 (by omega)
  have g2:=Uh fs (qo f n t).1 pP hm.2 h2 (by omega)
  rw[FN,BR,BR,g1.2,g2.2]
  refine⟨?_,rfl⟩
  unfold je
  exact⟨_,_,rfl,g1.1,g2.1⟩
end
theorem pQ{ρ:List T}{n:Nat}{t:T}(h:ρ.getD n T.bQ=t)(hn:n<ρ.length)(B:List T):(ρ++B).getD n T.bQ=t:=by
 rw[<-h]
 simp[List.getD,List.getElem?_append_left hn]
theorem uv{ρ B:List T}{t:T}:(ρ++t::B).getD ρ.length T.bQ=t:=by
 simp[List.getD]
theorem ait(n:Nat):Prim.ev (.bin .rem) [.c (.int .i64 (n:Int)),.c (.int .i64 3)]=some (.c (.int .i64 ((n%3:Nat):Int))):=by
 simp only[Prim.ev,T.val,jS,Option.bind_some,if_true]
 rw[if_neg (by decide)]
 simp only[Option.bind_some]
 congr 3
theorem aiu(a b:Nat):(((a:Int))==(b:Int))=(a==b):=by
 rw[Bool.eq_iff_iff]
 simp only[beq_iff_eq]
 omega
set_option linter.unusedSimpArgs false
theorem vn{ρ:List T}{p:Nat}(hp:ρ.length=p)(m:Nat)(B:List T):(ρ++B).getD (p+m) T.bQ=B.getD m T.bQ:=by
 subst hp
 simp only[List.getD,List.getElem?_append_right (Nat.le_add_right _ _),Nat.add_sub_cancel_left]
set_option linter.unusedSimpArgs false
abbrev Pt:=List (Nat×Nat×Nat)
def fX:Pt->T->Option T
 | [],t=>some t
 |(i,w,j)::P,.l xs=>(xs[i]?).bind λr=>if r.length=w then(r[j]?).bind λt=>t.rows.bind λys=>fX P (.l ys)else none
 |_::_,.c _=>none
def dy:Pt->T->T->T
 | [],_,v=>v
 |(i,w,j)::P,.l xs,v=>.l (setRow xs i j [dy P (((xs[i]?).bind (·[j]?)).getD T.bQ) v])
 |_::_,t,_=>t
theorem Ld{i w j:Nat}{P:Pt}{t d:T}(h:fX ((i,w,j)::P) t=some d):∃xs r ys,t=.l xs∧xs[i]?=some r∧r.length=w∧r[j]?=some (.l ys)∧fX P (.l ys)=some d:=by
 cases t with
 |c v=>simp[fX]at h
 |l xs=>
  simp only[fX,cU]at h
  obtain⟨r,hr,h⟩:=h
  split at h
  ·rename_i hw
   rw[cU]at h
   obtain⟨u,hu,h⟩:=h
   cases u with
   |c v=>simp[T.rows]at h
   |l ys=>exact⟨xs,r,ys,rfl,hr,hw,hu,by simpa[T.rows]using h⟩
  ·cases h
theorem Le{i w j:Nat}{P:Pt}{xs:List (List T)}{r:List T}{ys:List (List T)}{d:T}(h1:xs[i]?=some r)(h2:r.length=w)(h3:r[j]?=some (.l ys))(h4:fX P (.l ys)=some d):fX ((i,w,j)::P) (.l xs)=some d:=by
 simp[fX,h1,h2,h3,T.rows,h4]
theorem FQ{xs:List (List T)}{i:Nat}{a b:List T}{t v:T}{j:Nat}(h:xs[i]?=some (a++t::b))(hj:a.length=j):setRow xs i j [v]=xs.set i (a++v::b):=by
 subst hj
 unfold setRow
 apply List.ext_getElem?
 intro k
 rw[List.getElem?_modify,List.getElem?_set]
 by_cases hk:i=k
 ·subst hk
  have hi:i<xs.length:=(List.getElem?_eq_some_iff.1 h).1
  rw[h]
  simp[hi]
 ·simp[hk]
theorem Lg{r:List T}{j:Nat}{t:T}(h:r[j]?=some t):∃a b,r=a++t::b∧a.length=j:=by
 obtain⟨hj,he⟩:=List.getElem?_eq_some_iff.1 h
 refine⟨r.take j,r.drop (j+1),?_,by simp;omega⟩
 rw[<-he,<-List.drop_eq_getElem_cons hj,List.take_append_drop]
theorem aiv{xs:List (List T)}{i:Nat}{r:List T}{t v:T}{j:Nat}(h:xs[i]?=some r)(hj:r[j]?=some t):∃r',(setRow xs i j [v])[i]?=some r'∧r'.length=r.length∧r'[j]?=some v:=by
 obtain⟨a,b,rfl,ha⟩:=Lg hj
 have hi:i<xs.length:=(List.getElem?_eq_some_iff.1 h).1
 rw[FQ h ha]
 refine⟨a++v::b,by simp[hi],by simp,?_⟩
 subst ha
 simp
theorem BT:∀{P:Pt} {t d:T} {v:List (List T)},fX P t=some d->fX P (dy P t (.l v))=some (.l v)
 | [],t,d,v,_=>rfl
 |(i,w,j)::P,t,d,v,h=>by
  obtain⟨xs,r,ys,rfl,h1,h2,h3,h4⟩:=Ld h
  have ih:=BT (v:=v) h4
  have e:((xs[i]?).bind (·[j]?)).getD T.bQ=.l ys:=by simp[h1,h3]
  simp only[dy,e]
  cases hs:dy P (.l ys) (.l v)with
  |c u=>rw[hs]at ih;cases P with
   |nil=>simp[fX]at ih
   |cons q P=>obtain⟨q1,q2,q3⟩:=q;simp[fX]at ih
  |l zs=>
   obtain⟨r',g1,g2,g3⟩:=aiv (v:=.l zs) h1 h3
   rw[hs]at ih
   exact Le g1 (by rw[g2,h2]) g3 ih
theorem Lh:∀{P:Pt} {t d:T} {v:List (List T)} {v':T},fX P t=some d->dy P (dy P t (.l v)) v'=dy P t v'
 | [],t,d,v,v',_=>rfl
 |(i,w,j)::P,t,d,v,v',h=>by
  obtain⟨xs,r,ys,rfl,h1,h2,h3,h4⟩:=Ld h
  have ih:=Lh (v:=v) (v':=v') h4
  have e:((xs[i]?).bind (·[j]?)).getD T.bQ=.l ys:=by simp[h1,h3]
  obtain⟨a,b,rfl,ha⟩:=Lg h3
  have hi:i<xs.length:=(List.getElem?_eq_some_iff.1 h1).1
  have e2:∀u:T,(((setRow xs i j [u])[i]?).bind (·[j]?)).getD T.bQ=u:=by
   intro u
   rw[FQ h1 ha]
   subst ha
   simp[hi]
  simp only[dy,e,e2,ih]
  congr 1
  have g1:(xs.set i (a++dy P (.l ys) (.l v)::b))[i]?=some (a++dy P (.l ys) (.l v)::b):=by simp[hi]
  rw[FQ h1 ha,FQ h1 ha,FQ g1 ha,List.set_set]
theorem Ui{xs:List (List T)}{i:Nat}{r:List T}(h:xs[i]?=some r):xs.set i r=xs:=by
 apply List.ext_getElem?
 intro k
 rw[List.getElem?_set]
 by_cases hk:i=k
 ·subst hk
  have hi:i<xs.length:=(List.getElem?_eq_some_iff.1 h).1
  simp[hi,h.symm]
 ·simp[hk]
theorem Li:∀{P:Pt} {t d:T},fX P t=some d->dy P t d=t
 | [],t,d,h=>by simp only[fX,bP]at h;exact h.symm
 |(i,w,j)::P,t,d,h=>by
  obtain⟨xs,r,ys,rfl,h1,h2,h3,h4⟩:=Ld h
  have ih:=Li h4
  have e:((xs[i]?).bind (·[j]?)).getD T.bQ=.l ys:=by simp[h1,h3]
  obtain⟨a,b,rfl,ha⟩:=Lg h3
  simp only[dy,e,ih]
  rw[FQ h1 ha,Ui h1]
theorem Uj:∀{P Q:Pt} {t:T},fX (P++Q) t=(fX P t).bind (fX Q)
 | [],Q,t=>rfl
 |(i,w,j)::P,Q,.c v=>by simp[fX]
 |(i,w,j)::P,Q,.l xs=>by
  simp only[List.cons_append,fX]
  cases xs[i]? with
  |none=>rfl
  |some r=>
   simp only[Option.bind_some]
   split
   ·cases r[j]? with
    |none=>rfl
    |some u=>
     simp only[Option.bind_some]
     cases u with
     |c v=>rfl
     |l ys=>simp only[T.rows,Option.bind_some];exact Uj
   ·rfl
theorem Uk:∀{P Q:Pt} {t d v:T},fX P t=some d->dy (P++Q) t v=dy P t (dy Q d v)
 | [],Q,t,d,v,h=>by simp only[fX,bP]at h;subst h;rfl
 |(i,w,j)::P,Q,t,d,v,h=>by
  obtain⟨xs,r,ys,rfl,h1,h2,h3,h4⟩:=Ld h
  have e:((xs[i]?).bind (·[j]?)).getD T.bQ=.l ys:=by simp[h1,h3]
  simp only[List.cons_append,dy,e,Uk h4]
def de(ρ:List T):Pt->Pt->Prop
 | [],[]=>True
 |(a,w,j)::P,(i,w',j')::Q=>w=w'∧j=j'∧a<ρ.length∧ρ.getD a T.bQ=.c (.int .i64 (i:Int))∧de ρ P Q
 |_,_=>False
theorem de.ext{ρ:List T}(B:List T):∀{P Q:Pt},de ρ P Q->de (ρ++B) P Q
 | [],[],_=>trivial
 |(a,w,j)::P,(i,w',j')::Q,⟨h1,h2,h3,h4,h5⟩=>⟨h1,h2,by simp;omega,pQ h4 h3 B,de.ext B h5⟩
 | [],_::_,h=>h.elim
 |(_,_,_)::_,[],h=>h.elim
theorem de.snoc{ρ:List T}{a i w j:Nat}(h1:a<ρ.length)(h2:ρ.getD a T.bQ=.c (.int .i64 (i:Int))):∀{P Q:Pt},de ρ P Q->de ρ (P++[(a,w,j)]) (Q++[(i,w,j)])
 | [],[],_=>⟨rfl,rfl,h1,h2,trivial⟩
 |(a',w',j')::P,(i',w'',j'')::Q,⟨g1,g2,g3,g4,g5⟩=>⟨g1,g2,g3,g4,de.snoc h1 h2 g5⟩
 | [],_::_,h=>h.elim
 |(_,_,_)::_,[],h=>h.elim
def q7:Pt->Nat->Nat->(Nat->Nat->PL)->PL
 | [],s,p,k=>k s p
 |(a,w,j)::P,s,p,k=>.ins (.pr (.lF w j) [.a s,.a a]) (q7 P p (p+1) k)
def yT:Pt->Nat->Nat->Nat->Nat->(Nat->Nat->PL)->PL
 | [],_,_,v,p,k=>k v p
 |(a,w,j)::P,e,e',v,p,k=>yT P e' (e'+1) v p λv' p'=>.ins (.pr (.ya w j) [.a e,.a a,.a v']) (k p' (p'+1))
theorem Ul{xs:List (List T)}{i w j:Nat}{r:List T}{ys:List (List T)}(h:xs[i]?=some r)(hw:r.length=w)(hj:r[j]?=some (.l ys)):Prim.ev (.lF w j) [.l xs,.c (.int .i64 (i:Int))]=some (.l ys):=by
 simp[Prim.ev,FK h,hw,hj,T.rows]
theorem aiw{xs:List (List T)}{i w j:Nat}{r:List T}{v:T}(h:xs[i]?=some r)(hw:r.length=w)(hj:j<w):Prim.ev (.ya w j) [.l xs,.c (.int .i64 (i:Int)),v]=some (.l (setRow xs i j [v])):=by
 simp[Prim.ev,FK h,hw,hj,T.rows,T.int]
def ld:Pt->T->List T
 | [],_=>[]
 |(i,w,j)::P,t=>match fX [(i,w,j)] t with
  |some u=>u::ld P u
  |none=>[]
theorem Lj{i w j:Nat}{P:Pt}{xs:List (List T)}{r:List T}{ys:List (List T)}(h1:xs[i]?=some r)(h2:r.length=w)(h3:r[j]?=some (.l ys)):ld ((i,w,j)::P) (.l xs)=.l ys::ld P (.l ys):=by
 simp only[ld,Le h1 h2 h3 (P:=[]) rfl]
section
variable {S:Nat->aA} {R:Nat} {K:List aA} {out:Option (List T)}
theorem uw:∀{P Q:Pt} {s p:Nat} {k:Nat->Nat->PL} {ρ:List T} {t d:T},de ρ P Q->fX Q t=some d->ρ.length=p->s<p->ρ.getD s T.bQ=t->
  (∀e,(ld Q t).length=P.length->e<p+P.length->(ρ++ld Q t).getD e T.bQ=d->PL.den S R K (ρ++ld Q t) (k e (p+P.length))=out)->PL.den S R K ρ (q7 P s p k)=out
 | [],[],s,p,k,ρ,t,d,_,hg,hp,hs,ht,hk=>by
  simp only[fX,bP]at hg
  subst hg
  have:=hk s rfl (by simpa using hs) (by simpa[ld]using ht)
  simpa[ld,q7]using this
 |(a,w,j)::P,(i,w',j')::Q,s,p,k,ρ,t,d,⟨z1,z2,h3,h4,h5⟩,hg,hp,hs,ht,hk=>by
  subst z1 z2
  obtain⟨xs,r,ys,rfl,g1,g2,g3,g4⟩:=Ld hg
  rw[Lj g1 g2 g3]at hk
  simp only[q7,wE,List.map_cons,List.map_nil,lA,ht,h4,Ul g1 g2 g3,gN]
  refine uw (de.ext _ h5) g4 (by simp[hp]) (by omega) (by rw[<-hp];exact uv) λe he1 he2 he3=>?_
  rw[List.append_assoc]at he3⊢
  have:=hk e (by simp[he1]) (by simp;omega) he3
  simpa[Nat.add_assoc,Nat.add_comm 1]using this
 | [],_::_,_,_,_,_,_,_,h,_,_,_,_,_=>h.elim
 |(_,_,_)::_,[],_,_,_,_,_,_,h,_,_,_,_,_=>h.elim
theorem Um:∀{P Q:Pt} {e e' v p:Nat} {k:Nat->Nat->PL} {ρ:List T} {t d vv:T},de ρ P Q->fX Q t=some d->ρ.length=p->e<p->ρ.getD e T.bQ=t->(∀m x,(ld Q t)[m]?=some x->e'+m<p∧ρ.getD (e'+m) T.bQ=x)->v<p->ρ.getD v T.bQ=vv->
  (∀(B:List T) (v' p':Nat),(ρ++B).length=p'->v'<p'->(ρ++B).getD v' T.bQ=dy Q t vv->PL.den S R K (ρ++B) (k v' p')=out)->PL.den S R K ρ (yT P e e' v p k)=out
 | [],[],e,e',v,p,k,ρ,t,d,vv,_,hg,hp,he,ht,hc,hv,s9,hk=>by
  have:=hk [] v p (by simpa using hp) hv (by simpa[dy]using s9)
  simpa[yT]using this
 |(a,w,j)::P,(i,w',j')::Q,e,e',v,p,k,ρ,t,d,vv,⟨z1,z2,h3,h4,h5⟩,hg,hp,he,ht,hc,hv,s9,hk=>by
  subst z1 z2
  obtain⟨xs,r,ys,rfl,g1,g2,g3,g4⟩:=Ld hg
  rw[Lj g1 g2 g3]at hc
  have c0:=hc 0 _ rfl
  have hjw:j<w:=by rw[<-g2];exact(List.getElem?_eq_some_iff.1 g3).1
  rw[show yT ((a,w,j)::P) e e' v p k=yT P e' (e'+1) v p (λv' p'=>.ins (.pr (.ya w j) [.a e,.a a,.a v']) (k p' (p'+1))) from rfl]
  refine Um h5 g4 hp c0.1 c0.2 (λm x hm=>?_) hv s9 λB v' p' q1 q2 q3=>?_
  ·have:=hc (m+1) x (by simpa using hm)
   rw[show e'+1+m=e'+(m+1) by omega]
   exact this
  ·have x1:=pQ ht (by omega) B
   have x2:=pQ h4 h3 B
   simp only[wE,List.map_cons,List.map_nil,lA,x1,x2,q3,aiw g1 g2 hjw,gN]
   rw[List.append_assoc]
   have e0:((xs[i]?).bind (·[j]?)).getD T.bQ=.l ys:=by simp[g1,g3]
   refine hk _ p' (p'+1) (by simp at q1⊢;omega) (by omega) ?_
   rw[<-List.append_assoc,<-q1,uv]
   simp only[dy,e0]
 | [],_::_,_,_,_,_,_,_,_,_,_,h,_,_,_,_,_,_,_,_=>h.elim
 |(_,_,_)::_,[],_,_,_,_,_,_,_,_,_,h,_,_,_,_,_,_,_,_=>h.elim
def FR(P:Pt)(k w j s v p:Nat)(cont:Nat->Nat->PL):PL:=
 q7 P s p λd p1=>.ins (.pr .lk [.a d,.a k])<|q7 P s (p1+1) λd2 p2=>.ins (.pr (.put true w j 1) [.a d2,.a k,.a v])<|
  match P with
  | []=>cont p2 (p2+1)
  |_::_=>q7 P s (p2+1) λ_ p3=>yT P s (p2+1) p2 p3 cont
theorem Un{P Q:Pt}{k w j s v p kv:Nat}{cont:Nat->Nat->PL}{ρ:List T}{t vv:T}{xs:List (List T)}{r:List T}(hP:de ρ P Q)(hg:fX Q t=some (.l xs))(hp:ρ.length=p)(hs:s<p)(ht:ρ.getD s T.bQ=t)
  (hkp:k<p)(hk:ρ.getD k T.bQ=.c (.int .i64 (kv:Int)))(hv:v<p)(s9:ρ.getD v T.bQ=vv)(np:eA vv=true)(hr:xs[kv]?=some r)(hw:r.length=w)(hj:j<w)
  (hc:∀(B:List T) (s' p':Nat),(ρ++B).length=p'->s'<p'->(ρ++B).getD s' T.bQ=dy Q t (.l (setRow xs kv j [vv]))->PL.den S R K (ρ++B) (cont s' p')=out):PL.den S R K ρ (FR P k w j s v p cont)=out:=by
 have kq:=Uc (sc:=true) (k:=.i64) (off:=j) (n:=1) (vs:=[vv]) hr hw (by omega) rfl (by simp[np])
 unfold FR
 refine uw hP hg hp hs ht λe a1 a2 a3=>?_
 have l1:(ρ++ld Q t).length=p+P.length:=by simp[hp,a1]
 simp only[wE,List.map_cons,List.map_nil,lA,a3,pQ hk (by omega) _,Ub hr,gN,List.append_assoc]
 refine uw (de.ext _ hP) hg (by simp[hp,a1];omega) (by omega) (pQ ht (by omega) _) λe2 b1 b2 b3=>?_
 simp only[List.append_assoc]at b3⊢
 simp only[wE,List.map_cons,List.map_nil,lA,b3,pQ hk (by omega) _,pQ s9 (by omega) _,kq,gN,List.append_assoc]
 cases P with
 |nil=>
  cases Q with
  |cons _ _=>exact hP.elim
  |nil=>
   simp only[fX,bP]at hg
   refine hc _ _ _ (by simp[hp,ld]) (by simp) ?_
   simp only[ld,List.nil_append,List.length_nil,Nat.add_zero,List.cons_append]
   rw[show p+1=p+1 from rfl,vn hp]
   rfl
 |cons q P=>
  simp only
  refine uw (de.ext _ hP) hg (by simp[hp,a1];omega) (by omega) (pQ ht (by omega) _) λe3 c1 c2 c3=>?_
  simp only[List.append_assoc]at c3⊢
  have l3:(ρ++(ld Q t++([T.c (.bool true)]++(ld Q t++([T.l (setRow xs kv j [vv])]++ld Q t))))).length=p+(q::P).length+1+(q::P).length+1+(q::P).length:=by simp[hp,a1];omega
  refine Um (de.ext _ hP) hg l3 (by omega) (pQ ht (by omega) _) (λm x hm=>?_) (by omega) (vv:=.l (setRow xs kv j [vv])) ?_ λB s' p' d1 d2 d3=>?_
  ·have hml:m<(ld Q t).length:=(List.getElem?_eq_some_iff.1 hm).1
   refine⟨by omega,?_⟩
   have:=vn (ρ:=ρ++(ld Q t++([T.c (.bool true)]++(ld Q t++[T.l (setRow xs kv j [vv])])))) (p:=p+(q::P).length+1+(q::P).length+1) (by simp[hp,a1];omega) m (ld Q t)
   simp only[List.append_assoc]at this
   rw[this]
   simp[List.getD,hm]
  ·have:=vn (ρ:=ρ++(ld Q t++([T.c (.bool true)]++ld Q t))) (p:=p+(q::P).length+1+(q::P).length) (by simp[hp,a1];omega) 0 ([T.l (setRow xs kv j [vv])]++ld Q t)
   simp only[List.append_assoc,Nat.add_zero]at this
   rw[this]
   rfl
  ·rw[List.append_assoc]at d1 d3⊢
   exact hc _ s' p' d1 d2 d3
end
set_option linter.unusedSimpArgs false
abbrev yU:=Pt->Nat->Nat->Nat->Nat->Nat->(Nat->Nat->Nat->Nat->PL)->PL
def lvP(sC:yU)(P:Pt)(cl:Lf)(s p:Nat)(cont:Nat->Nat->Nat->PL):PL:=
 .loop [cl,.k (.int .i64 0),.a s] (q7 P (p+2) (p+3) λd p1=>.ins (.pr .len [.a d])<| .ins (.pr (.bin .lss) [.a (p+1),.a p1])<|
  .ite (p1+1) (sC P (p+1) (p+2) p (p1+2) 0 λs c p' q=>.ins (.pr (.bin .add) [.a (p+1),.k (.int .i64 1)])<| .go q [.a c,.a p',.a s]) (cont p (p+2) (p1+2)))
mutual
def BU:Ty->Nat->Nat->yU
 | .i _,w,j,P,k,s,c,p,q,cont=>FR P k w j s c p λs' p'=>.ins (.pr (.bin .add) [.a c,.k (.int .i64 1)]) (cont s' p' (p'+1) q)
 | .b,w,j,P,k,s,c,p,q,cont=>.ins (.pr (.bin .rem) [.a c,.k (.int .i64 3)])<| .ins (.pr (.bin .eql) [.a p,.k (.int .i64 0)])<|
   FR P k w j s (p+1) (p+2) λs' p'=>.ins (.pr (.bin .add) [.a c,.k (.int .i64 1)]) (cont s' p' (p'+1) q)
 | .s,w,j,P,k,s,c,p,q,cont=>cont s c p q
 | .sl es,w,j,P,k,s,c,p,q,cont=>q7 P s p λd p1=>.ins (.pr .lk [.a d,.a k])<|q7 P s (p1+1) λd2 p2=>.ins (.pr (.lF w j) [.a d2,.a k])<|
   lvP (yV es es.length 0) (P++[(k,w,j)]) (.a c) s (p2+1) λc' s' p'=>cont s' c' p' (q+1)
def yV:List Ty->Nat->Nat->yU
 | [],w,j,P,k,s,c,p,q,cont=>cont s c p q
 |f::fs,w,j,P,k,s,c,p,q,cont=>BU f w j P k s c p q λs' c' p' q'=>yV fs w (j+1) P k s' c' p' q' cont
end
def FOk(S:Nat->aA)(w:Nat)(fs:List Ty)(j:Nat)(sC:yU):Prop:=
 ∀(out:Option (List T)) (K:List aA) (P Q:Pt) (k s c p q kv n:Nat) (cont:Nat->Nat->Nat->Nat->PL) (ρ:List T) (t:T) (xs:List (List T)) (dn ts:List T),de ρ P Q->fX Q t=some (.l xs)->ρ.length=p->s<p->ρ.getD s T.bQ=t->
  k<p->ρ.getD k T.bQ=.c (.int .i64 (kv:Int))->c<p->ρ.getD c T.bQ=.c (.int .i64 (n:Int))->xs[kv]?=some (dn++ts)->dn.length=j->(dn++ts).length=w->je fs ts->xy ts<=1048576->n+fs.length+64*xy ts<=1099511627776->
  (∀(Ks:List aA) (B:List T) (s' c' p':Nat),(ρ++B).length=p'->s'<p'->c'<p'->(ρ++B).getD c' T.bQ=.c (.int .i64 ((ic fs n ts).1:Int))->(ρ++B).getD s' T.bQ=dy Q t (.l (xs.set kv (dn++(ic fs n ts).2)))->
   PL.den S rounds (Ks++K) (ρ++B) (cont s' c' p' (q+Ks.length))=out)->PL.den S rounds K ρ (sC P k s c p q cont)=out
theorem Uo{S:Nat->aA}{R:Nat}{f:aA}{K:List aA}{ρ:List T}(xs:List Lf):∀Ks:List aA,PL.den S R (Ks++f::K) ρ (.go Ks.length xs)=f (xs.map (Lf.ev ρ))
 | []=>by simp only[List.nil_append,List.length_nil,Ud]
 |g::Ks=>by simp only[List.cons_append,List.length_cons,Ue];exact Uo xs Ks
theorem aix{S:Nat->aA}{out:Option (List T)}{K:List aA}{es:List Ty}{sC:yU}(hF:FOk S es.length es 0 sC)(hl:es.length<=64)(hm:pw es=true){P Q:Pt}{cl:Lf}{s p n:Nat}{cont:Nat->Nat->Nat->PL}{ρ:List T}{t:T}{xs:List (List T)}
  (hP:de ρ P Q)(hg:fX Q t=some (.l xs))(hp:ρ.length=p)(hs:s<p)(ht:ρ.getD s T.bQ=t)(hc:Lf.ev ρ cl=.c (.int .i64 (n:Int)))(hw:∀r∈xs,je es r)(hb:mG xs<=1048576)(hn:n+64*mG xs<=1099511627776)
  (hk:∀f:aA,PL.den S rounds (f::K) (ρ++([T.c (.int .i64 ((gU (ic es) n xs).1:Int)),T.c (.int .i64 (xs.length:Int)),dy Q t (.l (gU (ic es) n xs).2)]++(ld Q (dy Q t (.l (gU (ic es) n xs).2))++[T.c (.int .i64 (xs.length:Int)),T.c (.bool false)])))
   (cont p (p+2) (p+3+P.length+2))=out):PL.den S rounds K ρ (lvP sC P cl s p cont)=out:=by
 have hlen:=TU xs
 have iS:∀i,mG (xs.take i)<=mG xs:=by
  intro i
  have:=aid (xs.take i) (xs.drop i)
  rw[List.take_append_drop]at this
  omega
 have ux:=λi=>Ug (g:=ic es) (xs:=xs.take i) (λm r hr=>by
  have:=FP es m r hm (hw r (List.mem_of_mem_take hr))
  omega) n
 unfold lvP
 rw[aii]
 simp only[List.map_cons,List.map_nil,hc,wF,lA,ht]
 have j_:∀i,(gU (ic es) n (xs.take i)).2.length=(xs.take i).length:=λi=>FO _ _
 refine aip (n:=xs.length) (Inv:=λi x=>x=[T.c (.int .i64 ((gU (ic es) n (xs.take i)).1:Int)),T.c (.int .i64 (i:Int)),dy Q t (.l ((gU (ic es) n (xs.take i)).2++xs.drop i))]) (Q:=λo=>o=out) ?_ ?_ ?_ (by unfold rounds;omega)
 ·rintro i x hi rfl self
  left
  refine⟨_,rfl,?_⟩
  obtain⟨r,hr⟩:=aim hi
  have hwr:=hw r (ail hr)
  have hbr:=TV hr
  have mM:=iS (i+1)
  have pf:=TW hr
  have hm1:=ux i
  have D3:=air (g:=ic es) hr n
  have Rr:=j_ i
  have hil:(xs.take i).length=i:=by simp;omega
  have bC:(i:Int)<xs.length:=by omega
  have e3:IntKind.i64.wrap ((i:Int)+1)=((i+1:Nat):Int):=by rw[yS (by omega) (by omega)];simp
  generalize hN:(gU (ic es) n (xs.take i)).1=N at*
  generalize hA:(gU (ic es) n (xs.take i)).2=A at*
  have hdr:xs.drop i=r::xs.drop (i+1):=by
   rw[List.drop_eq_getElem_cons hi]
   rw[List.getElem?_eq_getElem hi]at hr
   cases hr
   rfl
  have hgi:=BT (v:=A++xs.drop i) hg
  have Tz:(A++xs.drop i)[i]?=some r:=by
   rw[List.getElem?_append_right (by omega),hdr,Rr,hil,Nat.sub_self]
   rfl
  have D6:(A++xs.drop i).length=xs.length:=by simp;omega
  refine uw (de.ext _ hP) hgi (s:=p+2) (p:=p+3) (by simp[hp]) (by omega) (by rw[vn hp];rfl) λd a1 a2 a3=>?_
  have uy:(ρ++[T.c (.int .i64 (N:Int)),T.c (.int .i64 (i:Int)),dy Q t (.l (A++xs.drop i))]++ld Q (dy Q t (.l (A++xs.drop i)))).length=p+3+P.length:=by simp[hp,a1];omega
  have x1:∀B,(ρ++[T.c (.int .i64 (N:Int)),T.c (.int .i64 (i:Int)),dy Q t (.l (A++xs.drop i))]++ld Q (dy Q t (.l (A++xs.drop i)))++B).getD (p+1) T.bQ=.c (.int .i64 (i:Int)):=λB=>by
   rw[List.append_assoc,List.append_assoc,vn hp];rfl
  have x0:∀B,(ρ++[T.c (.int .i64 (N:Int)),T.c (.int .i64 (i:Int)),dy Q t (.l (A++xs.drop i))]++ld Q (dy Q t (.l (A++xs.drop i)))++B).getD p T.bQ=.c (.int .i64 (N:Int)):=λB=>by
   have:=vn hp 0 ([T.c (.int .i64 (N:Int)),T.c (.int .i64 (i:Int)),dy Q t (.l (A++xs.drop i))]++(ld Q (dy Q t (.l (A++xs.drop i)))++B))
   rw[List.append_assoc,List.append_assoc];exact this
  have x2:∀B,(ρ++[T.c (.int .i64 (N:Int)),T.c (.int .i64 (i:Int)),dy Q t (.l (A++xs.drop i))]++ld Q (dy Q t (.l (A++xs.drop i)))++B).getD (p+2) T.bQ=dy Q t (.l (A++xs.drop i)):=λB=>by
   rw[List.append_assoc,List.append_assoc,vn hp];rfl
  have hPx:∀B,de (ρ++[T.c (.int .i64 (N:Int)),T.c (.int .i64 (i:Int)),dy Q t (.l (A++xs.drop i))]++ld Q (dy Q t (.l (A++xs.drop i)))++B) P Q:=λB=>by
   rw[List.append_assoc,List.append_assoc];exact de.ext _ hP
  generalize nq:ρ++[T.c (.int .i64 (N:Int)),T.c (.int .i64 (i:Int)),dy Q t (.l (A++xs.drop i))]++ld Q (dy Q t (.l (A++xs.drop i)))=ρ1 at*
  have y1:=x1 [T.c (.int .i64 (xs.length:Int))]
  have y2:(ρ1++[T.c (.int .i64 (xs.length:Int))]).getD (p+3+P.length) T.bQ=.c (.int .i64 (xs.length:Int)):=by rw[<-uy];exact uv
  have y3:(ρ1++[T.c (.int .i64 (xs.length:Int)),T.c (.bool true)]).getD (p+3+P.length+1) T.bQ=.c (.bool true):=by rw[vn uy];rfl
  simp only[wE,FL,List.map_cons,List.map_nil,lA,a3,FI,D6,gN,y1,y2,FJ,bC,decide_true,List.append_assoc,List.cons_append,List.nil_append,y3,K7,cond_true]
  refine hF _ (self::K) P Q (p+1) (p+2) p (p+3+P.length+2) 0 i N _ _ _ (A++xs.drop i) [] r (hPx _) hgi (by simp only[List.length_append,uy,List.length_cons,List.length_nil]) (by omega) (x2 _) (by omega) (x1 _) (by omega) (x0 _) Tz rfl hwr.length hwr (by omega) (by omega) ?_
  intro Ks B s' c' p' q1 q2 q3 q4 q5
  have z1:(ρ1++([T.c (.int .i64 (xs.length:Int)),T.c (.bool true)]++B)).getD (p+1) T.bQ=.c (.int .i64 (i:Int)):=x1 _
  rw[List.append_assoc]at q1 q4 q5⊢
  have z2:((ρ1++([T.c (.int .i64 (xs.length:Int)),T.c (.bool true)]++B))++[T.c (.int .i64 ((i+1:Nat):Int))]).getD p' T.bQ=.c (.int .i64 ((i+1:Nat):Int)):=by rw[<-q1];exact uv
  have z3:=pQ q4 (by rw[q1];exact q3) [T.c (.int .i64 ((i+1:Nat):Int))]
  have z4:=pQ q5 (by rw[q1];exact q2) [T.c (.int .i64 ((i+1:Nat):Int))]
  rw[wE]
  simp only[List.map_cons,List.map_nil,lA,wF,z1,uu,e3,gN,Nat.zero_add]
  rw[Uo]
  simp only[List.map_cons,List.map_nil,lA,z2,z3,z4]
  rw[D3]
  congr 4
  rw[Lh hg]
  congr 2
  rw[hdr,List.set_append_right _ _ (by omega),Rr,hil,Nat.sub_self]
  simp
 ·rintro x rfl self
  rw[show xs.take xs.length=xs from List.take_length,show xs.drop xs.length=[] from List.drop_length,List.append_nil]
  have hgi:=BT (v:=(gU (ic es) n xs).2) hg
  refine uw (de.ext _ hP) hgi (s:=p+2) (p:=p+3) (by simp[hp]) (by omega) (by rw[vn hp];rfl) λd a1 a2 a3=>?_
  have uy:(ρ++[T.c (.int .i64 ((gU (ic es) n xs).1:Int)),T.c (.int .i64 (xs.length:Int)),dy Q t (.l (gU (ic es) n xs).2)]++ld Q (dy Q t (.l (gU (ic es) n xs).2))).length=p+3+P.length:=by simp[hp,a1];omega
  have x1:∀B,(ρ++[T.c (.int .i64 ((gU (ic es) n xs).1:Int)),T.c (.int .i64 (xs.length:Int)),dy Q t (.l (gU (ic es) n xs).2)]++ld Q (dy Q t (.l (gU (ic es) n xs).2))++B).getD (p+1) T.bQ=.c (.int .i64 (xs.length:Int)):=λB=>by
   rw[List.append_assoc,List.append_assoc,vn hp];rfl
  have x0:∀B,(ρ++([T.c (.int .i64 ((gU (ic es) n xs).1:Int)),T.c (.int .i64 (xs.length:Int)),dy Q t (.l (gU (ic es) n xs).2)]++(ld Q (dy Q t (.l (gU (ic es) n xs).2))++B))).getD p T.bQ=.c (.int .i64 ((gU (ic es) n xs).1:Int)):=λB=>vn hp 0 _
  have x2:∀B,(ρ++([T.c (.int .i64 ((gU (ic es) n xs).1:Int)),T.c (.int .i64 (xs.length:Int)),dy Q t (.l (gU (ic es) n xs).2)]++(ld Q (dy Q t (.l (gU (ic es) n xs).2))++B))).getD (p+2) T.bQ=dy Q t (.l (gU (ic es) n xs).2):=λB=>by
   rw[vn hp];rfl
  have y1:=x1 [T.c (.int .i64 (xs.length:Int))]
  have y2:(ρ++[T.c (.int .i64 ((gU (ic es) n xs).1:Int)),T.c (.int .i64 (xs.length:Int)),dy Q t (.l (gU (ic es) n xs).2)]++ld Q (dy Q t (.l (gU (ic es) n xs).2))++[T.c (.int .i64 (xs.length:Int))]).getD (p+3+P.length) T.bQ=.c (.int .i64 (xs.length:Int)):=by rw[<-uy];exact uv
  have y3:(ρ++[T.c (.int .i64 ((gU (ic es) n xs).1:Int)),T.c (.int .i64 (xs.length:Int)),dy Q t (.l (gU (ic es) n xs).2)]++ld Q (dy Q t (.l (gU (ic es) n xs).2))++[T.c (.int .i64 (xs.length:Int)),T.c (.bool false)]).getD (p+3+P.length+1) T.bQ=.c (.bool false):=by rw[vn uy];rfl
  rw[wE]
  simp only[List.map_cons,List.map_nil,lA,a3,FI,FO,gN]
  rw[wE]
  simp only[List.map_cons,List.map_nil,lA,y1,y2,FJ,Int.lt_irrefl,decide_false,gN]
  rw[FL,List.append_assoc _ [_] [_]]
  simp only[List.cons_append,List.nil_append]at y3⊢
  rw[y3]
  simp only[K7,cond_false]
  have:=hk self
  simpa using this
 ·rw[List.take_zero,List.drop_zero]
  simp only[gU,List.nil_append,Li hg]
  rfl
theorem aiz{S:Nat->aA}{out:Option (List T)}{K:List aA}{es:List Ty}{sC:yU}(hF:FOk S es.length es 0 sC)(hl:es.length<=64)(hm:pw es=true){P Q:Pt}{cl:Lf}{s p n:Nat}{cont:Nat->Nat->Nat->PL}{ρ:List T}{t:T}{xs:List (List T)}
  (hP:de ρ P Q)(hg:fX Q t=some (.l xs))(hp:ρ.length=p)(hs:s<p)(ht:ρ.getD s T.bQ=t)(hc:Lf.ev ρ cl=.c (.int .i64 (n:Int)))(hw:∀r∈xs,je es r)(hb:mG xs<=1048576)(hn:n+64*mG xs<=1099511627776)
  (hk:∀(f:aA) (B:List T) (c' s' p':Nat),(ρ++B).length=p'->c'<p'->s'<p'->(ρ++B).getD c' T.bQ=.c (.int .i64 ((gU (ic es) n xs).1:Int))->(ρ++B).getD s' T.bQ=dy Q t (.l (gU (ic es) n xs).2)->
   PL.den S rounds (f::K) (ρ++B) (cont c' s' p')=out):PL.den S rounds K ρ (lvP sC P cl s p cont)=out:=by
 refine aix hF hl hm hP hg hp hs ht hc hw hb hn λf=>?_
 have hPQ:∀{P Q:Pt} {t d:T},de ρ P Q->fX Q t=some d->(ld Q t).length=P.length:=by
  intro P
  induction P with
  |nil=>intro Q t d hP hg;cases Q with
   |nil=>rfl
   |cons _ _=>exact hP.elim
  |cons q P ih=>
   intro Q t d hP hg
   obtain⟨a,w,j⟩:=q
   cases Q with
   |nil=>exact hP.elim
   |cons q Q=>
    obtain⟨i,w',j'⟩:=q
    obtain⟨_,_,_,_,h5⟩:=hP
    obtain⟨xs,r,ys,rfl,g1,g2,g3,g4⟩:=Ld hg
    rw[Lj g1 g2 g3,List.length_cons,List.length_cons,ih h5 g4]
 have tg:=hPQ hP (BT (v:=(gU (ic es) n xs).2) hg)
 refine hk f _ _ _ _ (by simp[hp,tg];omega) (by omega) (by omega) ?_ ?_
 ·exact vn hp 0 _
 ·rw[vn hp];rfl
set_option linter.unusedSimpArgs false
def TOk(S:Nat->aA)(f:Ty):Prop:=
 ∀(w j:Nat) (out:Option (List T)) (K:List aA) (P Q:Pt) (k s c p q kv n:Nat) (cont:Nat->Nat->Nat->Nat->PL) (ρ:List T) (t:T) (xs:List (List T)) (dn ts:List T) (u:T),de ρ P Q->fX Q t=some (.l xs)->ρ.length=p->s<p->ρ.getD s T.bQ=t->
  k<p->ρ.getD k T.bQ=.c (.int .i64 (kv:Int))->c<p->ρ.getD c T.bQ=.c (.int .i64 (n:Int))->xs[kv]?=some (dn++u::ts)->dn.length=j->(dn++u::ts).length=w->WT f u->bulk u<=1048576->n+1+64*bulk u<=1099511627776->
  (∀(Ks:List aA) (B:List T) (s' c' p':Nat),(ρ++B).length=p'->s'<p'->c'<p'->(ρ++B).getD c' T.bQ=.c (.int .i64 ((qo f n u).1:Int))->(ρ++B).getD s' T.bQ=dy Q t (.l (xs.set kv (dn++(qo f n u).2::ts)))->
   PL.den S rounds (Ks++K) (ρ++B) (cont s' c' p' (q+Ks.length))=out)->PL.den S rounds K ρ (BU f w j P k s c p q cont)=out
theorem aiA{S:Nat->aA}:TOk S (.i .i64):=by
 intro w j out K P Q k s c p q kv n cont ρ t xs dn ts u hP hg hp hs ht hk yJ hc hn hr hj hw hu hb yW jM
 rw[K8]at jM
 have e3:IntKind.i64.wrap ((n:Int)+1)=((n+1:Nat):Int):=by rw[yS (by omega) (by omega)];simp
 simp only[BU]
 refine Un hP hg hp hs ht hk yJ hc hn rfl hr hw (by simp at hw;omega) λB s' p' q1 q2 q3=>?_
 have x:=pQ hn (by omega) B
 rw[wE]
 simp only[List.map_cons,List.map_nil,lA,wF,x,uu,e3,gN,List.append_assoc]
 rw[FQ hr hj]at q3
 refine jM [] _ s' p' (p'+1) (by simp at q1⊢;omega) (by omega) (by omega) ?_ ?_
 ·rw[<-List.append_assoc,<-q1];exact uv
 ·rw[<-List.append_assoc];exact pQ q3 (by rw[q1];exact q2) _
theorem aiB{S:Nat->aA}:TOk S .b:=by
 intro w j out K P Q k s c p q kv n cont ρ t xs dn ts u hP hg hp hs ht hk yJ hc hn hr hj hw hu hb yW jM
 rw[K9]at jM
 have e3:IntKind.i64.wrap ((n:Int)+1)=((n+1:Nat):Int):=by rw[yS (by omega) (by omega)];simp
 have aiC:(((n%3:Nat):Int)==(0:Int))=(n%3==0):=aiu (n%3) 0
 have y1:(ρ++[T.c (.int .i64 ((n%3:Nat):Int))]).getD p T.bQ=.c (.int .i64 ((n%3:Nat):Int)):=by rw[<-hp];exact uv
 simp only[BU]
 rw[wE]
 simp only[List.map_cons,List.map_nil,lA,wF,hn,ait,gN]
 rw[wE]
 simp only[List.map_cons,List.map_nil,lA,wF,y1,K5,aiC,gN,List.append_assoc,List.cons_append,List.nil_append]
 have y2:(ρ++[T.c (.int .i64 ((n%3:Nat):Int)),T.c (.bool (n%3==0))]).getD (p+1) T.bQ=T.c (.bool (n%3==0)):=by rw[vn hp];rfl
 refine Un (de.ext _ hP) hg (by simp[hp]) (by omega) (pQ ht (by omega) _) (by omega) (pQ yJ (by omega) _) (by omega) y2 rfl hr hw (by simp at hw;omega) λB s' p' q1 q2 q3=>?_
 simp only[List.append_assoc]at q1 q3⊢
 have x:=pQ hn (by omega) ([T.c (.int .i64 ((n%3:Nat):Int)),T.c (.bool (n%3==0))]++B)
 rw[wE]
 simp only[List.map_cons,List.map_nil,lA,wF,x,uu,e3,gN]
 rw[FQ hr hj]at q3
 rw[List.append_assoc]
 refine jM [] _ s' p' (p'+1) (by simp at q1⊢;omega) (by omega) (by omega) ?_ ?_
 ·rw[<-List.append_assoc,<-q1];exact uv
 ·rw[<-List.append_assoc];exact pQ q3 (by rw[q1];exact q2) _
theorem aiD{S:Nat->aA}{es:List Ty}(hF:FOk S es.length es 0 (yV es es.length 0))(hl:es.length<=64)(hm:pw es=true):TOk S (.sl es):=by
 intro w j out K P Q k s c p q kv n cont ρ t xs dn ts u hP hg hp hs ht hk yJ hc hn hr hj hw hu hb yW jM
 unfold WT at hu
 obtain⟨ys,rfl,_,hy⟩:=hu
 rw[K_]at jM
 rw[BQ]at hb yW
 have Iw:(dn++T.l ys::ts)[j]?=some (.l ys):=by subst hj;simp
 have Ry:fX (Q++[(kv,w,j)]) t=some (.l ys):=by rw[Uj,hg];exact Le hr hw Iw rfl
 simp only[BU]
 refine uw hP hg hp hs ht λe a1 a2 a3=>?_
 rw[wE]
 simp only[List.map_cons,List.map_nil,lA,a3,pQ yJ (by omega) _,Ub hr,gN,List.append_assoc]
 refine uw (de.ext _ hP) hg (by simp[hp,a1];omega) (by omega) (pQ ht (by omega) _) λe2 b1 b2 b3=>?_
 simp only[List.append_assoc]at b3⊢
 rw[wE]
 simp only[List.map_cons,List.map_nil,lA,b3,pQ yJ (by omega) _,Ul hr hw Iw,gN,List.append_assoc]
 refine aiz hF hl hm (de.snoc (by simp;omega) (pQ yJ (by omega) _) (de.ext _ hP)) Ry (by simp[hp,a1];omega) (by omega) (pQ ht (by omega) _) (n:=n) (by rw[lA];exact pQ hn (by omega) _) hy hb (by omega) λf B c' s' p' q1 q2 q3 q4 q5=>?_
 rw[List.append_assoc]at q1 q4 q5⊢
 refine jM [f] _ s' c' p' q1 q3 q2 q4 ?_
 rw[q5,Uk hg]
 congr 1
 have e0:((xs[kv]?).bind (·[j]?)).getD T.bQ=.l ys:=by rw[hr];simp[Iw]
 simp only[dy,e0]
 rw[FQ hr hj]
mutual
theorem aiE{S:Nat->aA}:∀(f:Ty),pu f=true->TOk S f
 | .i k,h=>by
  cases k with
  |i64=>exact aiA
  |_=>simp[pu]at h
 | .b,h=>aiB
 | .s,h=>by simp[pu]at h
 | .sl es,h=>aiD (Up es 0 (BS h).2 es.length) (BS h).1 (BS h).2
theorem Up{S:Nat->aA}:∀(fs:List Ty) (j:Nat),pw fs=true->∀w,FOk S w fs j (yV fs w j)
 | [],j,h,w=>by
  intro out K P Q k s c p q kv n cont ρ t xs dn ts hP hg hp hs ht hk yJ hc hn hr hj hw hu hb yW jM
  unfold je at hu
  subst hu
  simp only[yV]
  have:=jM [] [] s c p (by simpa using hp) hs hc (by simpa[FM]using hn) (by
   rw[FM,Ui hr,Li hg];simpa using ht)
  simpa using this
 |f::fs,j,h,w=>by
  intro out K P Q k s c p q kv n cont ρ t xs dn ts hP hg hp hs ht hk yJ hc hn hr hj hw hu hb yW jM
  unfold je at hu
  obtain⟨u,pP,rfl,h1,h2⟩:=hu
  have hm:=La h
  have hle:=Lc f n u hm.1 h1
  simp only[BR,List.length_cons]at hb yW
  simp only[yV]
  refine aiE f hm.1 w j out K P Q k s c p q kv n _ ρ t xs dn pP u hP hg hp hs ht hk yJ hc hn hr hj hw h1 (by omega) (by omega) λKs B s' c' p' q1 q2 q3 q4 q5=>?_
  have Td:kv<xs.length:=(List.getElem?_eq_some_iff.1 hr).1
  refine Up fs (j+1) hm.2 w out (Ks++K) P Q k s' c' p' (q+Ks.length) kv (qo f n u).1 cont (ρ++B) _ (xs.set kv (dn++(qo f n u).2::pP)) (dn++[(qo f n u).2]) pP (de.ext _ hP) (BT hg) q1 q2 q5 (by simp at q1;omega) (pQ yJ (by omega) _) q3 q4
   (by simp[Td]) (by simp[hj]) (by simp at hw⊢;omega) h2 (by omega) (by omega) λKs2 B2 s2 c2 p2 r1 r2 r3 r4 r5=>?_
  rw[List.append_assoc]at r1 r4 r5⊢
  have:=jM (Ks2++Ks) (B++B2) s2 c2 p2 r1 r2 r3 (by rw[r4,FN]) (by
   rw[r5,Lh hg,List.set_set,FN,List.append_assoc]
   rfl)
  rw[List.append_assoc,List.length_append]at this
  rw[show q+Ks.length+Ks2.length=q+(Ks2.length+Ks.length) by omega]
  exact this
end
set_option linter.defProp false in
def pb:=(aF (aF (aF (aF (aF (@aif) (@wE)) (aF (@aih) (aF (@FL) (@Ud)))) (aF (aF (@Ue) (aF (@List.map_cons.{0,0}) (@List.map_nil.{0,0}))) (aF (@wF) (aF (@aij) (@lA))))) (aF (aF (aF (@List.cons_append.{0}) (@List.nil_append.{0})) (aF (@List.append_assoc.{0}) (aF (@List.getD_cons_zero.{0}) (@List.getD_cons_succ.{0})))) (aF (aF (@gN) (aF (@K7) (@cond_true.{1}))) (aF (@cond_false.{1}) (aF (@decide_true) (@decide_false)))))) (aF (aF (aF (aF (@FI) (@TZ)) (aF (@T0) (aF (@T1) (@T2)))) (aF (aF (@FJ) (aF (@T3) (@T4))) (aF (@T5) (aF (@K5) (@T6))))) (aF (aF (aF (@uu) (@T7)) (aF (@T8) (aF (@T9) (@T_)))) (aF (aF (@T') (aF (@Ua) (@Bool.not_true))) (aF (@Bool.not_false) (aF (@bne_self_eq_false.{0}) (@beq_self_eq_true.{0})))))))
set_option linter.unusedSimpArgs false
theorem aiG{sc:Bool}{w:Nat}{xs ys:List (List T)}(h:xs.length+ys.length<uX)(hs:(!sc||ys.all (·.all eA))=true)(h1:okW w xs=true)(h2:okW w ys=true):Prim.ev (.app sc w) [.l xs,.l ys]=some (.l (xs++ys)):=by
 simp only[Prim.ev,h,hs,h1,h2,if_true]
theorem qp{w:Nat}{ms:List Bool}{ts:List T}(hw:0<w)(hm:qE ms ts=true)(hl:ts.length=w):Prim.ev (.lit w ms) ts=some (.l [ts]):=by
 have h1:ts.length/w=1:=by rw[hl];exact Nat.div_self hw
 have h2:ts.take w=ts:=by rw[<-hl];exact List.take_length
 simp only[Prim.ev,hw,hm,h1,if_true,nT,h2]
set_option linter.unusedSimpArgs false
def yX:List (Nat×nU)->Nat->Option nU
 | [],_=>none
 |e::l,g=>bif Nat.beq e.1 g then some e.2 else yX l g
theorem Uq:∀{l:List (Nat×nU)} {g:Nat} {sg:nU},yX l g=some sg->(g,sg)∈l
 | [],_,_,h=>by cases h
 |e::l,g,sg,h=>by
  unfold yX at h
  cases hb:Nat.beq e.1 g with
  |true=>
   rw[hb]at h
   simp only[cond_true,bP]at h
   have:=ew hb
   subst this;subst h
   exact .head _
  |false=>
   rw[hb]at h
   exact .tail _ (Uq h)
def Cx.on(cx:Cx)(l:List (Nat×nU)):Cx:={cx with sg:=yX l}
def Lk(P:Program)(sg:nU)(g:Nat)(F:aA):Prop:=jK P g∧Fi P sg g F
structure Ll (P:Program) (cx:Cx):Prop where
 ez:eZ P cx
 dW:∀g fn,cx.fn g=some fn->P.funcs[g]?=some fn∧jK P g
 mx:P.follows .mixedOrders=true
def Ur:List ((Nat×Nat×Nat)×Js)->Nat->Nat->Nat->Option Js
 | [],_,_,_=>none
 |e::l,f,k,j=>bif Nat.beq e.1.1 f&&(Nat.beq e.1.2.1 k&&Nat.beq e.1.2.2 j)then some e.2 else Ur l f k j
def Us:List (Nat×Nat×Nat)->Nat->Nat->Nat->Bool
 | [],_,_,_=>false
 |e::l,f,k,j=>(Nat.beq e.1 f&&(Nat.beq e.2.1 k&&Nat.beq e.2.2 j))||Us l f k j
def Ut:List Nat->Nat->Bool
 | [],_=>false
 |e::l,f=>Nat.beq e f||Ut l f
theorem Lk.mk{P:Program}{cx:Cx}(Z:Ll P cx){R n g:Nat}{fn:Func}{sg:nU}{pl:PL}{l:List (Nat×nU)}{S:Nat->aA}(jH:jK P g)(hf:P.funcs[g]?=some fn)
  (hl:∀x∈l,Lk P x.2 x.1 (S x.1))(h:AX (cx.on l) n g fn sg=some pl):Lk P sg g λts=>pl.den S R [] ts:=
 ⟨jH,TN (cx:=cx.on l) ⟨⟨Z.ez.ty⟩,λg' sg' h'=>hl _ (Uq h'),Z.dW⟩ Z.mx hf h⟩
theorem jK.mk{P:Program}{g:Nat}{fn:Func}(h:P.funcs[g]?=some fn)(h1:(fn.name== "runtime.NumGoroutine")=false)(h2:fn.body.isNone=false):jK P g:=⟨fn,h,h1,h2⟩
structure BV (P:Program) where
 g:Nat
 sg:nU
 F:aA
 ok:Lk P sg g F
def Uu{P:Program}(l:List (BV P)):List (Nat×nU):=l.map λk=>(k.g,k.sg)
def kS{P:Program}(l:List (BV P)):List (Nat×aA):=l.map λk=>(k.g,k.F)
theorem Uv{P:Program}:∀{ks:List (BV P)} {g:Nat} {sg:nU},yX (Uu ks) g=some sg->Lk P sg g (pick (kS ks) g)
 | [],g,sg,h=>by cases h
 |k::ks,g,sg,h=>by
  simp only[Uu,List.map_cons,yX]at h
  simp only[kS,List.map_cons,pick]
  cases hb:Nat.beq k.g g with
  |true=>
   rw[hb,cond_true]at h
   cases h
   rw[cond_true,<-ew hb]
   exact k.ok
  |false=>
   rw[hb,cond_false]at h
   rw[cond_false]
   exact Uv h
def BV.i_{P:Program}{cx:Cx}(Z:Ll P cx)(g:Nat){fn:Func}(sg:nU)(pl:PL)(F:aA)(ks:List (BV P))(hf:P.funcs[g]?=some fn)(h:AX (cx.on (Uu ks)) 8 g fn sg=some pl)
  (h1:((fn.name== "runtime.NumGoroutine")||fn.body.isNone)=false)(hF:F=Fs pl (kS ks)):BV P:=
 ⟨g,sg,F,⟨fn,hf,(Bool.or_eq_false_iff.1 h1).1,(Bool.or_eq_false_iff.1 h1).2⟩,by
  rw[hF]
  exact TN (cx:=cx.on (Uu ks)) ⟨⟨Z.ez.ty⟩,λg' sg' h'=>Uv h',Z.dW⟩ Z.mx hf h⟩
def aiH(P:Program)(l:List (Nat×TI)):Bool:=l.all λx=>tyB P x.1 x.2
def BW:List (Nat×TI)->Nat->Option TI
 | [],_=>none
 |e::l,g=>bif Nat.beq e.1 g then some e.2 else BW l g
theorem Uw:∀{l:List (Nat×TI)} {g:Nat} {sg:TI},BW l g=some sg->(g,sg)∈l
 | [],_,_,h=>by cases h
 |e::l,g,sg,h=>by
  unfold BW at h
  cases hb:Nat.beq e.1 g with
  |true=>
   rw[hb]at h
   simp only[cond_true,bP]at h
   have:=ew hb
   subst this;subst h
   exact .head _
  |false=>
   rw[hb]at h
   exact .tail _ (Uw h)
theorem aiI{P:Program}{cx:Cx}{l:List (Nat×TI)}(h:aiH P l=true)(he:cx.ty=BW l):eZ P cx:=by
 refine⟨λt ti ht=>?_⟩
 rw[he]at ht
 exact afC (List.all_eq_true.1 h _ (Uw ht))
def FT:List (Nat×Func)->Nat->Option Func
 | [],_=>none
 |e::l,g=>bif Nat.beq e.1 g then some e.2 else FT l g
theorem aiJ{P:Program}{cx:Cx}{l:List (Nat×Func)}(h:∀x∈l,P.funcs[x.1]?=some x.2∧jK P x.1)(he:cx.fn=FT l):∀g fn,cx.fn g=some fn->P.funcs[g]?=some fn∧jK P g:=by
 intro g fn hg
 rw[he]at hg
 clear he
 induction l with
 |nil=>cases hg
 |cons e l ih=>
  unfold FT at hg
  cases hb:Nat.beq e.1 g with
  |true=>
   rw[hb]at hg
   simp only[cond_true,bP]at hg
   have:=ew hb
   subst this;subst hg
   exact h _ (.head _)
  |false=>
   rw[hb]at hg
   exact ih (λx hx=>h x (.tail _ hx)) hg
open Go.ChangeShapes Go.WideShapes Go.ChangeAt Go.RowKit
section
variable {P:Program}
def BX(P:Program)(r:TypeId->Option (List Ty)):Nat->List Field->Option (List Ty)
 |_,[]=>some []
 |o,f::fs=>bif Nat.beq f.offset o then(r f.type).bind λa=>bif Nat.beq (P.cellsOf f.type) a.length then(BX P r (o+a.length) fs).bind λb=>some (a++b)else none else none
def yY(P:Program):Nat->TypeId->Option (List Ty)
 |0,_=>none
 |n+1,t=>
  match P.underlying t with
  |some (.int k)=>some [.i k]
  |some .bool=>some [.b]
  |some .string=>some [.s]
  |some (.slice e)=>(yY P n e).bind λfs=>bif fs.isEmpty then none else some [.sl fs]
  |some (.struct fs)=>(BX P (yY P n) 0 fs.toList).bind λts=>bif Nat.beq ts.length (P.cellsOf t)then some ts else none
  |_=>none
variable {H:Type} {enc:TypeId×Value->H} {w:World} {base:Nat} {spare:Nat->Bool} {held:Bool} {ω:Nat->Option Lb}
theorem fa.append{ω:Nat->Option Lb}:∀{ts pP:List T} {vs uk:List Value},fa ω w ts vs->fa ω w pP uk->fa ω w (ts++pP) (vs++uk)
 | [],pP,[],uk,_,h'=>h'
 |t::ts,pP,v::vs,uk,h,h'=>⟨h.1,fa.append h.2 h'⟩
 | [],_,_::_,_,h,_=>h.elim
 |_::_,_,[],_,h,_=>h.elim
theorem Ux{r:TypeId->Option (List Ty)}{cs:List Value}:∀{fl:List Field} {o:Nat} {ys:List Ty},BX P r o fl=some ys->
  (∀f∈fl,∀a,r f.type=some a->∃ts,fa ω w ts ((cs.drop f.offset).take (P.cellsOf f.type))∧je a ts)->∃ts,fa ω w ts ((cs.drop o).take ys.length)∧je ys ts
 | [],o,ys,h,_=>by
  simp only[BX,bP]at h
  subst h
  exact⟨[],by simp[fa],rfl⟩
 |f::fl,o,ys,h,hr=>by
  unfold BX at h
  cases h1:Nat.beq f.offset o with
  |false=>simp[h1]at h
  |true=>
   simp only[h1,cond_true,cU]at h
   obtain⟨a,ha,h⟩:=h
   cases h2:Nat.beq (P.cellsOf f.type) a.length with
   |false=>simp[h2]at h
   |true=>
    simp only[h2,cond_true,cU,bP]at h
    obtain⟨b,hb,rfl⟩:=h
    have e1:=ew h1
    have e2:=ew h2
    obtain⟨t1,g1,g2⟩:=hr f (.head _) a ha
    obtain⟨t2,g3,g4⟩:=Ux hb λf hf=>hr f (.tail _ hf)
    refine⟨t1++t2,?_,g2.append g4⟩
    rw[e1,e2]at g1
    rw[List.length_append,List.take_add,List.drop_drop]
    exact g1.append g3
theorem aiK:∀(n m:Nat) {t:TypeId} {cs:List Value} {x:DataW H×List MemPlace} {fs:List Ty},DataW.trod enc P w 0 spare held n t cs=some x->yY P m t=some fs->
  (∀b,ω b=none)->∃ts,fa ω w ts cs∧je fs ts:=by
 intro n
 induction n with
 |zero=>intro m t cs x fs h;simp[DataW.trod]at h
 |succ n ih=>
  intro m t cs x fs h ht iE
  cases m with
  |zero=>cases ht
  |succ m=>
   unfold yY at ht
   cases hu:P.underlying t with
   |none=>rw[hu]at ht;cases ht
   |some u=>
    rw[hu]at ht
    cases u with
    |int k=>
     simp only[bP]at ht
     subst ht
     obtain⟨a,e0,e1,wa⟩:=DataW.trod_int hu h
     subst e0 e1
     exact⟨[.c (.int k a)],⟨.c rfl,trivial⟩,_,_,rfl,⟨_,rfl,wa⟩,rfl⟩
    |bool=>
     simp only[bP]at ht
     subst ht
     obtain⟨b,rfl,_⟩:=DataW.trod_bool hu h
     exact⟨[.c (.bool b)],⟨.c rfl,trivial⟩,_,_,rfl,⟨_,rfl⟩,rfl⟩
    |string=>
     simp only[bP]at ht
     subst ht
     obtain⟨s,rfl,_,hs⟩:=DataW.trod_string hu h
     exact⟨[.c (.string s)],⟨.c rfl,trivial⟩,_,_,rfl,⟨_,rfl,hs⟩,rfl⟩
    |slice e=>
     simp only[cU]at ht
     obtain⟨gs,hg,ht⟩:=ht
     cases hz:gs.isEmpty with
     |true=>simp[hz]at ht
     |false=>
      simp only[hz,cond_false,bP]at ht
      subst ht
      rcases DataW.trod_slice hu h with⟨rfl,_⟩|⟨a,len,cap,elems,rest,n',e1,rfl,_,_,hlc,hcm,vk,bR,_⟩
      ·exact⟨[.l []],⟨.nil,trivial⟩,_,_,rfl,⟨[],rfl,Nat.zero_le _,by simp⟩,rfl⟩
      ·cases e1
       have each:∀i,i<len->∃vs ts,w.cells? 0 (a.add (i*P.cellsOf e)) (P.cellsOf e)=some vs∧fa ω w ts vs∧je gs ts:=by
        intro i hi
        have h1:=bR i hi
        rw[<-vk]at hi
        rw[List.getElem?_eq_getElem hi,cU]at h1
        obtain⟨vs,g1,g2⟩:=h1
        obtain⟨ts,g3,g4⟩:=ih m g2 hg iE
        exact⟨vs,ts,g1,g3,g4⟩
       by_cases h0:len=0
       ·subst h0
        exact⟨[.l []],⟨.nil,trivial⟩,_,_,rfl,⟨[],rfl,Nat.zero_le _,by simp⟩,rfl⟩
       ·have hc:=λi=>λhi:i<len=>Classical.choose_spec (each i hi)
        let vf:Nat->List Value:=λi=>if hi:i<len then Classical.choose (each i hi)else []
        have hv:∀i,i<len->∃ts,w.cells? 0 (a.add (i*P.cellsOf e)) (P.cellsOf e)=some (vf i)∧fa ω w ts (vf i)∧je gs ts:=by
         intro i hi
         have:vf i=Classical.choose (each i hi):=by simp[vf,hi]
         rw[this]
         exact hc i hi
        have ht:∃tf:Nat->List T,∀i,i<len->w.cells? 0 (a.add (i*P.cellsOf e)) (P.cellsOf e)=some (vf i)∧fa ω w (tf i) (vf i)∧je gs (tf i):=by
         refine⟨λi=>if hi:i<len then Classical.choose (hv i hi)else [],λi hi=>?_⟩
         have:=Classical.choose_spec (hv i hi)
         simpa[hi]using this
        obtain⟨tf,D7⟩:=ht
        have qG:∀i,i<len->(vf i).length=P.cellsOf e:=λi hi=>(World.cells?_some (D7 i hi).1).2.1
        have hgl:∀i,i<len->(tf i).length=gs.length:=λi hi=>(D7 i hi).2.2.length
        have hwp:0<P.cellsOf e:=by
         have h1:=qG 0 (by omega)
         have h2:=hgl 0 (by omega)
         have h3:=(D7 0 (by omega)).2.1.length
         cases gs with
         |nil=>simp at hz
         |cons _ _=>simp at h2;omega
        obtain⟨b,off,spot⟩:=a
        have qd:∀i j,i<len->j<P.cellsOf e->w.cell? ((⟨b,off,spot⟩:Addr).add (i*P.cellsOf e) |>.add j)=(vf i)[j]?:=λi j hi hj=>(World.cells?_some (D7 i hi).1).2.2 j hj
        have Uy:spot=none:=by
         have:=qd 0 0 (by omega) hwp
         simp only[Nat.zero_mul,Addr.add,if_true]at this
         have hl:0<(vf 0).length:=by rw[qG 0 (by omega)];exact hwp
         rw[List.getElem?_eq_getElem hl]at this
         unfold World.cell? at this
         split at this
         ·split at this
          ·cases this
          ·rename_i h;simpa using h
         ·cases this
        subst Uy
        have Fz:∀i j,((⟨b,off,none⟩:Addr).add (i*P.cellsOf e) |>.add j)=⟨b,off+(i*P.cellsOf e+j),none⟩:=by
         intro i j
         have e1:∀k,(⟨b,off,none⟩:Addr).add k=⟨b,off+k,none⟩:=by
          intro k
          unfold Addr.add
          split
          ·rename_i h;subst h;rfl
          ·rfl
         have e2:∀o k,(⟨b,o,none⟩:Addr).add k=⟨b,o+k,none⟩:=by
          intro o k
          unfold Addr.add
          split
          ·rename_i h;subst h;rfl
          ·rfl
         rw[e1,e2,Nat.add_assoc]
        have bC:b<w.heap.size:=by
         have:=World.cells?_block (D7 0 (by omega)).1 hwp
         rw[Nat.zero_mul]at this
         exact this
        have lP:∀i j t,eg ((List.range len).map tf) i j=some t->i<len∧(tf i)[j]?=some t:=by
         intro i j t h
         unfold eg at h
         rw[cU]at h
         obtain⟨r,h1,h2⟩:=h
         rw[List.getElem?_map,Option.map_eq_some_iff]at h1
         obtain⟨i',h3,rfl⟩:=h1
         have hi:i<len:=by
          rcases Nat.lt_or_ge i len with h|h
          ·exact h
          ·rw[List.getElem?_eq_none (by simpa using h)]at h3;cases h3
         rw[List.getElem?_range hi]at h3
         cases h3
         exact⟨hi,h2⟩
        refine⟨[.l ((List.range len).map tf)],⟨?_,trivial⟩,_,_,rfl,⟨_,rfl,by simp;omega,?_⟩,rfl⟩
        ·have:=fq.l (ω:=ω) (w:=w) (xs:=(List.range len).map tf) (b:=b) (off:=off) (wd:=P.cellsOf e) (cap:=cap) (cv:=λi j=>((vf i)[j]?).getD default)
          (by
           intro r hr
           rw[List.mem_map]at hr
           obtain⟨i,hi,rfl⟩:=hr
           have hi:=List.mem_range.1 hi
           rw[(D7 i hi).2.1.length,qG i hi])
          (by simpa using hlc) (iE b) bC
          (by
           intro i j t h
           obtain⟨hi,hj⟩:=lP i j t h
           have qY:j<(vf i).length:=by rw[<-(D7 i hi).2.1.length];exact(List.getElem?_eq_some_iff.1 hj).1
           have:=qd i j hi (by rw[<-qG i hi];exact qY)
           rw[Fz]at this
           rw[this,List.getElem?_eq_getElem qY]
           rfl)
          (by
           intro i j t h
           obtain⟨hi,hj⟩:=lP i j t h
           have qY:j<(vf i).length:=by rw[<-(D7 i hi).2.1.length];exact(List.getElem?_eq_some_iff.1 hj).1
           refine(D7 i hi).2.1.get j t _ hj ?_
           rw[List.getElem?_eq_getElem qY]
           rfl)
         simpa using this
        ·intro r hr
         rw[List.mem_map]at hr
         obtain⟨i,hi,rfl⟩:=hr
         exact(D7 i (List.mem_range.1 hi)).2.2
    |struct fl=>
     simp only[cU]at ht
     obtain⟨ys,hy,ht⟩:=ht
     cases hz:Nat.beq ys.length (P.cellsOf t)with
     |false=>simp[hz]at ht
     |true=>
      simp only[hz,cond_true,bP]at ht
      subst ht
      obtain⟨xs,n',e1,_,hl,Bw,bR⟩:=DataW.trod_struct hu h
      cases e1
      obtain⟨ts,h1,h2⟩:=Ux (ω:=ω) (w:=w) (cs:=cs) hy λf hf a ha=>by
       obtain⟨i,hi,hfi⟩:=List.getElem_of_mem hf
       have h1:=bR i f (by rw[<-hfi,<-Array.getElem?_toList];exact List.getElem?_eq_getElem hi)
       have aU:i<xs.length:=by rw[Bw];simpa using hi
       rw[List.getElem?_eq_getElem aU]at h1
       exact ih m h1 ha iE
      refine⟨ts,?_,h2⟩
      rw[List.drop_zero,ew hz,<-hl,List.take_length]at h1
      exact h1
    |_=>cases ht
def Lm(P:Program)(t:TypeId):Bool:=
 match P.underlying t with
 |some (.struct _)=>true
 |_=>false
def FU(P:Program):List TypeId->List PS->Option (List Ty)
 | [],[]=>some []
 |t::ts,.v ag n::ps=>(yY P 16 t).bind λfs=>bif Nat.beq fs.length n&&(Lm P t==ag)then(FU P ts ps).bind λgs=>some (fs++gs)else none
 |_,_=>none
theorem Uz{bl:Nat->Option Nat}(iE:∀b,ω b=none){r:Reach}{b0:Nat}:∀{ts:List TypeId} {vs:List Value} {ds:List (DataW H)} {pl:List MemPlace} {ps:List PS} {ys:List Ty} {i:Nat},DataW.TrodAll enc P w 0 spare held ts vs ds pl->
  (∀(j:Nat) t v,ts[j]?=some t->vs[j]?=some v->Value.okWide P w r b0 t v)->FU P ts ps=some ys->∃us,yK ω w bl i ps vs us∧je ys us
 | [],[],[],pl,ps,ys,i,h,hv,hp=>by
  cases ps with
  |nil=>simp only[FU,bP]at hp;subst hp;exact⟨[],⟨rfl,rfl⟩,rfl⟩
  |cons _ _=>simp[FU]at hp
 |t::ts,v::vs,d::ds,pl,ps,ys,i,⟨p,q,h1,h2,e⟩,hv,hp=>by
  cases ps with
  |nil=>simp[FU]at hp
  |cons p0 ps=>
   cases p0 with
   |x n=>simp[FU]at hp
   |v ag n=>
    simp only[FU,cU]at hp
    obtain⟨fs,vd,hp⟩:=hp
    cases hc:(Nat.beq fs.length n&&(Lm P t==ag))with
    |false=>simp[hc]at hp
    |true=>
     simp only[hc,cond_true,cU,bP]at hp
     obtain⟨gs,FV,rfl⟩:=hp
     simp only[bL,beq_iff_eq]at hc
     obtain⟨us,g1,g2⟩:=Uz (bl:=bl) (i:=i+1) iE h2 (λj t v hj qY=>hv (j+1) t v hj qY) FV
     obtain⟨f,h1⟩:=h1
     obtain⟨t1,g3,g4⟩:=aiK f 16 h1 vd iE
     have cV:=hv 0 t v rfl rfl
     refine⟨t1++us,⟨v,vs,v.cells.toList,t1,us,rfl,rfl,by rw[g4.length];exact ew hc.1,?_,g3,g1⟩,g4.append g2⟩
     have hs:=hc.2
     unfold Lm at hs
     unfold yY at vd
     cases hu:P.underlying t with
     |none=>rw[hu]at vd;cases vd
     |some u=>
      rw[hu]at vd hs
      cases u with
      |int k=>obtain⟨a,rfl⟩:=okWide_int hu cV;subst hs;exact⟨rfl,λx h=>by cases h⟩
      |bool=>obtain⟨a,rfl⟩:=okWide_bool hu cV;subst hs;exact⟨rfl,λx h=>by cases h⟩
      |string=>obtain⟨a,rfl⟩:=okWide_string hu cV;subst hs;exact⟨rfl,λx h=>by cases h⟩
      |slice e=>obtain⟨a,l,c,rfl⟩:=okWide_slice hu cV;subst hs;exact⟨rfl,λx h=>by cases h⟩
      |struct fl=>
       obtain⟨cs,rfl,_⟩:=okWide_struct hu cV
       subst hs
       simp[Value.cells]
      |_=>cases vd
 | [],_::_,_,_,_,_,_,h,_,_=>by simp[DataW.TrodAll]at h
 | [],[],_::_,_,_,_,_,h,_,_=>by simp[DataW.TrodAll]at h
 |_::_,[],_,_,_,_,_,h,_,_=>by simp[DataW.TrodAll]at h
 |_::_,_::_,[],_,_,_,_,h,_,_=>by simp[DataW.TrodAll]at h
theorem UA(hl:laidOutB P=true){W W':World}{sp':Nat->Bool}:∀{ts:List TypeId} {vs:List Value} {ds:List (DataW H)} {ps:List MemPlace},(∀t∈ts,P.readableRec t=true∧t<P.types.size)->
  DataW.TrodAll enc P W base (λ_=>true) true ts vs ds ps->(∀p∈ps,W.sameAt W' p)->(∀p∈ps,sp' p.block=true)->DataW.TrodAll enc P W' base sp' true ts vs ds ps
 | [],[],[],_,_,h,_,_=>h
 |t::ts,_::_,_::_,_,hT,⟨p,q,h1,h2,e⟩,hs,hb=>⟨p,q,WideElems.Trod_stays hl (hT t (.head _)).1 (hT t (.head _)).2 h1 (λx hx=>hs x (by rw[e];exact List.mem_append_left _ hx)) (λx hx=>hb x (by rw[e];exact List.mem_append_left _ hx)),
   UA hl (λt ht=>hT t (.tail _ ht)) h2 (λx hx=>hs x (by rw[e];exact List.mem_append_right _ hx)) (λx hx=>hb x (by rw[e];exact List.mem_append_right _ hx)),e⟩
 | [],_::_,_,_,_,h,_,_=>by simp[DataW.TrodAll]at h
 | [],[],_::_,_,_,h,_,_=>by simp[DataW.TrodAll]at h
 |_::_,[],_,_,_,h,_,_=>by simp[DataW.TrodAll]at h
 |_::_,_::_,[],_,_,h,_,_=>by simp[DataW.TrodAll]at h
end
theorem aiO{H:Type}{enc:TypeId×Value->H}{C:Checked}{f:FuncId}{fn:Func}{s:ChangeSpec}{apart fresh handsOn again:Bool}{sg:nU}{F:aA}{ys:List Ty}{rt:TypeId}
  (uz:s.vars=[])(o4:∀ds:List (DataW H),ds.length=fn.params.size->s.fn H ds={results:=[.lit (.bool true)],args:=ds})
  (hl:laidOutB C.prog=true)(uq:(fn.params.toList.all λt=>C.prog.readableRec t&&Nat.blt t C.prog.types.size)=true)
  (hrt:fn.resultTypes=#[rt])(xA:C.prog.underlying rt=some .bool)(KB:sg.rs=[(false,[.s])])
  (cV:Lk C.prog sg f F)(Ad:FU C.prog fn.params.toList sg.ps=some ys)(hF:∀ts,je ys ts->F ts=some [.c (.bool true)])
  (W:World)(b0:Nat)(args:Array Value)(ds gs:List (DataW H))(before:List MemPlace)
  (iG:∀(j:Nat) t v,fn.params[j]?=some t->args[j]?=some v->Value.okWide C.prog W .any b0 t v)
  (hW:DataW.Whole enc C.prog fn.params.toList s.vars apart W args.toList ds gs before)(UB:EV (λ_=>none) W):
  Calls C.prog f args W λe W'=>∃v,e=.returned v∧s.post enc C.prog fn apart fresh handsOn again W args v W':=by
 have tq:=hW
 obtain⟨p,q,hA,hV,rfl,_,_⟩:=hW
 rw[uz]at hV
 obtain⟨rfl,rfl⟩:gs=[]∧q=[]:=by
  cases gs with
  |nil=>exact⟨rfl,hV⟩
  |cons _ _=>exact hV.elim
 have hlen:ds.length=fn.params.size:=by
  have:∀{ts:List TypeId} {vs:List Value} {ds:List (DataW H)} {ps:List MemPlace},DataW.TrodAll enc C.prog W 0 (λ_=>true) true ts vs ds ps->ds.length=ts.length:=by
   intro ts
   induction ts with
   |nil=>intro vs ds ps h;cases vs<;>cases ds<;>simp_all[DataW.TrodAll]
   |cons t ts ih=>
    intro vs ds ps h
    cases vs with
    |nil=>simp[DataW.TrodAll]at h
    |cons v vs=>
     cases ds with
     |nil=>simp[DataW.TrodAll]at h
     |cons d ds=>obtain⟨_,_,_,h2,_⟩:=h;simp[ih h2]
  rw[this hA];simp
 have hT:∀t∈fn.params.toList,C.prog.readableRec t=true∧t<C.prog.types.size:=by
  intro t ht
  have:=List.all_eq_true.1 uq t ht
  simp only[bL]at this
  exact⟨this.1,Nat.blt_eq▸this.2⟩
 obtain⟨us,jH,Ln⟩:=Uz (ω:=λ_=>none) (bl:=λ_=>none) (i:=0) (λ_=>rfl) hA (λj t v h1 h2=>iG j t v (by simpa using h1) (by simpa using h2)) Ad
 have hc:=cV.2 W (λ_=>none) (λ_=>none) args.toList us _ (hF us Ln) ⟨λb l h=>by(cases h),λi b h=>by(cases h),UB⟩ jH
 rw[Array.toArray_toList]at hc
 refine hc.mono λe W' h=>?_
 obtain⟨v,G,is,o1,o2,rfl,hp⟩:=h
 refine⟨v,rfl,?_⟩
 have hold:∀x∈p++[],MemPlace.block x<W.heap.size:=tq.lt
 have ua:∀b,b<W.heap.size->W'.heap[b]?=W.heap[b]?:=λb hb=>(hp.free b hb rfl).2
 have ub:∀x∈p,W.sameAt W' x:=by
  intro x hx
  have hb:=hold x (by simpa using hx)
  cases x with
  |cell b o=>show W'.cell? _=W.cell? _;unfold World.cell?;rw[ua b hb]
  |map b=>exact ua b hb
 have hv:v=.bool true:=by
  have h1:=hp.ret
  rw[KB]at h1
  obtain⟨t1,t2,i1,i2,e1,e2,h1,h2⟩:=h1
  obtain⟨h1,_⟩:=h1
  have h3:=hp.outs
  rw[e1]at h3
  cases t1 with
  |nil=>simp[ci]at h1
  |cons t t1=>
   cases i1 with
   |nil=>simp[ci]at h1
   |cons i i1=>
    simp only[List.cons_append,List.cons.injEq]at h3
    rw[<-h3.1]at h1
    obtain⟨_,hd,_⟩:=h1
    cases hd
    rfl
 subst hv
 have fI:=λsp ko=>UA (enc:=enc) (base:=0) (sp':=sp) hl hT hA ub ko
 have ko:=o4 ds hlen
 have Ki:∀(j:Nat) (t:TypeId) (r:Value),fn.resultTypes[j]?=some t->((Value.bool true).resultList fn.resultTypes.size)[j]?=some r->Value.okWide C.prog W' .any 0 t r:=by
  intro j t r hj hr
  rw[hrt]at hj hr
  have hj0:j=0:=by
   rcases Nat.eq_zero_or_pos j with h|h
   ·exact h
   ·have:(#[rt]:Array TypeId)[j]?=none:=by simp;omega
    rw[this]at hj;cases hj
  subst hj0
  cases hj;cases hr
  simp[Value.okWide,xA,Cell.okWide,Cell.ok]
 have UC:∀(b:Nat) (sp:Nat->Bool) (hd:Bool),DataW.TrodAll enc C.prog W' b sp hd fn.resultTypes.toList ((Value.bool true).resultList fn.resultTypes.size) (s.fn H (ds++[])).results []:=by
  intro b sp hd
  rw[List.append_nil,ko,hrt]
  exact⟨[],[],⟨1,by simp[DataW.trod,xA,Value.cells]⟩,rfl,rfl⟩
 have UD:∀sp:Nat->Bool,(∀x∈p,sp x.block=true)->DataW.TrodAll enc C.prog W' 0 sp true fn.params.toList args.toList (s.fn H (ds++[])).args p:=by
  intro sp hs
  rw[List.append_nil,ko]
  exact fI sp hs
 have aiP:∀sp:Nat->Bool,DataW.TrodVars enc C.prog W' sp s.vars (s.fn H (ds++[])).vars []:=by
  intro sp
  rw[List.append_nil,ko,uz]
  rfl
 have hW2:=tq
 obtain⟨_,_,_,_,_,hz,hn⟩:=hW2
 refine⟨ds,[],p++[],[],p,[],tq,UC _ _ _,UD _ (λx hx=>decide_eq_true (hold x (by simpa using hx))),aiP _,⟨hp.so.os,hp.so.output,λi hi=>?_⟩,λ_=>⟨Ki,_,[],p++[],⟨[]++p,[],trodAll_append (UD _ λ_ _=>rfl) (UC _ _ _),by rw[uz];rfl,rfl,?_,hn⟩,?_⟩⟩
 ·rw[ua i hi]
  cases W.heap[i]? with
  |none=>trivial
  |some o=>cases o<;>simp
 ·intro b off hm
  have h1:=hz b off hm
  have hb:=hold _ hm
  unfold World.frozen? at h1⊢
  rw[show W'.heap[(⟨b,off,none⟩:Addr).block]?=W.heap[(⟨b,off,none⟩:Addr).block]? from ua b hb]
  exact h1
 ·intro x hx _
  exact hx
theorem aiQ{H:Type}{enc:TypeId×Value->H}{C:Checked}{os:Os}{f:FuncId}{fn:Func}{s:ChangeSpec}{conds:List PathCond}{apart fresh handsOn again:Bool}{sg:nU}{F:aA}{ys:List Ty}{rt:TypeId}
  (own:ownKnob C.prog.godebug=none)(started:os.Started)(Lp:C.prog.inits.idxOf? f=none)(SN:C.prog.funcs[f]?=some fn)
  (witness:∃(w:World) (tape:Tape) (i:Input),w.os=os∧(w.forCall tape i).Shaped C.prog∧i.vars=[]∧Input.okWide C.prog (w.forCall tape i) .any w.heap.size f i∧
   s.pre6 enc C.prog fn conds apart (w.forCall tape i).memory i.args∧({}:Assume).holds C.prog (lone (Frame.enter C.prog f i.args .normal) [] (w.forCall tape i)))
  (uz:s.vars=[])(o4:∀ds:List (DataW H),ds.length=fn.params.size->s.fn H ds={results:=[.lit (.bool true)],args:=ds})
  (hl:laidOutB C.prog=true)(uq:(fn.params.toList.all λt=>C.prog.readableRec t&&Nat.blt t C.prog.types.size)=true)
  (hrt:fn.resultTypes=#[rt])(xA:C.prog.underlying rt=some .bool)(KB:sg.rs=[(false,[.s])])
  (cV:Lk C.prog sg f F)(Ad:FU C.prog fn.params.toList sg.ps=some ys)(hF:∀ts,je ys ts->F ts=some [.c (.bool true)])(hgl:Rg=[]:=by rfl):
  ReturnsInHanded {} C os f .any (s.pre6 enc C.prog fn conds apart) (s.post enc C.prog fn apart fresh handsOn again):=by
 refine returnsInHanded_of_change own started Lp SN witness ?_
 intro W b0 args ds gs before iG hW _ _
 exact aiO uz o4 hl uq hrt xA KB cV Ad hF W b0 args ds gs before iG hW (λx hx=>by rw[hgl]at hx;cases hx)
def pv(p:Prim)(l:List T)(k:T->Option (List T)):Option (List T):=(Prim.ev p l).bind k
theorem UE(p:Prim)(l:List T)(k:T->Option (List T)):pv p l k=(Prim.ev p l).bind k:=rfl
def Yz(x:T)(k:T->Option (List T)):Option (List T):=(Prim.ev (.rP) [x]).bind k
theorem aiR(x:T)(k:T->Option (List T)):Yz x k=(Prim.ev (.rP) [x]).bind k:=rfl
def Ya(x y:T)(k:T->Option (List T)):Option (List T):=(Prim.ev (.bin .add) [x,y]).bind k
theorem aiS(x y:T)(k:T->Option (List T)):Ya x y k=(Prim.ev (.bin .add) [x,y]).bind k:=rfl
def Yb(x y:T)(k:T->Option (List T)):Option (List T):=(Prim.ev (.lk) [x,y]).bind k
theorem aiT(x y:T)(k:T->Option (List T)):Yb x y k=(Prim.ev (.lk) [x,y]).bind k:=rfl
def Yl(x y:T)(k:T->Option (List T)):Option (List T):=(Prim.ev (.bin .lss) [x,y]).bind k
theorem aiU(x y:T)(k:T->Option (List T)):Yl x y k=(Prim.ev (.bin .lss) [x,y]).bind k:=rfl
def Ye(x y:T)(k:T->Option (List T)):Option (List T):=(Prim.ev (.bin .eql) [x,y]).bind k
theorem aiV(x y:T)(k:T->Option (List T)):Ye x y k=(Prim.ev (.bin .eql) [x,y]).bind k:=rfl
def Yn(x:T)(k:T->Option (List T)):Option (List T):=(Prim.ev (.len) [x]).bind k
theorem aiW(x:T)(k:T->Option (List T)):Yn x k=(Prim.ev (.len) [x]).bind k:=rfl
def Yt(x:T)(k:T->Option (List T)):Option (List T):=(Prim.ev (.un .not) [x]).bind k
theorem aiX(x:T)(k:T->Option (List T)):Yt x k=(Prim.ev (.un .not) [x]).bind k:=rfl
def Yp(x y:T)(k:T->Option (List T)):Option (List T):=(Prim.ev (.app true 1) [x,y]).bind k
theorem aiY(x y:T)(k:T->Option (List T)):Yp x y k=(Prim.ev (.app true 1) [x,y]).bind k:=rfl
def Yo(x y:T)(k:T->Option (List T)):Option (List T):=(Prim.ev (.app false 3) [x,y]).bind k
theorem aiZ(x y:T)(k:T->Option (List T)):Yo x y k=(Prim.ev (.app false 3) [x,y]).bind k:=rfl
def Yu(x y:T)(k:T->Option (List T)):Option (List T):=(Prim.ev (.bin .neq) [x,y]).bind k
theorem ai0(x y:T)(k:T->Option (List T)):Yu x y k=(Prim.ev (.bin .neq) [x,y]).bind k:=rfl
def Yg(x y:T)(k:T->Option (List T)):Option (List T):=(Prim.ev (.bin .gtr) [x,y]).bind k
theorem ai1(x y:T)(k:T->Option (List T)):Yg x y k=(Prim.ev (.bin .gtr) [x,y]).bind k:=rfl
def Ym(x y:T)(k:T->Option (List T)):Option (List T):=(Prim.ev (.bin .leq) [x,y]).bind k
theorem ai2(x y:T)(k:T->Option (List T)):Ym x y k=(Prim.ev (.bin .leq) [x,y]).bind k:=rfl
def Yh(x y:T)(k:T->Option (List T)):Option (List T):=(Prim.ev (.bin .geq) [x,y]).bind k
theorem ai3(x y:T)(k:T->Option (List T)):Yh x y k=(Prim.ev (.bin .geq) [x,y]).bind k:=rfl
def Ys(x y:T)(k:T->Option (List T)):Option (List T):=(Prim.ev (.bin .sub) [x,y]).bind k
theorem ai4(x y:T)(k:T->Option (List T)):Ys x y k=(Prim.ev (.bin .sub) [x,y]).bind k:=rfl
def Yv(x y:T)(k:T->Option (List T)):Option (List T):=(Prim.ev (.sub 1 true false) [x,y]).bind k
theorem ai5(x y:T)(k:T->Option (List T)):Yv x y k=(Prim.ev (.sub 1 true false) [x,y]).bind k:=rfl
def Yw(x y:T)(k:T->Option (List T)):Option (List T):=(Prim.ev (.sub 1 false true) [x,y]).bind k
theorem ai6(x y:T)(k:T->Option (List T)):Yw x y k=(Prim.ev (.sub 1 false true) [x,y]).bind k:=rfl
def Yx(x:T)(k:T->Option (List T)):Option (List T):=(Prim.ev (.lit 1 [true]) [x]).bind k
theorem ai7(x:T)(k:T->Option (List T)):Yx x k=(Prim.ev (.lit 1 [true]) [x]).bind k:=rfl
def Yy(x y:T)(k:T->Option (List T)):Option (List T):=(Prim.ev (.app false 8) [x,y]).bind k
theorem ai8(x y:T)(k:T->Option (List T)):Yy x y k=(Prim.ev (.app false 8) [x,y]).bind k:=rfl
def Yc(w j:Nat)(x y:T)(k:T->Option (List T)):Option (List T):=(Prim.ev (.cell w j) [x,y]).bind k
theorem ai9(w j:Nat)(x y:T)(k:T->Option (List T)):Yc w j x y k=(Prim.ev (.cell w j) [x,y]).bind k:=rfl
def Yq(x y:T)(k:T->Option (List T)):Option (List T):=(Prim.ev .lk [x,y]).bind λ_=>(Prim.ev (.bF 1 0) [x,y]).bind k
theorem ai_(x y:T)(k:T->Option (List T)):Yq x y k=(Prim.ev .lk [x,y]).bind λ_=>(Prim.ev (.bF 1 0) [x,y]).bind k:=rfl
def Y1(x y:T)(k:T->Option (List T)):Option (List T):=(Prim.ev .lk [x,y]).bind λ_=>(Prim.ev (.cell 1 0) [x,y]).bind λa0=>k a0
theorem ai'(x y:T)(k:T->Option (List T)):Y1 x y k=(Prim.ev .lk [x,y]).bind λ_=>(Prim.ev (.cell 1 0) [x,y]).bind λa0=>k a0:=rfl
def Y2(x y:T)(k:T->T->Option (List T)):Option (List T):=(Prim.ev .lk [x,y]).bind λ_=>(Prim.ev (.cell 2 0) [x,y]).bind λa0=>(Prim.ev (.cell 2 1) [x,y]).bind λa1=>k a0 a1
theorem aja(x y:T)(k:T->T->Option (List T)):Y2 x y k=(Prim.ev .lk [x,y]).bind λ_=>(Prim.ev (.cell 2 0) [x,y]).bind λa0=>(Prim.ev (.cell 2 1) [x,y]).bind λa1=>k a0 a1:=rfl
def Y3(x y:T)(k:T->T->T->Option (List T)):Option (List T):=(Prim.ev .lk [x,y]).bind λ_=>(Prim.ev (.cell 3 0) [x,y]).bind λa0=>(Prim.ev (.cell 3 1) [x,y]).bind λa1=>(Prim.ev (.cell 3 2) [x,y]).bind λa2=>k a0 a1 a2
theorem ajb(x y:T)(k:T->T->T->Option (List T)):Y3 x y k=(Prim.ev .lk [x,y]).bind λ_=>(Prim.ev (.cell 3 0) [x,y]).bind λa0=>(Prim.ev (.cell 3 1) [x,y]).bind λa1=>(Prim.ev (.cell 3 2) [x,y]).bind λa2=>k a0 a1 a2:=rfl
def Y4(x y:T)(k:T->T->T->T->Option (List T)):Option (List T):=(Prim.ev .lk [x,y]).bind λ_=>(Prim.ev (.cell 4 0) [x,y]).bind λa0=>(Prim.ev (.cell 4 1) [x,y]).bind λa1=>(Prim.ev (.cell 4 2) [x,y]).bind λa2=>(Prim.ev (.cell 4 3) [x,y]).bind λa3=>k a0 a1 a2 a3
theorem ajc(x y:T)(k:T->T->T->T->Option (List T)):Y4 x y k=(Prim.ev .lk [x,y]).bind λ_=>(Prim.ev (.cell 4 0) [x,y]).bind λa0=>(Prim.ev (.cell 4 1) [x,y]).bind λa1=>(Prim.ev (.cell 4 2) [x,y]).bind λa2=>(Prim.ev (.cell 4 3) [x,y]).bind λa3=>k a0 a1 a2 a3:=rfl
def Y6(x y:T)(k:T->T->T->T->T->T->Option (List T)):Option (List T):=(Prim.ev .lk [x,y]).bind λ_=>(Prim.ev (.cell 6 0) [x,y]).bind λa0=>(Prim.ev (.cell 6 1) [x,y]).bind λa1=>(Prim.ev (.cell 6 2) [x,y]).bind λa2=>(Prim.ev (.cell 6 3) [x,y]).bind λa3=>(Prim.ev (.cell 6 4) [x,y]).bind λa4=>(Prim.ev (.cell 6 5) [x,y]).bind λa5=>k a0 a1 a2 a3 a4 a5
theorem ajd(x y:T)(k:T->T->T->T->T->T->Option (List T)):Y6 x y k=(Prim.ev .lk [x,y]).bind λ_=>(Prim.ev (.cell 6 0) [x,y]).bind λa0=>(Prim.ev (.cell 6 1) [x,y]).bind λa1=>(Prim.ev (.cell 6 2) [x,y]).bind λa2=>(Prim.ev (.cell 6 3) [x,y]).bind λa3=>(Prim.ev (.cell 6 4) [x,y]).bind λa4=>(Prim.ev (.cell 6 5) [x,y]).bind λa5=>k a0 a1 a2 a3 a4 a5:=rfl
def Y8(x y:T)(k:T->T->T->T->T->T->T->T->Option (List T)):Option (List T):=(Prim.ev .lk [x,y]).bind λ_=>(Prim.ev (.cell 8 0) [x,y]).bind λa0=>(Prim.ev (.cell 8 1) [x,y]).bind λa1=>(Prim.ev (.cell 8 2) [x,y]).bind λa2=>(Prim.ev (.cell 8 3) [x,y]).bind λa3=>(Prim.ev (.cell 8 4) [x,y]).bind λa4=>(Prim.ev (.cell 8 5) [x,y]).bind λa5=>(Prim.ev (.cell 8 6) [x,y]).bind λa6=>(Prim.ev (.cell 8 7) [x,y]).bind λa7=>k a0 a1 a2 a3 a4 a5 a6 a7
theorem aje(x y:T)(k:T->T->T->T->T->T->T->T->Option (List T)):Y8 x y k=(Prim.ev .lk [x,y]).bind λ_=>(Prim.ev (.cell 8 0) [x,y]).bind λa0=>(Prim.ev (.cell 8 1) [x,y]).bind λa1=>(Prim.ev (.cell 8 2) [x,y]).bind λa2=>(Prim.ev (.cell 8 3) [x,y]).bind λa3=>(Prim.ev (.cell 8 4) [x,y]).bind λa4=>(Prim.ev (.cell 8 5) [x,y]).bind λa5=>(Prim.ev (.cell 8 6) [x,y]).bind λa6=>(Prim.ev (.cell 8 7) [x,y]).bind λa7=>k a0 a1 a2 a3 a4 a5 a6 a7:=rfl
def jn(k:aA)(b:aA->Option (List T)):Option (List T):=b k
def aY(o:Option (List T))(k:T->Option (List T)):Option (List T):=o.bind λts=>k (ts.getD 0 T.bQ)
theorem UF(x0:T)(k:T->Option (List T)):aY (some [x0]) k=k x0:=rfl
def dz(k:T->Option (List T)):aA:=λts=>k (ts.getD 0 T.bQ)
theorem UG(x0:T)(k:T->Option (List T)):dz k [x0]=k x0:=rfl
def FW(o:Option (List T))(k:T->T->Option (List T)):Option (List T):=o.bind λts=>k (ts.getD 0 T.bQ) (ts.getD 1 T.bQ)
theorem ajf(x0 x1:T)(k:T->T->Option (List T)):FW (some [x0,x1]) k=k x0 x1:=rfl
def di(k:T->T->Option (List T)):aA:=λts=>k (ts.getD 0 T.bQ) (ts.getD 1 T.bQ)
theorem UH(x0 x1:T)(k:T->T->Option (List T)):di k [x0,x1]=k x0 x1:=rfl
def mQ(o:Option (List T))(k:T->T->T->Option (List T)):Option (List T):=o.bind λts=>k (ts.getD 0 T.bQ) (ts.getD 1 T.bQ) (ts.getD 2 T.bQ)
theorem ajg(x0 x1 x2:T)(k:T->T->T->Option (List T)):mQ (some [x0,x1,x2]) k=k x0 x1 x2:=rfl
def sD(k:T->T->T->Option (List T)):aA:=λts=>k (ts.getD 0 T.bQ) (ts.getD 1 T.bQ) (ts.getD 2 T.bQ)
theorem UI(x0 x1 x2:T)(k:T->T->T->Option (List T)):sD k [x0,x1,x2]=k x0 x1 x2:=rfl
def fe(o:Option (List T))(k:T->T->T->T->Option (List T)):Option (List T):=o.bind λts=>k (ts.getD 0 T.bQ) (ts.getD 1 T.bQ) (ts.getD 2 T.bQ) (ts.getD 3 T.bQ)
theorem ajh(x0 x1 x2 x3:T)(k:T->T->T->T->Option (List T)):fe (some [x0,x1,x2,x3]) k=k x0 x1 x2 x3:=rfl
def wG(k:T->T->T->T->Option (List T)):aA:=λts=>k (ts.getD 0 T.bQ) (ts.getD 1 T.bQ) (ts.getD 2 T.bQ) (ts.getD 3 T.bQ)
theorem UJ(x0 x1 x2 x3:T)(k:T->T->T->T->Option (List T)):wG k [x0,x1,x2,x3]=k x0 x1 x2 x3:=rfl
def rF(k:T->T->T->T->T->Option (List T)):aA:=λts=>k (ts.getD 0 T.bQ) (ts.getD 1 T.bQ) (ts.getD 2 T.bQ) (ts.getD 3 T.bQ) (ts.getD 4 T.bQ)
theorem UK(x0 x1 x2 x3 x4:T)(k:T->T->T->T->T->Option (List T)):rF k [x0,x1,x2,x3,x4]=k x0 x1 x2 x3 x4:=rfl
def Lq(o:Option (List T))(k:T->T->T->T->T->T->Option (List T)):Option (List T):=o.bind λts=>k (ts.getD 0 T.bQ) (ts.getD 1 T.bQ) (ts.getD 2 T.bQ) (ts.getD 3 T.bQ) (ts.getD 4 T.bQ) (ts.getD 5 T.bQ)
theorem aji(x0 x1 x2 x3 x4 x5:T)(k:T->T->T->T->T->T->Option (List T)):Lq (some [x0,x1,x2,x3,x4,x5]) k=k x0 x1 x2 x3 x4 x5:=rfl
def UL(k:T->T->T->T->T->T->Option (List T)):aA:=λts=>k (ts.getD 0 T.bQ) (ts.getD 1 T.bQ) (ts.getD 2 T.bQ) (ts.getD 3 T.bQ) (ts.getD 4 T.bQ) (ts.getD 5 T.bQ)
theorem UM(x0 x1 x2 x3 x4 x5:T)(k:T->T->T->T->T->T->Option (List T)):UL k [x0,x1,x2,x3,x4,x5]=k x0 x1 x2 x3 x4 x5:=rfl
def Ak(o:Option (List T))(k:T->T->T->T->T->T->T->Option (List T)):Option (List T):=o.bind λts=>k (ts.getD 0 T.bQ) (ts.getD 1 T.bQ) (ts.getD 2 T.bQ) (ts.getD 3 T.bQ) (ts.getD 4 T.bQ) (ts.getD 5 T.bQ) (ts.getD 6 T.bQ)
theorem ajj(x0 x1 x2 x3 x4 x5 x6:T)(k:T->T->T->T->T->T->T->Option (List T)):Ak (some [x0,x1,x2,x3,x4,x5,x6]) k=k x0 x1 x2 x3 x4 x5 x6:=rfl
def IM(k:T->T->T->T->T->T->T->Option (List T)):aA:=λts=>k (ts.getD 0 T.bQ) (ts.getD 1 T.bQ) (ts.getD 2 T.bQ) (ts.getD 3 T.bQ) (ts.getD 4 T.bQ) (ts.getD 5 T.bQ) (ts.getD 6 T.bQ)
theorem UN(x0 x1 x2 x3 x4 x5 x6:T)(k:T->T->T->T->T->T->T->Option (List T)):IM k [x0,x1,x2,x3,x4,x5,x6]=k x0 x1 x2 x3 x4 x5 x6:=rfl
def jX(o:Option (List T))(k:T->T->T->T->T->T->T->T->Option (List T)):Option (List T):=o.bind λts=>k (ts.getD 0 T.bQ) (ts.getD 1 T.bQ) (ts.getD 2 T.bQ) (ts.getD 3 T.bQ) (ts.getD 4 T.bQ) (ts.getD 5 T.bQ) (ts.getD 6 T.bQ) (ts.getD 7 T.bQ)
theorem ajk(x0 x1 x2 x3 x4 x5 x6 x7:T)(k:T->T->T->T->T->T->T->T->Option (List T)):jX (some [x0,x1,x2,x3,x4,x5,x6,x7]) k=k x0 x1 x2 x3 x4 x5 x6 x7:=rfl
def Qt(k:T->T->T->T->T->T->T->T->Option (List T)):aA:=λts=>k (ts.getD 0 T.bQ) (ts.getD 1 T.bQ) (ts.getD 2 T.bQ) (ts.getD 3 T.bQ) (ts.getD 4 T.bQ) (ts.getD 5 T.bQ) (ts.getD 6 T.bQ) (ts.getD 7 T.bQ)
theorem UO(x0 x1 x2 x3 x4 x5 x6 x7:T)(k:T->T->T->T->T->T->T->T->Option (List T)):Qt k [x0,x1,x2,x3,x4,x5,x6,x7]=k x0 x1 x2 x3 x4 x5 x6 x7:=rfl
def uA(o:Option (List T))(k:T->T->T->T->T->T->T->T->T->Option (List T)):Option (List T):=o.bind λts=>k (ts.getD 0 T.bQ) (ts.getD 1 T.bQ) (ts.getD 2 T.bQ) (ts.getD 3 T.bQ) (ts.getD 4 T.bQ) (ts.getD 5 T.bQ) (ts.getD 6 T.bQ) (ts.getD 7 T.bQ) (ts.getD 8 T.bQ)
theorem ajl(x0 x1 x2 x3 x4 x5 x6 x7 x8:T)(k:T->T->T->T->T->T->T->T->T->Option (List T)):uA (some [x0,x1,x2,x3,x4,x5,x6,x7,x8]) k=k x0 x1 x2 x3 x4 x5 x6 x7 x8:=rfl
def Qu(k:T->T->T->T->T->T->T->T->T->Option (List T)):aA:=λts=>k (ts.getD 0 T.bQ) (ts.getD 1 T.bQ) (ts.getD 2 T.bQ) (ts.getD 3 T.bQ) (ts.getD 4 T.bQ) (ts.getD 5 T.bQ) (ts.getD 6 T.bQ) (ts.getD 7 T.bQ) (ts.getD 8 T.bQ)
theorem UP(x0 x1 x2 x3 x4 x5 x6 x7 x8:T)(k:T->T->T->T->T->T->T->T->T->Option (List T)):Qu k [x0,x1,x2,x3,x4,x5,x6,x7,x8]=k x0 x1 x2 x3 x4 x5 x6 x7 x8:=rfl
def FX(o:Option (List T))(k:T->T->T->T->T->T->T->T->T->T->Option (List T)):Option (List T):=o.bind λts=>k (ts.getD 0 T.bQ) (ts.getD 1 T.bQ) (ts.getD 2 T.bQ) (ts.getD 3 T.bQ) (ts.getD 4 T.bQ) (ts.getD 5 T.bQ) (ts.getD 6 T.bQ) (ts.getD 7 T.bQ) (ts.getD 8 T.bQ) (ts.getD 9 T.bQ)
theorem ajm(x0 x1 x2 x3 x4 x5 x6 x7 x8 x9:T)(k:T->T->T->T->T->T->T->T->T->T->Option (List T)):FX (some [x0,x1,x2,x3,x4,x5,x6,x7,x8,x9]) k=k x0 x1 x2 x3 x4 x5 x6 x7 x8 x9:=rfl
def FY(k:T->T->T->T->T->T->T->T->T->T->Option (List T)):aA:=λts=>k (ts.getD 0 T.bQ) (ts.getD 1 T.bQ) (ts.getD 2 T.bQ) (ts.getD 3 T.bQ) (ts.getD 4 T.bQ) (ts.getD 5 T.bQ) (ts.getD 6 T.bQ) (ts.getD 7 T.bQ) (ts.getD 8 T.bQ) (ts.getD 9 T.bQ)
theorem UQ(x0 x1 x2 x3 x4 x5 x6 x7 x8 x9:T)(k:T->T->T->T->T->T->T->T->T->T->Option (List T)):FY k [x0,x1,x2,x3,x4,x5,x6,x7,x8,x9]=k x0 x1 x2 x3 x4 x5 x6 x7 x8 x9:=rfl
def sE(o:Option (List T))(k:T->T->T->T->T->T->T->T->T->T->T->Option (List T)):Option (List T):=o.bind λts=>k (ts.getD 0 T.bQ) (ts.getD 1 T.bQ) (ts.getD 2 T.bQ) (ts.getD 3 T.bQ) (ts.getD 4 T.bQ) (ts.getD 5 T.bQ) (ts.getD 6 T.bQ) (ts.getD 7 T.bQ) (ts.getD 8 T.bQ) (ts.getD 9 T.bQ) (ts.getD 10 T.bQ)
theorem ajn(x0 x1 x2 x3 x4 x5 x6 x7 x8 x9 BZ:T)(k:T->T->T->T->T->T->T->T->T->T->T->Option (List T)):sE (some [x0,x1,x2,x3,x4,x5,x6,x7,x8,x9,BZ]) k=k x0 x1 x2 x3 x4 x5 x6 x7 x8 x9 BZ:=rfl
def q8(k:T->T->T->T->T->T->T->T->T->T->T->Option (List T)):aA:=λts=>k (ts.getD 0 T.bQ) (ts.getD 1 T.bQ) (ts.getD 2 T.bQ) (ts.getD 3 T.bQ) (ts.getD 4 T.bQ) (ts.getD 5 T.bQ) (ts.getD 6 T.bQ) (ts.getD 7 T.bQ) (ts.getD 8 T.bQ) (ts.getD 9 T.bQ) (ts.getD 10 T.bQ)
theorem UR(x0 x1 x2 x3 x4 x5 x6 x7 x8 x9 BZ:T)(k:T->T->T->T->T->T->T->T->T->T->T->Option (List T)):q8 k [x0,x1,x2,x3,x4,x5,x6,x7,x8,x9,BZ]=k x0 x1 x2 x3 x4 x5 x6 x7 x8 x9 BZ:=rfl
def q9(o:Option (List T))(k:T->T->T->T->T->T->T->T->T->T->T->T->T->T->Option (List T)):Option (List T):=o.bind λts=>k (ts.getD 0 T.bQ) (ts.getD 1 T.bQ) (ts.getD 2 T.bQ) (ts.getD 3 T.bQ) (ts.getD 4 T.bQ) (ts.getD 5 T.bQ) (ts.getD 6 T.bQ) (ts.getD 7 T.bQ) (ts.getD 8 T.bQ) (ts.getD 9 T.bQ) (ts.getD 10 T.bQ) (ts.getD 11 T.bQ) (ts.getD 12 T.bQ) (ts.getD 13 T.bQ)
theorem ajo(x0 x1 x2 x3 x4 x5 x6 x7 x8 x9 BZ US UT UU:T)(k:T->T->T->T->T->T->T->T->T->T->T->T->T->T->Option (List T)):q9 (some [x0,x1,x2,x3,x4,x5,x6,x7,x8,x9,BZ,US,UT,UU]) k=k x0 x1 x2 x3 x4 x5 x6 x7 x8 x9 BZ US UT UU:=rfl
def B0(k:T->T->T->T->T->T->T->T->T->T->T->T->T->T->Option (List T)):aA:=λts=>k (ts.getD 0 T.bQ) (ts.getD 1 T.bQ) (ts.getD 2 T.bQ) (ts.getD 3 T.bQ) (ts.getD 4 T.bQ) (ts.getD 5 T.bQ) (ts.getD 6 T.bQ) (ts.getD 7 T.bQ) (ts.getD 8 T.bQ) (ts.getD 9 T.bQ) (ts.getD 10 T.bQ) (ts.getD 11 T.bQ) (ts.getD 12 T.bQ) (ts.getD 13 T.bQ)
theorem UW(x0 x1 x2 x3 x4 x5 x6 x7 x8 x9 BZ US UT UU:T)(k:T->T->T->T->T->T->T->T->T->T->T->T->T->T->Option (List T)):B0 k [x0,x1,x2,x3,x4,x5,x6,x7,x8,x9,BZ,US,UT,UU]=k x0 x1 x2 x3 x4 x5 x6 x7 x8 x9 BZ US UT UU:=rfl
theorem ajp(k:aA)(b:aA->Option (List T)):jn k b=b k:=rfl
def PL.arity(j:Nat):PL->Option Nat
 | .ret _=>none
 | .ins _ k=>k.arity j
 | .ite _ x y=>match x.arity j with|some n=>some n|none=>y.arity j
 | .loop _ b=>b.arity (j+1)
 | .join k b=>match k.arity j with|some n=>some n|none=>b.arity (j+1)
 | .go i xs=>bif Nat.beq i j then some xs.length else none
 | .rQ _ _=>none
def PL.lB(S:Nat->aA)(R:Nat)(K:List aA)(ρ:List T):PL->Option (List T)
 | .ret xs=>some (xs.map (Lf.ev ρ))
 | .ins (.pr p xs) k=>(p.ev (xs.map (Lf.ev ρ))).bind λt=>k.lB S R K (ρ++[t])
 | .ins (.cl g xs m) k=>(S g (xs.map (Lf.ev ρ))).bind λts=>k.lB S R K (ρ++rS ts 0 m)
 | .ite c x y=>ax (ρ.getD c T.bQ) (x.lB S R K ρ) (y.lB S R K ρ)
 | .loop xs body=>iter (λself ts=>body.lB S R (self::K) (ρ++rS ts 0 xs.length)) R (xs.map (Lf.ev ρ))
 | .join k body=>jn (λts=>k.lB S R K (ρ++rS ts 0 ((body.arity 0).getD 0))) λf=>body.lB S R (f::K) ρ
 | .go j xs=>match K[j]? with
  |some f=>f (xs.map (Lf.ev ρ))
  |none=>none
 | .rQ _ _=>none
def PL.wf(ar:List Nat):PL->Bool
 | .ret _=>true
 | .ins _ k=>k.wf ar
 | .ite _ x y=>x.wf ar&&y.wf ar
 | .loop xs b=>b.wf (xs.length::ar)
 | .join k b=>k.wf ar&&b.wf ((b.arity 0).getD 0::ar)
 | .go j xs=>match ar[j]? with|some m=>Nat.beq m xs.length|none=>false
 | .rQ _ _=>true
theorem UX:∀(ts us:List T),rS (us++ts) us.length ts.length=ts
 | [],us=>rfl
 |t::ts,us=>by
  have h:=UX ts (us++[t])
  rw[List.append_assoc,List.length_append]at h
  simp only[List.length_cons,rS]
  refine congr (congrArg _ ?_) h
  simp
theorem UY(ts:List T){m:Nat}(h:ts.length=m):rS ts 0 m=ts:=by
 subst h;exact UX ts []
theorem UZ{F G:aA->aA}{m:Nat}(h:∀s s',(∀ts:List T,ts.length=m->s ts=s' ts)->∀ts:List T,ts.length=m->F s ts=G s' ts):∀R (ts:List T),ts.length=m->iter F R ts=iter G R ts
 |0,_,_=>rfl
 |R+1,ts,ht=>by
  unfold iter
  exact h _ _ (UZ h R) ts ht
theorem uB(S:Nat->aA)(R:Nat):∀(p:PL) (ar:List Nat) (K K':List aA) (ρ:List T),p.wf ar=true->
  (∀(j m:Nat),ar[j]?=some m->∃f f':aA,K[j]?=some f∧K'[j]?=some f'∧∀ts:List T,ts.length=m->f ts=f' ts)->p.den S R K ρ=p.lB S R K' ρ
 | .ret xs,ar,K,K',ρ,_,_=>by simp only[PL.den,PL.lB]
 | .ins (.pr p xs) k,ar,K,K',ρ,hw,hk=>by
  simp only[PL.den,PL.lB]
  exact congrArg _ (funext λt=>uB S R k ar K K' _ hw hk)
 | .ins (.cl g xs m) k,ar,K,K',ρ,hw,hk=>by
  simp only[PL.den,PL.lB]
  exact congrArg _ (funext λt=>uB S R k ar K K' _ hw hk)
 | .ite c x y,ar,K,K',ρ,hw,hk=>by
  simp only[PL.wf,bL]at hw
  rw[FL]
  simp only[PL.lB]
  rw[uB S R x ar K K' ρ hw.1 hk,uB S R y ar K K' ρ hw.2 hk]
 | .loop xs b,ar,K,K',ρ,hw,hk=>by
  simp only[PL.den,PL.lB]
  refine UZ (m:=xs.length) (λs s' hs ts ht=>?_) R _ (by simp)
  rw[UY ts ht]
  refine uB S R b (xs.length::ar) _ _ _ hw λj m hj=>?_
  cases j with
  |zero=>cases hj;exact⟨s,s',rfl,rfl,hs⟩
  |succ j=>exact hk j m hj
 | .join k b,ar,K,K',ρ,hw,hk=>by
  simp only[PL.wf,bL]at hw
  simp only[PL.den,PL.lB,jn]
  refine uB S R b ((b.arity 0).getD 0::ar) _ _ _ hw.2 λj m hj=>?_
  cases j with
  |zero=>
   cases hj
   refine⟨_,_,rfl,rfl,λts ht=>?_⟩
   show PL.den S R K (ρ++ts) k=PL.lB S R K' (ρ++rS ts 0 _) k
   rw[UY ts ht]
   exact uB S R k ar K K' _ hw.1 hk
  |succ j=>exact hk j m hj
 | .go j xs,ar,K,K',ρ,hw,hk=>by
  simp only[PL.wf]at hw
  cases hm:ar[j]? with
  |none=>rw[hm]at hw;exact absurd hw (by simp)
  |some m=>
   rw[hm]at hw
   have Aa:=ew hw
   obtain⟨f,f',h1,h2,h3⟩:=hk j m hm
   simp only[PL.den,PL.lB,h1,h2]
   exact h3 _ (by simp[Aa])
 | .rQ _ _,ar,K,K',ρ,_,_=>by simp only[PL.den,PL.lB]
theorem cF{S:Nat->aA}{R:Nat}{p:PL}{ρ:List T}(h:p.wf []=true):p.den S R [] ρ=p.lB S R [] ρ:=
 uB S R p [] [] [] ρ h λj m hj=>by simp at hj
end Go.Proofs.YtjimmglpkndemaaGreatC

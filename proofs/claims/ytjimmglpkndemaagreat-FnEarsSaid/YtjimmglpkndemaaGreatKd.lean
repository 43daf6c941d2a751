/- The walk by reflection: a part of its laws, for any function. Conditions: none. -/
import Derived.Test.YtjimmglpkndemaaGreatKc
import Derived.Test.YtjimmglpkndemaaGreatKa
import Derived.ChangeSame
import Derived.JoinedOf
import Derived.JoinedAt
import Derived.RowKit3
import Derived.Carry
namespace Go.Proofs.YtjimmglpkndemaaGreatC
set_option linter.unusedVariables false
section
variable {M:Nat->Prop} {B:eT} {d:Nat} {up:Nat->Nat->Value} {ρ:List T} {G:Gh} {a:Act} {w:World} {s:St} {S:Nat->aB} {P:Program} {cx:Cx} {R:Nat} {out:List T}
theorem adG{t:Nat}{ti:TI}(hT:vE P t ti){b off:Nat}{vs:List Value}(hl:vs.length=ti.sz)(hc:∀j v,vs[j]?=some v->w.cell? ⟨b,off+j,none⟩=some v):
  (loadVar t ⟨b,off,none⟩).run P w=.ok (if ti.ag then .agg vs.toArray else vs.getD 0 undef) w:=by
 have:=CB (P:=P) hT hl hc
 simpa[Instr.loadAt,Instr.sureAddr]using this
def Ai(tmps:Array Value):ResultVar->Sem Value
 | .tmp t=>pure (tmps.getD t undef)
 | .cell a t=>do loadVar t (<-asAddr (tmps.getD a undef))
theorem Gc(dW:ew P cx)(hr:Rel M B d up s ρ G a w):∀{rvs:List ResultVar} {rs:List SV},Go.Proofs.YtjimmglpkndemaaGreatC.results cx d s rvs=some rs->
  ∃us:List Value,(rvs.mapM (Ai a.tmps)).run P w=.ok us w∧c_ G w ρ rs us∧∀v∈rs,∀i∈dt v,M i
 | [],rs,h=>by
  simp[Go.Proofs.YtjimmglpkndemaaGreatC.results]at h
  subst h
  exact⟨[],rfl,trivial,λv hv=>by cases hv⟩
 | .tmp t::rvs,rs,h=>by
  simp only[Go.Proofs.YtjimmglpkndemaaGreatC.results,cN,bF]at h
  obtain⟨vs,qT,rfl⟩:=h
  obtain⟨us,g1,g2,g3⟩:=Gc dW hr qT
  have ht:=hr.tm d t (Nat.le_refl _)
  simp only[qB,if_true]at ht
  refine⟨a.tmps.getD t undef::us,?_,⟨ht,g2⟩,λv hv=>?_⟩
  ·rw[List.mapM_cons,Sem.run_bind]
   simp only[Ai,Sem.run_pure,Result.andThen_ok,Sem.run_bind,g1]
  ·rcases List.mem_cons.1 hv with rfl|hv
   ·exact hr.fZ _
   ·exact g3 v hv
 | .cell ad t::rvs,rs,h=>by
  simp only[Go.Proofs.YtjimmglpkndemaaGreatC.results,cN]at h
  obtain⟨ti,fQ,h⟩:=h
  have ht:=hr.tm d ad (Nat.le_refl _)
  simp only[qB,if_true]at ht
  split at h
  ·rename_i bx off hpt
   split at h
   ·rename_i ag cs wQ
    cases hb:Nat.ble (off+ti.sz) cs.length with
    |false=>simp[hb]at h
    |true=>
     simp only[hb,cond_true,cN,bF]at h
     obtain⟨vs,qT,rfl⟩:=h
     obtain⟨us,g1,g2,g3⟩:=Gc dW hr qT
     rw[hpt]at ht
     have rT:=hr.bx bx
     rw[wQ]at rT
     obtain⟨_,arr,elem,hh,lB⟩:=rT
     have hle:=Nat.le_of_ble_eq_true hb
     have hlen:=lB.length
     simp only[Array.length_toList]at hlen
     have hT:=dW.ty _ _ fQ
     have qF:=bn.take ti.sz (bn.drop off lB)
     have qI:((arr.toList.drop off).take ti.sz).length=ti.sz:=by simp;omega
     have eV:=adG (P:=P) (w:=w) (b:=G.β bx) (off:=off) hT qI (λj v hj=>by
      rw[zP hh]
      have bE:=(List.getElem?_eq_some_iff.1 hj).1
      rw[List.getElem?_take,if_pos (by omega),List.getElem?_drop]at hj
      simpa using hj)
     refine⟨_::us,?_,⟨CC hT qF qI,g2⟩,λv hv=>?_⟩
     ·rw[List.mapM_cons,Sem.run_bind]
      simp only[Ai,Sem.run_bind]
      rw[show a.tmps.getD ad undef=.pointer (some ⟨G.β bx,off,none⟩) from ht]
      simp only[asAddr,Sem.run_pure,Result.andThen_ok,eV,g1]
     ·rcases List.mem_cons.1 hv with rfl|hv
      ·intro i hi
       have hm:=hr.fZ (.x bx)
       rw[wQ]at hm
       exact hm i (J1 _ _ i (J2 _ _ i hi))
      ·exact g3 v hv
   ·cases h
  ·cases h
theorem Um{fn:Func}{us:List Value}(h:(fn.results.toList.mapM (Ai a.tmps)).run P w=.ok us w):(Go.results fn a.tmps).run P w=.ok (o5 us) w:=by
 have h2:(fn.results.mapM (Ai a.tmps)).run P w=.ok us.toArray w:=by
  rw[Array.mapM_eq_mapM_toList,Sem.run_map,h]
  rfl
 have h3:Go.results fn a.tmps=(do let vs <-fn.results.mapM (Ai a.tmps);pure (if h:vs.size=1 then vs[0]else .tuple vs)):=by
  unfold Go.results
  congr 1
 rw[h3,Sem.run_bind,h2]
 simp only[Result.andThen_ok,Sem.run_pure,o5,List.size_toArray]
 by_cases hl:us.length=1
 ·simp[hl]
 ·simp[hl]
theorem Gd(d e n:Nat):∀s:St,(tQ d s).get (.t e n)=if d<=e then .un else s.get (.t e n)
 | []=>by simp[tQ,St.get]
 |(.t e' n',v)::s=>by
  simp only[tQ]
  cases hb:Nat.ble d e' with
  |true=>
   have:=Nat.le_of_ble_eq_true hb
   simp only[cond_true]
   rw[Gd d e n s]
   split
   ·rfl
   ·simp only[St.get]
    have:(bD.t e' n').beq (.t e n)=false:=by
     cases hq:(bD.t e' n').beq (.t e n)with
     |false=>rfl
     |true=>have:=bD.beq_iff.1 hq;cases this;omega
    rw[this];rfl
  |false=>
   have bE:¬d<=e':=λh=>by rw[Nat.ble_eq_true_of_le h]at hb;cases hb
   simp only[cond_false,St.get]
   cases hq:(bD.t e' n').beq (.t e n)with
   |true=>have:=bD.beq_iff.1 hq;cases this;simp[bE]
   |false=>simp only[cond_false];exact Gd d e n s
 |(.x b,v)::s=>by
  simp only[tQ,St.get]
  rw[show(bD.x b).beq (.t e n)=false from rfl]
  exact Gd d e n s
 |(.o b,v)::s=>by
  simp only[tQ,St.get]
  rw[show(bD.o b).beq (.t e n)=false from rfl]
  exact Gd d e n s
theorem Ge(d:Nat)(r:bD)(hr:∀e n,r≠.t e n):∀s:St,(tQ d s).get r=s.get r
 | []=>rfl
 |(.t e' n',v)::s=>by
  have hb:(bD.t e' n').beq r=false:=by
   cases hq:(bD.t e' n').beq r with
   |false=>rfl
   |true=>exact absurd (bD.beq_iff.1 hq).symm (hr e' n')
  simp only[tQ]
  cases Nat.ble d e' with
  |true=>simp only[cond_true,St.get,hb,cond_false];exact Ge d r hr s
  |false=>simp only[cond_false,St.get,hb];exact Ge d r hr s
 |(.x b,v)::s=>by
  simp only[tQ,St.get]
  rw[Ge d r hr s]
 |(.o b,v)::s=>by
  simp only[tQ,St.get]
  rw[Ge d r hr s]
theorem Gf(d:Nat):∀(vs:List SV) (s:St) (i:Nat) (r:bD),(xy d s i vs).get r=match r with
  | .t e n=>if e=d∧i<=n∧n<i+vs.length then vs.getD (n-i) .un else s.get (.t e n)
  |r=>s.get r
 | [],s,i,r=>by
  cases r with
  |t e n=>simp only[xy,List.length_nil];rw[if_neg (by omega)]
  |_=>rfl
 |v::vs,s,i,r=>by
  simp only[xy]
  rw[Gf d vs (s.set (.t d i) v) (i+1) r]
  cases r with
  |t e n=>
   simp only[List.length_cons]
   by_cases h1:e=d∧i+1<=n∧n<i+1+vs.length
   ·rw[if_pos h1,if_pos ⟨h1.1,by omega,by omega⟩]
    rw[show n-i=(n-(i+1))+1 by omega]
    simp
   ·rw[if_neg h1]
    by_cases h2:e=d∧n=i
    ·obtain⟨rfl,rfl⟩:=h2
     rw[if_pos ⟨rfl,by omega,by omega⟩,St.cq]
     simp
    ·rw[if_neg (by omega),St.ei _ _ (λh=>by cases h;exact h2 ⟨rfl,rfl⟩)]
  |x b=>exact St.ei _ _ (by simp)
  |o b=>exact St.ei _ _ (by simp)
theorem c_.get{vs:List SV}{us:List Value}(h:c_ G w ρ vs us):∀(i:Nat) (v:SV),vs[i]?=some v->∃u,us[i]?=some u∧cL G w ρ v u:=by
 induction vs generalizing us with
 |nil=>intro i v hi;simp at hi
 |cons x vs ih=>
  cases us with
  |nil=>exact h.elim
  |cons u us=>
   intro i v hi
   cases i with
   |zero=>simp at hi;subst hi;exact⟨u,rfl,h.1⟩
   |succ i=>simpa using ih h.2 i v (by simpa using hi)
theorem Rel.enter{vs:List SV}{args:List Value}{nt:Nat}(hr:Rel M B d up s ρ G a w)(hv:c_ G w ρ vs args)(hm:∀v∈vs,∀i∈dt v,M i)(hn:vs.length<=nt):
  Rel M B (d+1) (qB up d a) (xy (d+1) (tQ (d+1) s) 0 vs) ρ G {tmps:=args.toArray++Array.replicate (nt-args.toArray.size) undef,defers:=[]} w∧
   (args.toArray++Array.replicate (nt-args.toArray.size) undef:Array Value).size=nt:=by
 have hl:=hv.length
 have hg:∀r,(∀e n,r≠.t e n)->(xy (d+1) (tQ (d+1) s) 0 vs).get r=s.get r:=by
  intro r hr
  rw[Gf]
  cases r with
  |t e n=>exact absurd rfl (hr e n)
  |x b=>exact Ge _ _ hr s
  |o b=>exact Ge _ _ hr s
 refine⟨⟨λe n he=>?_,λb=>?_,λi=>?_,λr i hi=>?_,λi hi=>?_,hr.iO,rfl,hr.base,hr.bt⟩,by simp;omega⟩
 ·rw[Gf]
  simp only[Nat.zero_le,true_and,Nat.zero_add,Nat.sub_zero]
  by_cases hed:e=d+1
  ·subst hed
   by_cases hnl:n<vs.length
   ·rw[if_pos ⟨rfl,hnl⟩]
    obtain⟨u,hu,sF⟩:=hv.get n vs[n] (List.getElem?_eq_getElem hnl)
    rw[List.getD_eq_getElem?_getD,List.getElem?_eq_getElem hnl]
    have:qB (qB up d a) (d+1) {tmps:=args.toArray++Array.replicate (nt-args.toArray.size) undef,defers:=[]} (d+1) n=u:=by
     simp only[qB,if_true]
     rw[Array.getD_eq_getD_getElem?,Array.getElem?_append_left (by simp;omega),List.getElem?_toArray,hu]
     rfl
    rw[this]
    exact sF
   ·rw[if_neg (by omega),Gd,if_pos (Nat.le_refl _)]
    trivial
  ·rw[if_neg (by omega),Gd,if_neg (by omega)]
   have:qB (qB up d a) (d+1) {tmps:=args.toArray++Array.replicate (nt-args.toArray.size) undef,defers:=[]} e n=qB up d a e n:=by
    show(if e=d+1 then _ else _)=_
    rw[if_neg hed]
   rw[this]
   exact hr.tm e n (by omega)
 ·rw[hg _ (by simp)];exact hr.bx b
 ·rw[hg _ (by simp)];exact hr.ob i
 ·rw[Gf]at hi
  cases r with
  |t e n=>
   simp only[Nat.zero_le,true_and,Nat.zero_add,Nat.sub_zero]at hi
   split at hi
   ·rename_i hc
    rw[List.getD_eq_getElem?_getD,List.getElem?_eq_getElem hc.2]at hi
    exact hm _ (List.getElem_mem hc.2) i hi
   ·rw[Gd]at hi
    split at hi
    ·simp[dt]at hi
    ·exact hr.fZ _ i hi
  |x b=>
   simp only at hi
   exact hr.fZ (.x b) i (by rwa[Ge _ _ (by simp) s]at hi)
  |o b=>
   simp only at hi
   exact hr.fZ (.o b) i (by rwa[Ge _ _ (by simp) s]at hi)
 ·rw[hg _ (by simp),hg _ (by simp)]at hi;exact hr.key i hi
theorem Rel.Un{a2:Act}{w2:World}{G2:Gh}{s2:St}{Gb:List T}(hd:a.defers=[])(hr:Rel M B (d+1) (qB up d a) s2 Gb G2 a2 w2):Rel M B d up (tQ (d+1) s2) Gb G2 a w2:=by
 have hg:∀r,(∀e n,r≠.t e n)->(tQ (d+1) s2).get r=s2.get r:=λr hr=>Ge _ _ hr s2
 refine⟨λe n he=>?_,λb=>?_,λi=>?_,λr i hi=>?_,λi hi=>?_,hr.iO,hd,hr.base,hr.bt⟩
 ·rw[Gd,if_neg (by omega)]
  have:=hr.tm e n (by omega)
  have e1:qB (qB up d a) (d+1) a2 e n=qB up d a e n:=by
   show(if e=d+1 then _ else _)=_
   rw[if_neg (by omega)]
  rw[e1]at this
  exact this
 ·rw[hg _ (by simp)];exact hr.bx b
 ·rw[hg _ (by simp)];exact hr.ob i
 ·cases r with
  |t e n=>
   rw[Gd]at hi
   split at hi
   ·simp[dt]at hi
   ·exact hr.fZ _ i hi
  |x b=>exact hr.fZ (.x b) i (by rwa[hg _ (by simp)]at hi)
  |o b=>exact hr.fZ (.o b) i (by rwa[hg _ (by simp)]at hi)
 ·rw[hg _ (by simp),hg _ (by simp)]at hi;exact hr.key i hi
theorem Uo(E:Env P cx S)(yY:P.follows .mixedOrders=true):∀n,F5 P S R out B (Fm cx n)
 |0=>by intro f g vs lv s ct fs kk p K0 a w args Ψ h;cases h
 |n+1=>by
  intro f g vs lv s ct fs kk p Z a w args Ψ h bN hk
  simp only[Fm,cN]at h
  obtain⟨fn,Tw,c,hc,h⟩:=h
  obtain⟨hf,jH⟩:=E.dL g fn Tw
  refine⟨jH,?_⟩
  cases hb:(Nat.ble vs.length fn.ntmps&&yL fn.ntmps c)with
  |false=>simp[hb]at h
  |true=>
   simp only[hb,cond_true]at h
   simp only[bI]at hb
   obtain⟨K,ρ,G,h1,h2,h3,h4,h5,h6,h7,h8,h9,pn⟩:=bN
   have hle:=Nat.le_of_ble_eq_true hb.1
   obtain⟨q1,q2⟩:=h7.enter h9 pn hle
   refine calls_of_wp hf hc ?_
   refine Uk (f:=⟨f.d+1,qB f.up f.d a,fn.ntmps⟩) E (Uo E yY n) yY c 0 lv _ ct fs _ p _ w Z _ hb.2 h ⟨K,ρ,G,h1,h2,h3,h4,h5,h6,q1,q2,trivial⟩ λe=>?_
   have fin:∀(sH:Nat) (s':St) (iJ:Ct) (jR:kj) (p':PL) (a2:Act) (w2:World),(Go.Proofs.YtjimmglpkndemaaGreatC.results cx (f.d+1) s' fn.results.toList).bind (λrs=>kk rs sH (tQ (f.d+1) s') iJ jR)=some p'->
     At S R out B ⟨f.d+1,qB f.up f.d a,fn.ntmps⟩ Z XT p' sH s' iJ jR a2 w2->a2.defers=[]∧∃v,(Go.results fn a2.tmps).run P w2=.ok v w2∧∃v',Ending.returned v=.returned v'∧Ψ v' w2:=by
    rintro sH s' iJ jR p' a2 w2 cO ⟨K2,Gb,G2,g1,g2,g3,g4,g5,g6,g7,g8,_⟩
    rw[cN]at cO
    obtain⟨rs,KU,cO⟩:=cO
    obtain⟨us,u1,u2,u3⟩:=Gc E.dW g7 KU
    refine⟨g7.dn,o5 us,Um u1,o5 us,rfl,?_⟩
    exact hk rs sH _ iJ jR p' w2 us cO ⟨K2,Gb,G2,g1,g2,g3,g4,g5,g6,g7.Un h7.dn,h8,u2,u3⟩
   cases e with
   |normal=>intro sH s' iJ jR p' a2 w2 cO ma;exact fin sH s' iJ jR p' a2 w2 cO ma
   |ret=>intro sH s' iJ jR p' a2 w2 cO ma;exact fin sH s' iJ jR p' a2 w2 cO ma
   |exit id=>intro sH s' iJ jR p' a2 w2 cO ma;cases cO
theorem Up{k:Wk}{c:Ce}{x:Lf}{v:Value}(hk:∀id,cM G w ρ id (k.get (.o id)))(h:k.plain c=some x)(hr:gf G w ρ c v):∃t,x.ev ρ=t∧eP G.q w t v:=by
 unfold Wk.plain at h
 split at h
 ·cases h;obtain⟨t,h1,h2⟩:=hr;exact⟨t,Lf.bU h1,h2⟩
 ·cases h
  have hv:v=.slice none 0 0:=hr
  subst hv
  exact⟨_,rfl,.nil⟩
 ·rename_i id
  split at h
  ·rename_i y hy
   cases h
   have ej:=hk id
   rw[hy]at ej
   obtain⟨t,h1,h2,_⟩:=ej
   obtain⟨p,hp,hv⟩:=hr
   simp only[nz,bF]at hp
   subst hp
   exact⟨t,Lf.bU h1,by rw[hv];exact h2⟩
  ·cases h
 ·cases h
theorem Uq{k:Wk}(hk:∀id,cM G w ρ id (k.get (.o id))):∀{cs:List Ce} {xs:List Lf} {vs:List Value},k.rJ cs=some xs->bn G w ρ cs vs->eB G.q w (xs.map (Lf.ev ρ)) vs∧xs.length=cs.length
 | [],xs,vs,h,hr=>by
  simp[Wk.rJ]at h
  subst h
  cases vs with
  |nil=>exact⟨trivial,rfl⟩
  |cons _ _=>exact hr.elim
 |c::cs,xs,[],h,hr=>hr.elim
 |c::cs,xs,v::vs,h,hr=>by
  simp only[Wk.rJ,cN,bF]at h
  obtain⟨x,hx,ys,S0,rfl⟩:=h
  obtain⟨t,ht,hd⟩:=Up hk hx hr.1
  obtain⟨g1,g2⟩:=Uq hk S0 hr.2
  exact⟨⟨by rw[ht];exact hd,g1⟩,by simp[g2]⟩
theorem Dh:∀{cs:List Ce} {ks:List Ck} {k k1:Wk} {xs:List Lf} {ids:List Nat} {vs:List Value},nq k cs ks=some (k1,xs,ids)->(∀id,cM G w ρ id (k.get (.o id)))->bn G w ρ cs vs->k1.bJ S ρ->
  k.bJ S ρ∧k.e_ k1∧∃is,bZ G w ks vs (xs.map (Lf.ev ρ)) is∧is.filterMap id=ids∧∀j,some j∈is->j%4≠2
 | [],[],k,k1,xs,ids,vs,h,hk,hr,hd=>by
  simp only[nq,bF,Prod.mk.injEq]at h
  obtain⟨rfl,rfl,rfl⟩:=h
  cases vs with
  |nil=>exact⟨hd,.refl _,[],trivial,rfl,λj hj=>by cases hj⟩
  |cons _ _=>exact hr.elim
 |c::cs,ck::ks,k,k1,xs,ids,[],h,hk,hr,hd=>hr.elim
 |c::cs,.p::ks,k,k1,xs,ids,v::vs,h,hk,hr,hd=>by
  have h':(k.plain c).bind (λx=>(nq k cs ks).bind λr=>some (r.1,x::r.2.1,r.2.2))=some (k1,xs,ids):=by
   cases c with
   |o id q=>cases q<;>exact h
   |p x=>exact h
   |n=>exact h
   |d=>exact h
  simp only[cN,bF,Prod.mk.injEq]at h'
  obtain⟨x,hx,⟨k2,ys,sS⟩,h2,rfl,rfl,rfl⟩:=h'
  obtain⟨g1,g2,is,g3,g4,g5⟩:=Dh h2 hk hr.2 hd
  obtain⟨t,ht,eb⟩:=Up hk hx hr.1
  exact⟨g1,g2,none::is,⟨rfl,by rw[ht];exact eb,g3⟩,by simpa using g4,λj hj=>g5 j (by simpa using hj)⟩
 | .p x::cs,.s::ks,k,k1,xs,ids,v::vs,h,hk,hr,hd=>by
  simp only[nq,cN,bF,Prod.mk.injEq]at h
  obtain⟨⟨k2,ys,sS⟩,h2,rfl,rfl,rfl⟩:=h
  obtain⟨qD,r,ua,m_⟩:=Wk.bV hd
  obtain⟨g1,g2,is,g3,g4,g5⟩:=Dh h2 hk hr.2 qD
  obtain⟨t,ht,eb⟩:=hr.1
  simp only[List.map_cons,List.map_nil,Lf.bU ht,Prim.ev]at ua
  split at ua
  ·rename_i oM
   cases ua
   refine⟨g1,g2.trans (Wk.bM _ _ _),none::is,⟨rfl,?_,?_,g3⟩,by simpa using g4,λj hj=>g5 j (by simpa using hj)⟩
   ·rw[Lf.bU m_];exact eb
   ·rw[Lf.bU m_];exact oM
  ·cases ua
 | .n::cs,.o dp::ks,k,k1,xs,ids,v::vs,h,hk,hr,hd=>by
  simp only[nq,cN,bF,Prod.mk.injEq]at h
  obtain⟨⟨k2,ys,sS⟩,h2,rfl,rfl,rfl⟩:=h
  obtain⟨g1,g2,is,g3,g4,g5⟩:=Dh h2 hk hr.2 hd
  exact⟨g1,g2,none::is,⟨hr.1,rfl,g3⟩,by simpa using g4,λj hj=>g5 j (by simpa using hj)⟩
 | .o id []::cs,.o dp::ks,k,k1,xs,ids,v::vs,h,hk,hr,hd=>by
  simp only[nq]at h
  split at h
  ·rename_i wL x hx
   cases gN:(wL==dp&& !Nat.beq (id%4) 2)with
   |false=>simp[gN]at h
   |true=>
    simp only[gN,cond_true,cN,bF,Prod.mk.injEq]at h
    simp only[bI,beq_iff_eq,Bool.not_eq_true']at gN
    obtain⟨gN,CT⟩:=gN
    subst gN
    obtain⟨⟨k2,ys,sS⟩,h2,rfl,rfl,rfl⟩:=h
    obtain⟨g1,g2,is,g3,g4,g5⟩:=Dh h2 hk hr.2 hd
    have ej:=hk id
    rw[hx]at ej
    obtain⟨t,ht,bQ⟩:=ej
    obtain⟨p,hp,hv⟩:=hr.1
    simp only[nz,bF]at hp
    subst hp
    refine⟨g1,g2,some id::is,⟨hv,by rw[Lf.bU ht];exact bQ,g3⟩,by simpa using g4,λj hj=>?_⟩
    rcases List.mem_cons.1 hj with hj|hj
    ·cases hj;intro e;rw[e]at CT;cases CT
    ·exact g5 j hj
  ·cases h
 | [],_::_,k,k1,xs,ids,vs,h,_,_,_=>by simp[nq]at h
 |c::_,[],k,k1,xs,ids,vs,h,_,_,_=>by simp[nq]at h
 | .p _::_,.o _::_,k,k1,xs,ids,_::_,h,_,_,_=>by simp[nq]at h
 | .n::_,.s::_,k,k1,xs,ids,_::_,h,_,_,_=>by simp[nq]at h
 | .d::_,.s::_,k,k1,xs,ids,_::_,h,_,_,_=>by simp[nq]at h
 | .d::_,.o _::_,k,k1,xs,ids,_::_,h,_,_,_=>by simp[nq]at h
 | .o _ _::_,.s::_,k,k1,xs,ids,_::_,h,_,_,_=>by simp[nq]at h
 | .o _ (_::_)::_,.o _::_,k,k1,xs,ids,_::_,h,_,_,_=>by simp[nq]at h
theorem Di:∀{cs:List Ce} {ks:List Ck} {k k1:Wk} {xs:List Lf} {ids:List Nat},nq k cs ks=some (k1,xs,ids)->k.e_ k1
 | [],[],k,k1,xs,ids,h=>by
  simp only[nq,bF,Prod.mk.injEq]at h
  obtain⟨rfl,rfl,rfl⟩:=h
  exact .refl _
 |c::cs,.p::ks,k,k1,xs,ids,h=>by
  have h':(k.plain c).bind (λx=>(nq k cs ks).bind λr=>some (r.1,x::r.2.1,r.2.2))=some (k1,xs,ids):=by
   cases c with
   |o id q=>cases q<;>exact h
   |p x=>exact h
   |n=>exact h
   |d=>exact h
  simp only[cN,bF,Prod.mk.injEq]at h'
  obtain⟨x,hx,⟨k2,ys,sS⟩,h2,rfl,rfl,rfl⟩:=h'
  exact Di h2
 | .p x::cs,.s::ks,k,k1,xs,ids,h=>by
  simp only[nq,cN,bF,Prod.mk.injEq]at h
  obtain⟨⟨k2,ys,sS⟩,h2,rfl,rfl,rfl⟩:=h
  exact(Di h2).trans (Wk.bM _ _ _)
 | .n::cs,.o dp::ks,k,k1,xs,ids,h=>by
  simp only[nq,cN,bF,Prod.mk.injEq]at h
  obtain⟨⟨k2,ys,sS⟩,h2,rfl,rfl,rfl⟩:=h
  exact Di h2
 | .o id []::cs,.o dp::ks,k,k1,xs,ids,h=>by
  simp only[nq]at h
  split at h
  ·rename_i wL x hx
   cases gN:(wL==dp&& !Nat.beq (id%4) 2)with
   |false=>simp[gN]at h
   |true=>
    simp only[gN,cond_true,cN,bF,Prod.mk.injEq]at h
    obtain⟨⟨k2,ys,sS⟩,h2,rfl,rfl,rfl⟩:=h
    exact Di h2
  ·cases h
 | [],_::_,k,k1,xs,ids,h=>by simp[nq]at h
 |c::_,[],k,k1,xs,ids,h=>by simp[nq]at h
 | .p _::_,.o _::_,k,k1,xs,ids,h=>by simp[nq]at h
 | .n::_,.s::_,k,k1,xs,ids,h=>by simp[nq]at h
 | .d::_,.s::_,k,k1,xs,ids,h=>by simp[nq]at h
 | .d::_,.o _::_,k,k1,xs,ids,h=>by simp[nq]at h
 | .o _ _::_,.s::_,k,k1,xs,ids,h=>by simp[nq]at h
 | .o _ (_::_)::_,.o _::_,k,k1,xs,ids,h=>by simp[nq]at h
theorem Lj:∀{vs:List SV} {rs:List (Bool×List Ck)} {k k1:Wk} {xs:List Lf} {ids:List Nat},mX k vs rs=some (k1,xs,ids)->k.e_ k1
 | [],[],k,k1,xs,ids,h=>by
  simp only[mX,bF,Prod.mk.injEq]at h
  obtain⟨rfl,rfl,rfl⟩:=h
  exact .refl _
 | .v ag cs::vs,(yK,ks)::rs,k,k1,xs,ids,h=>by
  simp only[mX]at h
  cases pu:(ag==yK)with
  |false=>simp[pu]at h
  |true=>
   simp only[pu,cond_true,cN,bF,Prod.mk.injEq]at h
   obtain⟨⟨k2,ys,sS⟩,h2,⟨k3,zs,Ur⟩,h3,rfl,rfl,rfl⟩:=h
   exact(Lj h2).trans (Di h3)
 | [],_::_,k,k1,xs,ids,h=>by simp[mX]at h
 |v::_,[],k,k1,xs,ids,h=>by cases v<;>simp[mX]at h
 | .un::_,_::_,k,k1,xs,ids,h=>by simp[mX]at h
 | .pt _ _::_,_::_,k,k1,xs,ids,h=>by simp[mX]at h
 | .ep _ _ _ _ _::_,_::_,k,k1,xs,ids,h=>by simp[mX]at h
 | .fp _ _ _ _::_,_::_,k,k1,xs,ids,h=>by simp[mX]at h
 | .tp _::_,_::_,k,k1,xs,ids,h=>by simp[mX]at h
 | .cl _ _::_,_::_,k,k1,xs,ids,h=>by simp[mX]at h
 | .ob _ _::_,_::_,k,k1,xs,ids,h=>by simp[mX]at h
 | .fz _ _::_,_::_,k,k1,xs,ids,h=>by simp[mX]at h
 | .tk _ _::_,_::_,k,k1,xs,ids,h=>by simp[mX]at h
 | .fl _::_,_::_,k,k1,xs,ids,h=>by simp[mX]at h
 | .fr _::_,_::_,k,k1,xs,ids,h=>by simp[mX]at h
theorem Us:∀{vs:List SV} {rs:List (Bool×List Ck)} {k k1:Wk} {xs:List Lf} {ids:List Nat} {us:List Value},mX k vs rs=some (k1,xs,ids)->(∀id,cM G w ρ id (k.get (.o id)))->c_ G w ρ vs us->k1.bJ S ρ->
  k.bJ S ρ∧k.e_ k1∧∃is,ju G w rs us (xs.map (Lf.ev ρ)) is∧is.filterMap id=ids∧∀j,some j∈is->j%4≠2
 | [],[],k,k1,xs,ids,us,h,hk,hr,hd=>by
  simp only[mX,bF,Prod.mk.injEq]at h
  obtain⟨rfl,rfl,rfl⟩:=h
  cases us with
  |nil=>exact⟨hd,.refl _,[],trivial,rfl,λj hj=>by cases hj⟩
  |cons _ _=>exact hr.elim
 | .v ag cs::vs,(yK,ks)::rs,k,k1,xs,ids,[],h,hk,hr,hd=>hr.elim
 | .v ag cs::vs,(yK,ks)::rs,k,k1,xs,ids,u::us,h,hk,hr,hd=>by
  simp only[mX]at h
  cases pu:(ag==yK)with
  |false=>simp[pu]at h
  |true=>
   simp only[pu,cond_true,cN,bF,Prod.mk.injEq]at h
   simp only[beq_iff_eq]at pu
   subst pu
   obtain⟨⟨k2,ys,sS⟩,h2,⟨k3,zs,Ur⟩,h3,rfl,rfl,rfl⟩:=h
   have h0:=hr.1
   have key:∀ws:List Value,bn G w ρ cs ws->(∀is,bZ G w ks ws (zs.map (Lf.ev ρ)) is->Tb G w (ag,ks) u (zs.map (Lf.ev ρ)) is)->
     k.bJ S ρ∧k.e_ k3∧∃is,ju G w ((ag,ks)::rs) (u::us) ((zs++ys).map (Lf.ev ρ)) is∧is.filterMap id=Ur++sS∧∀j,some j∈is->j%4≠2:=by
    intro ws hws adJ
    have vK:∀{k':Wk},k.e_ k'->∀id,cM G w ρ id (k'.get (.o id)):=λhs id=>by rw[hs.get];exact hk id
    have pre:k.e_ k2:=Lj h2
    obtain⟨g1,g2,is,g3,g4,g5⟩:=Dh h3 (vK pre) hws hd
    obtain⟨f1,f2,is2,f3,f4,f5⟩:=Us h2 hk hr.2 g1
    exact⟨f1,f2.trans g2,is++is2,⟨_,_,is,is2,List.map_append,rfl,adJ is g3,f3⟩,by rw[List.filterMap_append,g4,f4],λj hj=>(List.mem_append.1 hj).elim (g5 j) (f5 j)⟩
   cases ag with
   |true=>obtain⟨ws,rfl,hws⟩:=h0;exact key ws hws λis ho=>⟨ws,rfl,ho⟩
   |false=>obtain⟨c,rfl,hc,FC⟩:=h0;exact key [u] ⟨hc,trivial⟩ λis ho=>⟨ho,FC⟩
 | [],_::_,k,k1,xs,ids,us,h,_,_,_=>by simp[mX]at h
 |v::_,[],k,k1,xs,ids,us,h,_,_,_=>by cases v<;>simp[mX]at h
 | .un::_,_::_,k,k1,xs,ids,us,h,_,_,_=>by simp[mX]at h
 | .pt _ _::_,_::_,k,k1,xs,ids,us,h,_,_,_=>by simp[mX]at h
 | .ep _ _ _ _ _::_,_::_,k,k1,xs,ids,us,h,_,_,_=>by simp[mX]at h
 | .fp _ _ _ _::_,_::_,k,k1,xs,ids,us,h,_,_,_=>by simp[mX]at h
 | .tp _::_,_::_,k,k1,xs,ids,us,h,_,_,_=>by simp[mX]at h
 | .cl _ _::_,_::_,k,k1,xs,ids,us,h,_,_,_=>by simp[mX]at h
 | .ob _ _::_,_::_,k,k1,xs,ids,us,h,_,_,_=>by simp[mX]at h
 | .fz _ _::_,_::_,k,k1,xs,ids,us,h,_,_,_=>by simp[mX]at h
 | .tk _ _::_,_::_,k,k1,xs,ids,us,h,_,_,_=>by simp[mX]at h
 | .fl _::_,_::_,k,k1,xs,ids,us,h,_,_,_=>by simp[mX]at h
 | .fr _::_,_::_,k,k1,xs,ids,us,h,_,_,_=>by simp[mX]at h
end
section
variable {ρ:List T} {w:World} {S:Nat->aB} {P:Program} {cx:Cx} {R:Nat} {out:List T}
def Gh.I8(ω:Nat->Option Lb)(bl:Nat->Option Nat):Gh where
 ω:=ω
 β:=λi=>(bl i).getD 0
 H:=λ_ _=>.slice none 0 0
 hs:=λ_ _=>⟨_,_,_,rfl⟩
theorem Lk{po:Nat->Option Lb}{bl:Nat->Option Nat}:∀{ps:List PS} {args:List Value} {ts:List T} {i a:Nat},Ac po w bl i ps args ts->(∀j t,ts[j]?=some t->ρ[a+j]?=some t)->
  (wN a i ps).1=a+ts.length∧args.length=ps.length∧(∀n,(∃m,ps[n]?=some (.x m))->bl (i+n)≠none)∧
  ∀r v,(r,v)∈(wN a i ps).2->(∃n c,r=.t 0 (i+n)∧n<ps.length∧args[n]?=some c∧cL (Gh.I8 po bl) w ρ v c∧∀j∈dt v,j<i+ps.length)∨
   (∃b,r=.x b∧b<i+ps.length∧fY (Gh.I8 po bl) w ρ b v∧dt v=[])
 | [],args,ts,i,a,h,oN=>by
  obtain⟨rfl,rfl⟩:=h
  exact⟨rfl,rfl,λn ⟨m,hm⟩=>by simp at hm,λr v hm=>by simp[wN]at hm⟩
 | .v ag n::ps,args,ts,i,a,h,oN=>by
  obtain⟨c,fb,vs,t1,t2,rfl,rfl,hl,pu,hd,h⟩:=h
  obtain⟨g1,g2,g3,g4⟩:=Lk (i:=i+1) (a:=a+n) h (λj t hj=>by
   have:=oN (n+j) t (by rw[List.getElem?_append_right (by omega),hl];simpa using hj)
   rw[<-this];congr 1;omega)
  obtain⟨r1,r2⟩:=FX (a:=a) (G:=Gh.I8 po bl) hl (hd.bp (Nat.le_refl _) λb _ hb=>⟨Cr hb,rfl⟩) (λj t hj=>oN j t (by rw[List.getElem?_append_left (List.getElem?_eq_some_iff.1 hj).1];exact hj))
  refine⟨by simp only[wN,List.length_append];omega,by simp[g2],λn' ⟨m,hm⟩=>?_,λr v hm=>?_⟩
  ·cases n' with
   |zero=>simp at hm
   |succ n'=>have:=g3 n' ⟨m,by simpa using hm⟩;rwa[show i+1+n'=i+(n'+1) by omega]at this
  ·simp only[wN,List.mem_cons,Prod.mk.injEq]at hm
   simp only[List.length_cons]
   rcases hm with⟨rfl,rfl⟩|hm
   ·left
    refine⟨0,c,by simp,by omega,rfl,?_,λj hj=>by rw[show dt (.v ag (Es a n))=dN (Es a n) from rfl,r2]at hj;cases hj⟩
    cases ag with
    |true=>exact⟨vs,pu,r1⟩
    |false=>
     obtain⟨rfl,FC⟩:=pu
     match h0:Es a n,r1 with
     | [x],r1=>exact⟨x,h0.symm▸h0,r1.1,FC⟩
   ·rcases g4 r v hm with⟨n',c',e1,e2,e3,e4,e5⟩|⟨b,e1,e2,e3,e4⟩
    ·exact .inl ⟨n'+1,c',by rw[e1];congr 1;omega,by omega,by simpa using e3,e4,λj hj=>by have:=e5 j hj;omega⟩
    ·exact .inr ⟨b,e1,by omega,e3,e4⟩
 | .x n::ps,args,ts,i,a,h,oN=>by
  obtain⟨c,fb,b,arr,elem,t1,t2,rfl,hc,hb,iA,hh,rfl,hl,hd,h⟩:=h
  obtain⟨g1,g2,g3,g4⟩:=Lk (i:=i+1) (a:=a+n) h (λj t hj=>by
   have:=oN (n+j) t (by rw[List.getElem?_append_right (by omega),hl];simpa using hj)
   rw[<-this];congr 1;omega)
  obtain⟨r1,r2⟩:=FX (a:=a) (G:=Gh.I8 po bl) hl (hd.bp (Nat.le_refl _) λb _ hb=>⟨Cr hb,rfl⟩) (λj t hj=>oN j t (by rw[List.getElem?_append_left (List.getElem?_eq_some_iff.1 hj).1];exact hj))
  have Fv:(Gh.I8 po bl).β i=b:=by simp[Gh.I8,hb]
  refine⟨by simp only[wN,List.length_append];omega,by simp[g2],λn' ⟨m,hm⟩=>?_,λr v hm=>?_⟩
  ·cases n' with
   |zero=>rw[Nat.add_zero,hb];simp
   |succ n'=>have:=g3 n' ⟨m,by simpa using hm⟩;rwa[show i+1+n'=i+(n'+1) by omega]at this
  ·simp only[wN,List.mem_cons,Prod.mk.injEq]at hm
   simp only[List.length_cons]
   rcases hm with⟨rfl,rfl⟩|⟨rfl,rfl⟩|hm
   ·exact .inl ⟨0,c,by simp,by omega,rfl,by rw[cL,Fv];exact hc,λj hj=>by simp[dt]at hj;omega⟩
   ·exact .inr ⟨i,rfl,by omega,⟨by rw[Fv];exact iA,arr,elem,by rw[Fv];exact hh,r1⟩,r2⟩
   ·rcases g4 r v hm with⟨n',c',e1,e2,e3,e4,e5⟩|⟨b,e1,e2,e3,e4⟩
    ·exact .inl ⟨n'+1,c',by rw[e1];congr 1;omega,by omega,by simpa using e3,e4,λj hj=>by have:=e5 j hj;omega⟩
    ·exact .inr ⟨b,e1,by omega,e3,e4⟩
theorem Ll{G:Gh}{bl:Nat->Option Nat}{k:Wk}(hk:∀id,cM G w ρ id (k.get (.o id)))(hx:∀b,fY G w ρ b (k.get (.x b)))(uW:∀i b,bl i=some b->G.β i=b):
  ∀{ps:List PS} {i:Nat} {xs:List Lf},zM k i ps=some xs->(∀n,(∃m,ps[n]?=some (.x m))->bl (i+n)≠none)->iP G w bl i ps (xs.map (Lf.ev ρ))
 | [],i,xs,h,_=>by simp[zM]at h;subst h;rfl
 | .v _ _::ps,i,xs,h,hn=>Ll (ps:=ps) (i:=i+1) hk hx uW h λn ⟨m,hm⟩=>by have:=hn (n+1) ⟨m,by simpa using hm⟩;rwa[show i+1+n=i+(n+1) by omega]
 | .x n::ps,i,xs,h,hn=>by
  simp only[zM]at h
  split at h
  ·rename_i ag cs lB
   cases hb:Nat.beq cs.length n with
   |false=>simp[hb]at h
   |true=>
    simp only[hb,cond_true,cN,bF]at h
    obtain⟨x1,h1,x2,h2,rfl⟩:=h
    have rT:=hx i
    rw[lB]at rT
    obtain⟨g1,arr,elem,g2,g3⟩:=rT
    obtain⟨f1,f2⟩:=Uq hk h1 g3
    cases hbi:bl i with
    |none=>exact absurd hbi (by have:=hn 0 ⟨n,rfl⟩;simpa using this)
    |some b=>
     have Fv:=uW i b hbi
     rw[Fv]at g1 g2
     exact⟨b,arr,elem,_,_,hbi,g1,g2,List.map_append,by rw[List.length_map,f2];exact dU hb,f1,
      Ll hk hx uW h2 λn ⟨m,hm⟩=>by have:=hn (n+1) ⟨m,by simpa using hm⟩;rwa[show i+1+n=i+(n+1) by omega]⟩
  ·cases h
theorem ju.len{G':Gh}{w':World}:∀{rs:List (Bool×List Ck)} {vs:List Value} {ts:List T} {is:List (Option Nat)},ju G' w' rs vs ts is->rs.length=vs.length
 | [],[],[],[],_=>rfl
 |r::rs,v::vs,ts,is,h=>by
  obtain⟨t1,t2,i1,i2,rfl,rfl,h1,h2⟩:=h
  simp[ju.len h2]
 | [],[],_::_,_,h=>h.elim
 | [],[],[],_::_,h=>h.elim
 | [],_::_,_,_,h=>h.elim
 |_::_,[],_,_,h=>h.elim
theorem Ut{G':Gh}{w':World}{rs:List (Bool×List Ck)}{vs:List Value}{ts:List T}{is:List (Option Nat)}(h:ju G' w' rs vs ts is):KJ G' w' rs (o5 vs) ts is:=by
 have hl:=h.len
 match rs,vs,h,hl with
 | [],[],h,_=>
  cases ts with
  |nil=>cases is with
   |nil=>exact⟨rfl,rfl⟩
   |cons _ _=>exact h.elim
  |cons _ _=>exact h.elim
 | [r],[v],h,_=>exact h
 |r::r'::rs,v::v'::vs,h,_=>
  refine⟨v::v'::vs,?_,h⟩
  unfold o5
  rw[dif_neg (by simp)]
theorem c_.ext{G:Gh}{e:List T}:∀{vs:List SV} {us:List Value},c_ G w ρ vs us->c_ G w (ρ++e) vs us
 | [],[],_=>trivial
 |_::_,_::_,h=>⟨h.1.ext,c_.ext h.2⟩
 | [],_::_,h=>h.elim
 |_::_,[],h=>h.elim
def Gh.gF(G:Gh):Gh:={G with ω:=G.q}
theorem Gh.o6(G:Gh):G.gF.q=G.q:=by
 funext b
 show qf (qf G.ω) b=qf G.ω b
 unfold qf
 cases hb:G.ω b with
 |none=>rfl
 |some l=>cases hq:qt l<;>simp[hq]
theorem adL{sg:pG}(h:Fq sg=true)(hp:rF sg=true):∀r∈sg.rs,∀k∈r.2,k≠.o true:=by
 intro r hr k hk e
 subst e
 simp only[Fq,hp,Bool.true_and,Bool.not_eq_true']at h
 have h1:=List.any_eq_false.1 h r hr
 exact absurd (List.any_eq_true.2 ⟨Ck.o true,hk,rfl⟩) h1
theorem bZ.gF{G:Gh}:∀{ks:List Ck} {vs:List Value} {ts:List T} {is:List (Option Nat)},bZ G w ks vs ts is->(∀k∈ks,k≠.o true)->(∀j,some j∈is->j%4≠2)->bZ G.gF w ks vs ts is
 | [],[],[],[],_,_,_=>trivial
 | .s::ks,v::vs,t::ts,x::is,h,hk,h2=>⟨h.1,by rw[Gh.o6];exact h.2.1,h.2.2.1,bZ.gF h.2.2.2 (λk hm=>hk k (by simp[hm])) λj hj=>h2 j (by simp[hj])⟩
 | .p::ks,v::vs,t::ts,x::is,h,hk,h2=>⟨h.1,by rw[Gh.o6];exact h.2.1,bZ.gF h.2.2 (λk hm=>hk k (by simp[hm])) λj hj=>h2 j (by simp[hj])⟩
 | .o dp::ks,v::vs,t::ts,none::is,h,hk,h2=>⟨h.1,h.2.1,bZ.gF h.2.2 (λk hm=>hk k (by simp[hm])) λj hj=>h2 j (by simp[hj])⟩
 | .o true::ks,v::vs,t::ts,some id::is,h,hk,h2=>absurd rfl (hk _ (by simp))
 | .o false::ks,v::vs,t::ts,some id::is,h,hk,h2=>
  ⟨h.1,h.2.1.rU (λc hc=>Cs hc (tR (h2 id (by simp)))) rfl (λb hb=>by rw[Gh.o6];exact hb),bZ.gF h.2.2 (λk hm=>hk k (by simp[hm])) λj hj=>h2 j (by simp[hj])⟩
 | [],[],[],_::_,h,_,_=>h.elim
 | [],[],_::_,_,h,_,_=>h.elim
 | [],_::_,_,_,h,_,_=>h.elim
 |k::_,[],_,_,h,_,_=>by cases k<;>exact h.elim
 |k::_,_::_,[],_,h,_,_=>by cases k<;>exact h.elim
 |k::_,_::_,_::_,[],h,_,_=>by cases k<;>exact h.elim
theorem ju.gF{G:Gh}:∀{rs:List (Bool×List Ck)} {vs:List Value} {ts:List T} {is:List (Option Nat)},ju G w rs vs ts is->(∀r∈rs,∀k∈r.2,k≠.o true)->(∀j,some j∈is->j%4≠2)->ju G.gF w rs vs ts is
 | [],[],[],[],_,_,_=>trivial
 |(ag,ks)::rs,v::vs,ts,is,h,hk,h2=>by
  obtain⟨t1,t2,i1,i2,rfl,rfl,h1,h3⟩:=h
  refine⟨t1,t2,i1,i2,rfl,rfl,?_,ju.gF h3 (λr hr=>hk r (by simp[hr])) λj hj=>h2 j (by simp[hj])⟩
  have h20:∀j,some j∈i1->j%4≠2:=λj hj=>h2 j (by simp[hj])
  have h0:=hk (ag,ks) (by simp)
  cases ag with
  |true=>obtain⟨us,e,h3⟩:=h1;exact⟨us,e,h3.gF h0 h20⟩
  |false=>exact⟨h1.1.gF h0 h20,h1.2⟩
 | [],[],_::_,_,h,_,_=>h.elim
 | [],[],[],_::_,h,_,_=>h.elim
 | [],_::_,_,_,h,_,_=>h.elim
 |_::_,[],_,_,h,_,_=>h.elim
theorem iP.gF{G:Gh}{bl:Nat->Option Nat}:∀{ps:List PS} {i:Nat} {ts:List T},iP G w bl i ps ts->iP G.gF w bl i ps ts
 | [],i,ts,h=>h
 | .v _ _::ps,i,ts,h=>iP.gF (ps:=ps) (i:=i+1) h
 | .x n::ps,i,ts,h=>by
  obtain⟨b,arr,elem,t1,t2,h1,h2,h3,h4,h5,h6,h7⟩:=h
  exact⟨b,arr,elem,t1,t2,h1,Cs h2 rfl,h3,h4,h5,by rw[Gh.o6];exact h6,iP.gF h7⟩
theorem Uu{n cV:Nat}{fn:Func}{sg:pG}{pl:PL}(E:Env P cx S)(yY:P.follows .mixedOrders=true)(hf:P.funcs[cV]?=some fn)(h:Ft cx n cV fn sg=some pl):
  FU P sg cV λts=>pl.den S R [] ts:=by
 intro w po bl args ts outs hF cC jH
 unfold Ft at h
 simp only[cN]at h
 obtain⟨c,hc,h⟩:=h
 cases hb:(yL fn.ntmps c&&Nat.ble sg.ps.length fn.ntmps&&Fq sg)with
 |false=>simp[hb]at h
 |true=>
  simp only[hb,cond_true]at h
  simp only[bI]at hb
  obtain⟨hb,adM⟩:=hb
  have rl:=Nat.le_of_ble_eq_true hb.2
  obtain⟨g1,g2,g3,g4⟩:=Lk (ρ:=ts) (i:=0) (a:=0) jH (λj t hj=>by rw[Nat.zero_add];exact hj)
  simp only[Nat.zero_add]at g1 g3 g4
  have tB:∀r,(wN 0 0 sg.ps).2.get r=.un∨(r,(wN 0 0 sg.ps).2.get r)∈(wN 0 0 sg.ps).2:=by
   intro r
   rw[St.vC]
   cases hl:(wN 0 0 sg.ps).2.look r with
   |none=>exact .inl rfl
   |some v=>exact .inr (FV hl)
  refine calls_of_wp hf hc ?_
  have iE:(args.toArray++Array.replicate (fn.ntmps-args.toArray.size) undef:Array Value).size=fn.ntmps:=by simp;omega
  have pQ:Rel (λi=>i<sg.ps.length+1) ⟨w,po,bl⟩ 0 (λ_ _=>undef) (wN 0 0 sg.ps).2 ts (Gh.I8 po bl) {tmps:=args.toArray++Array.replicate (fn.ntmps-args.toArray.size) undef,defers:=[]} w:=by
   refine⟨λe m he=>?_,λb=>?_,λi=>?_,λr i hi=>?_,λi hi=>?_,λb l hb=>?_,rfl,⟨rfl,rfl,rfl,Nat.le_refl _,λb _ hb=>⟨hb,rfl⟩,λb hb=>⟨hb,rfl⟩,cC.gl⟩,λi b hb=>⟨by have:=(cC.bl i b hb).1;omega,by show(bl i).getD 0=b;rw[show bl i=some b from hb];rfl⟩⟩
   ·obtain rfl:e=0:=by omega
    rcases tB (.t 0 m)with hu|hm
    ·rw[hu];trivial
    ·rcases g4 _ _ hm with⟨k,c',e1,e2,e3,e4,_⟩|⟨b,e1,_⟩
     ·cases e1
      simp only[qB,if_true]
      rw[Array.getD_eq_getD_getElem?,Array.getElem?_append_left (by simp;omega),List.getElem?_toArray,e3]
      exact e4
     ·cases e1
   ·rcases tB (.x b)with hu|hm
    ·rw[hu];trivial
    ·rcases g4 _ _ hm with⟨k,c',e1,_⟩|⟨b',e1,_,e2,_⟩
     ·cases e1
     ·cases e1;exact e2
   ·rcases tB (.o i)with hu|hm
    ·rw[hu];trivial
    ·rcases g4 _ _ hm with⟨k,c',e1,_⟩|⟨b',e1,_⟩<;>cases e1
   ·rcases tB r with hu|hm
    ·rw[hu]at hi;simp[dt]at hi
    ·rcases g4 _ _ hm with⟨k,c',_,_,_,_,e5⟩|⟨b',_,_,_,e4⟩
     ·have:=e5 i hi;omega
     ·rw[e4]at hi;cases hi
   ·rcases hi with hi|hi
    ·rcases tB (.x i)with hu|hm
     ·exact absurd hu hi
     ·rcases g4 _ _ hm with⟨k,c',e1,_⟩|⟨b',e1,e2,_⟩
      ·cases e1
      ·cases e1;omega
    ·rcases tB (.o i)with hu|hm
     ·exact absurd hu hi
     ·rcases g4 _ _ hm with⟨k,c',e1,_⟩|⟨b',e1,_⟩<;>cases e1
   ·obtain⟨q1,q2⟩:=cC.iO b l hb
    refine⟨?_,q1⟩
    rcases q2 with rfl|⟨i,rfl,hi⟩
    ·show 0<sg.ps.length+1;omega
    ·have:=(cC.bl i b hi).1;show i<_;omega
  refine Uk (f:=⟨0,λ_ _=>undef,fn.ntmps⟩) (R:=R) (out:=outs) (B:=⟨w,po,bl⟩) E (Uo E yY n) yY c 0 0 _ ⟨(wN 0 0 sg.ps).1,sg.ps.length+1⟩ [] _ pl _ w ⟨[],ts⟩ _ hb.1 h
   ⟨[],ts,Gh.I8 po bl,hF,rfl,⟨[],rfl⟩,⟨[],by simp⟩,g1.symm,λn b hn=>by simp[fact]at hn,pQ,iE,trivial⟩ λe=>?_
  have fin:∀(sH:Nat) (s':St) (iJ:Ct) (jR:kj) (p':PL) (a2:Act) (w2:World),JR cx fn sg sH s' iJ jR=some p'->At S R outs ⟨w,po,bl⟩ ⟨0,λ_ _=>undef,fn.ntmps⟩ ⟨[],ts⟩ XT p' sH s' iJ jR a2 w2->
    a2.defers=[]∧∃v,(Go.results fn a2.tmps).run P w2=.ok v w2∧∃v' G is o1 o2,Ending.returned v=.returned v'∧qX sg w po bl outs v' w2 G is o1 o2:=by
   rintro sH s' iJ jR p' a2 w2 hk ⟨K2,Gb,G2,d1,d2,d3,d4,d5,d6,d7,d8,_⟩
   unfold JR at hk
   rw[cN]at hk
   obtain⟨vs,qT,hk⟩:=hk
   obtain⟨us,u1,u2,u3⟩:=Gc E.dW d7 qT
   refine⟨d7.dn,o5 us,Um u1,?_⟩
   simp only at hk
   split at hk
   ·cases hk;cases d1
   ·rename_i k xs ids Ky
    split at hk
    ·cases hk;cases d1
    ·rename_i ys S0
     cases KT:xk ids with
     |false=>rw[KT]at hk;simp only[cond_false,bF]at hk;subst hk;cases d1
     |true=>
      rw[KT]at hk
      simp only[cond_true]at hk
      cases Uv:(Nat.beq k.ct.a (iJ.a+sy k.is)&&tP k.ct.a k.is)with
      |false=>rw[Uv]at hk;cases hk
      |true=>
       rw[Uv]at hk
       simp only[cond_true,bF]at hk
       subst hk
       simp only[bI]at Uv
       have Z3:=dU Uv.1
       obtain⟨tz,w1,w3,w4⟩:=F0 (S:=S) (R:=R) (K:=K2) (out:=outs) (ρ:=Gb) (by rw[d5,<-Z3];exact Uv.2) d1
       have Uw:k.bJ S (Gb++tz):=by
        have:=w4 []
        rw[List.append_nil,d5,<-Z3]at this
        exact this
       obtain⟨G3,d9,Ux⟩:=(d7.ext (e:=tz)).Df (l:=Fp vs sg.rs++Cq s' 0 sg.ps)
       have Uy:c_ G3 w2 (Gb++tz) vs us:=c_.bp (Ux.bp w2) (c_.ext u2)
       have hg:∀r,k.get r=(vy s' (Fp vs sg.rs++Cq s' 0 sg.ps)).get r:=λr=>(Lj Ky).get r
       obtain⟨_,_,is,v3,v4,v5⟩:=Us Ky (λid=>d9.ob id) Uy Uw
       simp only[PL.den,bF,List.map_append]at w3
       have Lm:=Ll (k:=k) (λid=>by rw[hg];exact d9.ob id) (λb=>by rw[hg];exact d9.bx b) (λi b hb=>(d9.bt i b hb).2) S0 λn hn=>by rw[Nat.zero_add];exact g3 n hn
       have Uz:(is.filterMap id).Nodup:=by rw[v4];exact KN KT
       cases hp:rF sg with
       |false=>exact⟨o5 us,G3,is,_,_,rfl,⟨⟨d9.base.os,d9.base.tape,d9.base.output⟩,d9.base.size,d9.base.free,d9.base.Eu,λb l hb=>(d9.iO b l hb).2,λhq=>absurd (hp.symm.trans hq) (by simp),w3.symm,Uz,Ut v3,Lm⟩⟩
       |true=>
        refine⟨o5 us,G3.gF,is,_,_,rfl,⟨⟨d9.base.os,d9.base.tape,d9.base.output⟩,d9.base.size,λb hb h0=>⟨Cr (d9.base.free b hb h0).1,(d9.base.free b hb h0).2⟩,λb hb=>⟨Cs (d9.base.Eu b hb).1 rfl,(d9.base.Eu b hb).2⟩,
         λb l hb=>(d9.iO b l (JS hb)).2,λ_ b hb=>by rw[Gh.o6]at hb;exact hb,w3.symm,Uz,Ut (v3.gF (adL adM hp) v5),Lm.gF⟩⟩
  cases e with
  |normal=>intro sH s' iJ jR p' a2 w2 cO ma;exact fin sH s' iJ jR p' a2 w2 cO ma
  |ret=>intro sH s' iJ jR p' a2 w2 cO ma;exact fin sH s' iJ jR p' a2 w2 cO ma
  |exit id=>intro sH s' iJ jR p' a2 w2 cO ma;cases cO
end
def pick(l:List (Nat×aB))(g:Nat):aB:=
 match l with
 | []=>λ_=>none
 |e::l=>bif Nat.beq e.1 g then e.2 else pick l g
def Q(p:Prim)(l:List Lf)(r:PL):PL:=.ins (.pr p l) r
def I(n:Int):Lf:=.k (.int .i64 n)
instance Lfn {n:Nat}:OfNat Lf n:=⟨.a n⟩
def Qc(w i:Nat)(l:List Lf)(r:PL):PL:=.ins (.pr (.cell w i) l) r
def Qz(l:List Lf)(r:PL):PL:=.ins (.pr (.uQ) l) r
def Qa(l:List Lf)(r:PL):PL:=.ins (.pr (.bin .add) l) r
def Qb(l:List Lf)(r:PL):PL:=.ins (.pr (.kg) l) r
def Ql(l:List Lf)(r:PL):PL:=.ins (.pr (.bin .lss) l) r
def Qe(l:List Lf)(r:PL):PL:=.ins (.pr (.bin .eql) l) r
def Qn(l:List Lf)(r:PL):PL:=.ins (.pr (.len) l) r
def Qt(l:List Lf)(r:PL):PL:=.ins (.pr (.un .not) l) r
def Qp(l:List Lf)(r:PL):PL:=.ins (.pr (.app true 1) l) r
def Qo(l:List Lf)(r:PL):PL:=.ins (.pr (.app false 3) l) r
def Qu(l:List Lf)(r:PL):PL:=.ins (.pr (.bin .neq) l) r
def Qg(l:List Lf)(r:PL):PL:=.ins (.pr (.bin .gtr) l) r
def Qm(l:List Lf)(r:PL):PL:=.ins (.pr (.bin .leq) l) r
def Qh(l:List Lf)(r:PL):PL:=.ins (.pr (.bin .geq) l) r
def Qs(l:List Lf)(r:PL):PL:=.ins (.pr (.bin .sub) l) r
def Qv(l:List Lf)(r:PL):PL:=.ins (.pr (.sub 1 true false) l) r
def Qw(l:List Lf)(r:PL):PL:=.ins (.pr (.sub 1 false true) l) r
def Qx(l:List Lf)(r:PL):PL:=.ins (.pr (.lit 1 [true]) l) r
def Qy(l:List Lf)(r:PL):PL:=.ins (.pr (.app false 8) l) r
def Qq(l:List Lf)(r:PL):PL:=.ins (.pr .kg l)<| .ins (.pr (.aU 1 0) l) r
def Q1(l:List Lf)(r:PL):PL:=.ins (.pr .kg l)<| .ins (.pr (.cell 1 0) l)<|r
def Q2(l:List Lf)(r:PL):PL:=.ins (.pr .kg l)<| .ins (.pr (.cell 2 0) l)<| .ins (.pr (.cell 2 1) l)<|r
def Q3(l:List Lf)(r:PL):PL:=.ins (.pr .kg l)<| .ins (.pr (.cell 3 0) l)<| .ins (.pr (.cell 3 1) l)<| .ins (.pr (.cell 3 2) l)<|r
def Q4(l:List Lf)(r:PL):PL:=.ins (.pr .kg l)<| .ins (.pr (.cell 4 0) l)<| .ins (.pr (.cell 4 1) l)<| .ins (.pr (.cell 4 2) l)<| .ins (.pr (.cell 4 3) l)<|r
def Q8(l:List Lf)(r:PL):PL:=.ins (.pr .kg l)<| .ins (.pr (.cell 8 0) l)<| .ins (.pr (.cell 8 1) l)<| .ins (.pr (.cell 8 2) l)<| .ins (.pr (.cell 8 3) l)<| .ins (.pr (.cell 8 4) l)<| .ins (.pr (.cell 8 5) l)<| .ins (.pr (.cell 8 6) l)<| .ins (.pr (.cell 8 7) l)<|r
def Qi(g:Nat)(l:List Lf)(m:Nat)(r:PL):PL:=.ins (.cl g l m) r
def Fs(p:PL)(l:List (Nat×aB)):aB:=λts=>p.den (pick l) rounds [] ts
inductive Ty where
 |i (k:IntKind)
 |b
 |s
 |sl (fs:List Ty)
mutual
def WT:Ty->T->Prop
 | .i k,t=>∃n,t=.c (.int k n)∧(Lit.int k n).wf=true
 | .b,t=>∃b,t=.c (.bool b)
 | .s,t=>∃s:ByteArray,t=.c (.string s)∧s.size<=maxLen
 | .sl fs,t=>∃xs,t=.l xs∧xs.length<=maxLen∧∀r∈xs,iY fs r
def iY:List Ty->List T->Prop
 | [],ts=>ts=[]
 |f::fs,ts=>∃t ru,ts=t::ru∧WT f t∧iY fs ru
end
def UA:List Ty->List T->Prop
 | [],ts=>ts=[]
 |f::fs,ts=>∃t ru,ts=t::ru∧(match f with
  | .i k=>∃n,t=.c (.int k n)∧(Lit.int k n).wf=true
  | .b=>∃b,t=.c (.bool b)
  | .s=>∃s:ByteArray,t=.c (.string s)∧s.size<=maxLen
  | .sl gs=>WT (.sl gs) t)∧UA fs ru
theorem Ln:∀{fs:List Ty} {ts:List T},iY fs ts->UA fs ts
 | [],ts,h=>by unfold iY at h;exact h
 |f::fs,ts,h=>by
  unfold iY at h
  obtain⟨t,ru,rfl,h1,h2⟩:=h
  refine⟨t,ru,rfl,?_,Ln h2⟩
  cases f with
  |i k=>unfold WT at h1;exact h1
  |b=>unfold WT at h1;exact h1
  |s=>unfold WT at h1;exact h1
  |sl gs=>exact h1
theorem iY.append:∀{fs gs:List Ty} {ts us:List T},iY fs ts->iY gs us->iY (fs++gs) (ts++us)
 | [],gs,ts,us,h,h'=>by
  unfold iY at h
  subst h
  exact h'
 |f::fs,gs,ts,us,h,h'=>by
  unfold iY at h
  obtain⟨t,ru,rfl,h1,h2⟩:=h
  show iY (f::(fs++gs)) (t::(ru++us))
  unfold iY
  exact⟨t,_,rfl,h1,h2.append h'⟩
theorem iY.length:∀{fs:List Ty} {ts:List T},iY fs ts->ts.length=fs.length
 | [],ts,h=>by
  unfold iY at h
  subst h
  rfl
 |f::fs,ts,h=>by
  unfold iY at h
  obtain⟨t,ru,rfl,h1,h2⟩:=h
  simp[h2.length]
mutual
def bulk:T->Nat
 | .c (.string s)=>s.size
 | .c _=>0
 | .l xs=>nF xs
def y_:List T->Nat
 | []=>0
 |t::ts=>bulk t+y_ ts
def nF:List (List T)->Nat
 | []=>0
 |r::rs=>1+(y_ r+nF rs)
end
theorem UB:∀(xs:List (List T)),xs.length<=nF xs
 | []=>by simp[nF]
 |r::rs=>by have:=UB rs;simp[nF];omega
theorem UC:∀{xs:List (List T)} {i:Nat} {r:List T},xs[i]?=some r->y_ r+1<=nF xs
 | [],_,_,h=>by simp at h
 |r'::rs,0,r,h=>by simp at h;subst h;simp[nF];omega
 |r'::rs,i+1,r,h=>by
  have:=UC (xs:=rs) (i:=i) (r:=r) (by simpa using h)
  simp[nF];omega
theorem UD:∀{xs:List (List T)} {i:Nat} {r:List T},xs[i]?=some r->nF (xs.take (i+1))=nF (xs.take i)+(y_ r+1)
 | [],_,_,h=>by simp at h
 |r'::rs,0,r,h=>by simp at h;subst h;simp[nF];omega
 |r'::rs,i+1,r,h=>by
  have:=UD (xs:=rs) (i:=i) (r:=r) (by simpa using h)
  simp only[List.take_succ_cons,nF,this];omega
theorem adN(xs ys:List (List T)):nF (xs++ys)=nF xs+nF ys:=by
 induction xs with
 |nil=>simp[nF]
 |cons r rs ih=>simp[nF,ih];omega
theorem Dj(xs:List (List T)):bulk (.l xs)=nF xs:=by simp only[bulk]
theorem UE(k:IntKind)(n:Int):bulk (.c (.int k n))=0:=by simp only[bulk]
theorem UF(b:Bool):bulk (.c (.bool b))=0:=by simp only[bulk]
theorem Dk(t:T)(ts:List T):y_ (t::ts)=bulk t+y_ ts:=by simp only[y_]
theorem fU{α β:Type}(a:α)(f:α->Option β):(some a).bind f=f a:=rfl
theorem Aj{n:Int}(h:-9223372036854775808<=n)(h':n<9223372036854775808):IntKind.i64.wrap n=n:=by
 simp[IntKind.wrap,IntKind.bits,IntKind.signed]
 omega
theorem Gg(xs:List (List T)):Prim.ev .len [.l xs]=some (.c (.int .i64 xs.length)):=rfl
theorem UG(s:ByteArray):Prim.ev .lens [.c (.string s)]=some (.c (.int .i64 s.size)):=rfl
theorem UH(k:IntKind)(n:Int):Prim.ev .uQ [.c (.int k n)]=some (.c (.int k n)):=rfl
theorem UI(b:Bool):Prim.ev .uQ [.c (.bool b)]=some (.c (.bool b)):=rfl
theorem UJ(s:ByteArray):Prim.ev .uQ [.c (.string s)]=some (.c (.string s)):=rfl
theorem Gi(k:IntKind)(a b:Int):Prim.ev (.bin .lss) [.c (.int k a),.c (.int k b)]=some (.c (.bool (decide (a<b)))):=by simp[Prim.ev,T.val,jP]
theorem UK(k:IntKind)(a b:Int):Prim.ev (.bin .leq) [.c (.int k a),.c (.int k b)]=some (.c (.bool (decide (a<=b)))):=by simp[Prim.ev,T.val,jP]
theorem UL(k:IntKind)(a b:Int):Prim.ev (.bin .gtr) [.c (.int k a),.c (.int k b)]=some (.c (.bool (decide (a>b)))):=by simp[Prim.ev,T.val,jP]
theorem UM(k:IntKind)(a b:Int):Prim.ev (.bin .geq) [.c (.int k a),.c (.int k b)]=some (.c (.bool (decide (a>=b)))):=by simp[Prim.ev,T.val,jP]
theorem Lp(k:IntKind)(a b:Int):Prim.ev (.bin .eql) [.c (.int k a),.c (.int k b)]=some (.c (.bool (a==b))):=by simp[Prim.ev,T.val,jP]
theorem UN(k:IntKind)(a b:Int):Prim.ev (.bin .neq) [.c (.int k a),.c (.int k b)]=some (.c (.bool (a !=b))):=by simp[Prim.ev,T.val,jP]
theorem vY(k:IntKind)(a b:Int):Prim.ev (.bin .add) [.c (.int k a),.c (.int k b)]=some (.c (.int k (k.wrap (a+b)))):=by simp[Prim.ev,T.val,jP]
theorem UO(k:IntKind)(a b:Int):Prim.ev (.bin .sub) [.c (.int k a),.c (.int k b)]=some (.c (.int k (k.wrap (a-b)))):=by simp[Prim.ev,T.val,jP]
theorem Lq(k:IntKind)(a b:Int):Prim.ev (.bin .mul) [.c (.int k a),.c (.int k b)]=some (.c (.int k (k.wrap (a*b)))):=by simp[Prim.ev,T.val,jP]
theorem UP(a b:ByteArray):Prim.ev (.bin .eql) [.c (.string a),.c (.string b)]=some (.c (.bool (a.toList==b.toList))):=by simp[Prim.ev,T.val,jP]
theorem UQ(a b:ByteArray):Prim.ev (.bin .neq) [.c (.string a),.c (.string b)]=some (.c (.bool !(a.toList==b.toList))):=by simp[Prim.ev,T.val,jP]
theorem UR(a b:Bool):Prim.ev (.bb .neq) [.c (.bool a),.c (.bool b)]=some (.c (.bool (a !=b))):=by cases a<;>cases b<;>rfl
theorem US(a b:Bool):Prim.ev (.bb .eql) [.c (.bool a),.c (.bool b)]=some (.c (.bool (a==b))):=by cases a<;>cases b<;>rfl
theorem UT(a:Bool):Prim.ev (.un .not) [.c (.bool a)]=some (.c (.bool !a)):=by cases a<;>rfl
theorem Gj{xs:List (List T)}{i:Nat}{r:List T}{k:IntKind}(h:xs[i]?=some r):wK (.l xs) (.c (.int k (i:Int)))=some r:=by
 simp[wK,T.rows,T.int,h]
theorem UU{xs:List (List T)}{i:Nat}{r:List T}{k:IntKind}(h:xs[i]?=some r):Prim.ev .kg [.l xs,.c (.int k (i:Int))]=some (.c (.bool true)):=by
 simp[Prim.ev,Gj h]
theorem UW{sc:Bool}{xs:List (List T)}{i w off n:Nat}{r vs:List T}{k:IntKind}(h:xs[i]?=some r)(hw:r.length=w)(ho:off+n<=w)(hv:vs.length=n)(hs:(!sc||vs.all dX)=true):
  Prim.ev (.put sc w off n) (.l xs:: .c (.int k (i:Int))::vs)=some (.l (setRow xs i off vs)):=by
 simp only[Prim.ev,Gj h,hw,ho,hv,hs,T.rows,T.int,Option.bind_some,if_true,Int.toNat_natCast]
theorem adO{k k':IntKind}{n:Nat}{ts:List T}(h:n<wJ):Prim.ev .mk (.c (.int k (n:Int)):: .c (.int k' (n:Int))::ts)=some (.l (List.replicate n ts)):=by
 unfold wJ at h
 simp[Prim.ev,wJ,show(n:Int)<4294967296 by omega]
theorem adP{S:Nat->aB}{R:Nat}{K:List aB}{ρ:List T}(xs:List Lf):PL.den S R K ρ (.ret xs)=some (xs.map (Lf.ev ρ)):=by simp only[PL.den]
theorem xS{S:Nat->aB}{R:Nat}{K:List aB}{ρ:List T}(p:Prim)(xs:List Lf)(k:PL):PL.den S R K ρ (.ins (.pr p xs) k)=(p.ev (xs.map (Lf.ev ρ))).bind λt=>k.den S R K (ρ++[t]):=by simp only[PL.den]
theorem adQ{S:Nat->aB}{R:Nat}{K:List aB}{ρ:List T}(g:Nat)(xs:List Lf)(m:Nat)(k:PL):PL.den S R K ρ (.ins (.cl g xs m) k)=(S g (xs.map (Lf.ev ρ))).bind λts=>k.den S R K (ρ++tM ts 0 m):=by simp only[PL.den]
def az(t:T)(x y:Option (List T)):Option (List T):=match t with
 | .c (.bool b)=>bif b then x else y
 |_=>none
theorem Lr(b:Bool)(x y:Option (List T)):az (.c (.bool b)) x y=bif b then x else y:=rfl
theorem Gk{S:Nat->aB}{R:Nat}{K:List aB}{ρ:List T}(c:Nat)(x y:PL):PL.den S R K ρ (.ite c x y)=az (ρ.getD c T.bH) (x.den S R K ρ) (y.den S R K ρ):=by
 simp only[PL.den,az]
 generalize ρ.getD c T.bH=t
 cases t with
 |c v=>cases v<;>rfl
 |l xs=>rfl
theorem adR{S:Nat->aB}{R:Nat}{K:List aB}{ρ:List T}(xs:List Lf)(b:PL):PL.den S R K ρ (.loop xs b)=iter (λself ts=>b.den S R (self::K) (ρ++ts)) R (xs.map (Lf.ev ρ)):=by simp only[PL.den]
theorem UX{S:Nat->aB}{R:Nat}{f:aB}{K:List aB}{ρ:List T}(xs:List Lf):PL.den S R (f::K) ρ (.go 0 xs)=f (xs.map (Lf.ev ρ)):=by simp[PL.den]
theorem UY{S:Nat->aB}{R j:Nat}{f:aB}{K:List aB}{ρ:List T}(xs:List Lf):PL.den S R (f::K) ρ (.go (j+1) xs)=PL.den S R K ρ (.go j xs):=by simp[PL.den]
theorem xT(ρ:List T)(v:Value):Lf.ev ρ (.k v)=.c v:=rfl
theorem adS(ρ:List T):Lf.ev ρ .e=.l []:=rfl
theorem lN(ρ:List T)(n:Nat):Lf.ev ρ (.a n)=ρ.getD n T.bH:=rfl
set_option linter.unusedSimpArgs false
def big:Nat:=1048576
theorem iY.one{f:Ty}{ts:List T}(h:iY [f] ts):∃t,ts=[t]∧WT f t:=by
 unfold iY at h
 obtain⟨t,ru,rfl,h1,h2⟩:=h
 unfold iY at h2
 subst h2
 exact⟨t,rfl,h1⟩
theorem adU{α:Type}{xs:List α}{i:Nat}{r:α}(h:xs[i]?=some r):r∈xs:=List.mem_of_getElem? h
theorem adV{α:Type}{xs:List α}{i:Nat}(h:i<xs.length):∃r,xs[i]?=some r:=⟨xs[i],List.getElem?_eq_getElem h⟩
def adW:Nat->Nat->List Lf
 |_,0=>[]
 |b,n+1=>.a b::adW (b+1) n
theorem Dc{ρ B:List T}{n:Nat}(h:n<ρ.length):Lf.ev (ρ++B) (.a n)=Lf.ev ρ (.a n):=by
 simp[Lf.ev,List.getD,List.getElem?_append_left h]
set_option linter.unusedSimpArgs false
theorem adX{α:Type}{xs:List α}{i:Nat}{r:α}(h:xs[i]?=some r):xs.take (i+1)=xs.take i++[r]:=by
 rw[List.take_add_one,h];rfl
set_option linter.unusedSimpArgs false
theorem adY{α β:Type}{F:(α->Option β)->α->Option β}{n:Nat}(Inv:Nat->α->Prop){Q:Option β->Prop}
  (step:∀i x,i<n->Inv i x->∀s,(∃x',Inv (i+1) x'∧F s x=s x')∨Q (F s x))(fin:∀x,Inv n x->∀s,Q (F s x)){x:α}(hx:Inv 0 x){R:Nat}(hR:n<R):Q (iter F R x):=by
 have:∀d i x,i+d=n->Inv i x->∀R,d<R->Q (iter F R x):=by
  intro d
  induction d with
  |zero=>
   intro i x hi hx R hR
   cases R with
   |zero=>omega
   |succ R=>rw[Nat.add_zero]at hi;subst hi;exact fin x hx _
  |succ d ih=>
   intro i x hi hx R hR
   cases R with
   |zero=>omega
   |succ R=>
    unfold iter
    rcases step i x (by omega) hx (iter F R)with⟨x',h1,h2⟩|h
    ·rw[h2];exact ih (i+1) x' (by omega) h1 R (by omega)
    ·exact h
 exact this n 0 x (by omega) hx R hR
def aty(o o':Option (List T)):Prop:=∃b,o=some [.c (.bool b)]∧o'=some [.c (.bool b)]
theorem adZ(a b c d:Int):Prim.ev (.eqs [1,1]) [.c (.int .i64 a),.c (.int .i64 b),.c (.int .i64 c),.c (.int .i64 d)]=some (.c (.bool (a==c&&(b==d)))):=by
 simp[Prim.ev,yJ,PW]
set_option linter.unusedSimpArgs false
def gG(g:Nat->List T->Nat×List T):Nat->List (List T)->Nat×List (List T)
 |n,[]=>(n,[])
 |n,r::rs=>((gG g (g n r).1 rs).1,(g n r).2::(gG g (g n r).1 rs).2)
mutual
def rX:Ty->Nat->T->Nat×T
 | .i k,n,_=>(n+1,.c (.int k (n:Int)))
 | .b,n,_=>(n+1,.c (.bool (n%3==0)))
 | .s,n,t=>(n,t)
 | .sl fs,n,t=>match t with
  | .l xs=>((gG (gY fs) n xs).1,.l (gG (gY fs) n xs).2)
  |t=>(n,t)
def gY:List Ty->Nat->List T->Nat×List T
 | [],n,_=>(n,[])
 |f::fs,n,ts=>match ts with
  |t::ts=>((gY fs (rX f n t).1 ts).1,(rX f n t).2::(gY fs (rX f n t).1 ts).2)
  | []=>(n,[])
end
theorem Gl(n:Nat)(ts:List T):gY [] n ts=(n,[]):=by simp only[gY]
theorem Gm(f:Ty)(fs:List Ty)(n:Nat)(t:T)(ts:List T):gY (f::fs) n (t::ts)=((gY fs (rX f n t).1 ts).1,(rX f n t).2::(gY fs (rX f n t).1 ts).2):=by simp only[gY]
theorem Ls(k:IntKind)(n:Nat)(t:T):rX (.i k) n t=(n+1,.c (.int k (n:Int))):=by simp only[rX]
theorem Lt(n:Nat)(t:T):rX .b n t=(n+1,.c (.bool (n%3==0))):=by simp only[rX]
theorem Lu(fs:List Ty)(n:Nat)(xs:List (List T)):rX (.sl fs) n (.l xs)=((gG (gY fs) n xs).1,.l (gG (gY fs) n xs).2):=by simp only[rX]
theorem UZ{g:Nat->List T->Nat×List T}:∀(xs:List (List T)) (n:Nat) (r:List T),gG g n (xs++[r])=((g (gG g n xs).1 r).1,(gG g n xs).2++[(g (gG g n xs).1 r).2])
 | [],n,r=>rfl
 |x::xs,n,r=>by
  show((gG g (g n x).1 (xs++[r])).1,(g n x).2::(gG g (g n x).1 (xs++[r])).2)=_
  rw[UZ xs]
  rfl
theorem Gn{g:Nat->List T->Nat×List T}:∀(xs:List (List T)) (n:Nat),(gG g n xs).2.length=xs.length
 | [],n=>rfl
 |x::xs,n=>by simp[gG,Gn xs]
theorem ad0{g:Nat->List T->Nat×List T}{xs:List (List T)}{i:Nat}{r:List T}(h:xs[i]?=some r)(n:Nat):gG g n (xs.take (i+1))=((g (gG g n (xs.take i)).1 r).1,(gG g n (xs.take i)).2++[(g (gG g n (xs.take i)).1 r).2]):=by
 rw[adX h,UZ]
mutual
def Bz:Ty->Bool
 | .i .i64=>true
 | .i _=>false
 | .b=>true
 | .s=>false
 | .sl fs=>Nat.ble fs.length 64&&qZ fs
def qZ:List Ty->Bool
 | []=>true
 |f::fs=>Bz f&&qZ fs
end
theorem Lv{f:Ty}{fs:List Ty}(h:qZ (f::fs)=true):Bz f=true∧qZ fs=true:=by
 unfold qZ at h
 simpa using h
theorem Dl{fs:List Ty}(h:Bz (.sl fs)=true):fs.length<=64∧qZ fs=true:=by
 unfold Bz at h
 simp only[bI]at h
 exact⟨Nat.le_of_ble_eq_true h.1,h.2⟩
theorem U0{g:Nat->List T->Nat×List T}{xs:List (List T)}(hg:∀n,∀r∈xs,n<=(g n r).1∧(g n r).1<=n+64*(1+y_ r)):∀(n:Nat),n<=(gG g n xs).1∧(gG g n xs).1<=n+64*nF xs:=by
 induction xs with
 |nil=>intro n;simp[gG,nF]
 |cons x xs ih=>
  intro n
  have h1:=hg n x (.head _)
  have h2:=ih (λn r hr=>hg n r (.tail _ hr)) (g n x).1
  simp only[gG,nF]
  omega
mutual
theorem Lw:∀(f:Ty) (n:Nat) (t:T),Bz f=true->WT f t->n<=(rX f n t).1∧(rX f n t).1<=n+1+64*bulk t
 | .i k,n,t,_,_=>by simp only[Ls];omega
 | .b,n,t,_,_=>by simp only[Lt];omega
 | .s,n,t,h,_=>by simp[Bz]at h
 | .sl fs,n,t,h,ht=>by
  unfold WT at ht
  obtain⟨xs,rfl,_,hx⟩:=ht
  have hm:=Dl h
  rw[Lu,Dj]
  have:=U0 (g:=gY fs) (xs:=xs) (λn r hr=>by
   have:=Gp fs n r hm.2 (hx r hr)
   omega) n
  simp only
  omega
theorem Gp:∀(fs:List Ty) (n:Nat) (ts:List T),qZ fs=true->iY fs ts->n<=(gY fs n ts).1∧(gY fs n ts).1<=n+fs.length+64*y_ ts
 | [],n,ts,_,_=>by simp only[Gl,List.length_nil];omega
 |f::fs,n,ts,h,ht=>by
  unfold iY at ht
  obtain⟨t,ru,rfl,h1,h2⟩:=ht
  have hm:=Lv h
  have g1:=Lw f n t hm.1 h1
  have g2:=Gp fs (rX f n t).1 ru hm.2 h2
  rw[Gm,Dk]
  simp only[List.length_cons]
  omega
end
mutual
theorem ad1:∀(f:Ty) (n:Nat) (t:T),Bz f=true->WT f t->n+1+64*bulk t<4611686018427387904->WT f (rX f n t).2∧bulk (rX f n t).2=bulk t
 | .i k,n,t,hk,ht,hn=>by
  unfold WT at ht
  obtain⟨m,rfl,_⟩:=ht
  rw[Ls,UE,UE]
  refine⟨?_,rfl⟩
  unfold WT
  cases k with
  |i64=>exact⟨n,rfl,by simp[Lit.wf,IntKind.min,IntKind.max,IntKind.signed,IntKind.bits];omega⟩
  |_=>simp[Bz]at hk
 | .b,n,t,_,ht,_=>by
  unfold WT at ht
  obtain⟨m,rfl⟩:=ht
  rw[Lt,UF,UF]
  refine⟨?_,rfl⟩
  unfold WT
  exact⟨_,rfl⟩
 | .s,n,t,h,_,_=>by simp[Bz]at h
 | .sl fs,n,t,h,ht,hn=>by
  unfold WT at ht
  obtain⟨xs,rfl,hl,hx⟩:=ht
  have hm:=Dl h
  rw[Lu,Dj,Dj]
  rw[Dj]at hn
  have:∀(xs:List (List T)) (n:Nat),(∀r∈xs,iY fs r)->n+1+64*nF xs<4611686018427387904->(∀r∈(gG (gY fs) n xs).2,iY fs r)∧nF (gG (gY fs) n xs).2=nF xs:=by
   intro xs
   induction xs with
   |nil=>intro n _ _;simp[gG]
   |cons x xs ih=>
    intro n hx hn
    simp only[nF]at hn
    have g0:=Gp fs n x hm.2 (hx x (.head _))
    have g1:=U1 fs n x hm.2 (hx x (.head _)) (by omega)
    have g2:=ih (gY fs n x).1 (λr hr=>hx r (.tail _ hr)) (by omega)
    simp only[gG,nF,List.mem_cons]
    refine⟨?_,by rw[g1.2,g2.2]⟩
    rintro r (rfl|hr)
    ·exact g1.1
    ·exact g2.1 r hr
  have:=this xs n hx hn
  refine⟨?_,this.2⟩
  unfold WT
  exact⟨_,rfl,by rw[Gn];exact hl,this.1⟩
theorem U1:∀(fs:List Ty) (n:Nat) (ts:List T),qZ fs=true->iY fs ts->n+fs.length+64*y_ ts<4611686018427387904->iY fs (gY fs n ts).2∧y_ (gY fs n ts).2=y_ ts
 | [],n,ts,_,ht,_=>by
  unfold iY at ht
  subst ht
  rw[Gl]
  refine⟨?_,rfl⟩
  unfold iY
  rfl
 |f::fs,n,ts,h,ht,hn=>by
  unfold iY at ht
  obtain⟨t,ru,rfl,h1,h2⟩:=ht
  have hm:=Lv h
  simp only[Dk,List.length_cons]at hn
  have g0:=Lw f n t hm.1 h1
  have g1:=ad1 f n t hm.1 h1 (by omega)
  have g2:=U1 fs (rX f n t).1 ru hm.2 h2 (by omega)
  rw[Gm,Dk,Dk,g1.2,g2.2]
  refine⟨?_,rfl⟩
  unfold iY
  exact⟨_,_,rfl,g1.1,g2.1⟩
end
theorem rv{ρ:List T}{n:Nat}{t:T}(h:ρ.getD n T.bH=t)(hn:n<ρ.length)(B:List T):(ρ++B).getD n T.bH=t:=by
 rw[<-h]
 simp[List.getD,List.getElem?_append_left hn]
theorem vZ{ρ B:List T}{t:T}:(ρ++t::B).getD ρ.length T.bH=t:=by
 simp[List.getD]
theorem ad2(n:Nat):Prim.ev (.bin .rem) [.c (.int .i64 (n:Int)),.c (.int .i64 3)]=some (.c (.int .i64 ((n%3:Nat):Int))):=by
 simp only[Prim.ev,T.val,jP,Option.bind_some,if_true]
 rw[if_neg (by decide)]
 simp only[Option.bind_some]
 congr 3
theorem ad3(a b:Nat):(((a:Int))==(b:Int))=(a==b):=by
 rw[Bool.eq_iff_iff]
 simp only[beq_iff_eq]
 omega
set_option linter.unusedSimpArgs false
theorem wY{ρ:List T}{p:Nat}(hp:ρ.length=p)(m:Nat)(B:List T):(ρ++B).getD (p+m) T.bH=B.getD m T.bH:=by
 subst hp
 simp only[List.getD,List.getElem?_append_right (Nat.le_add_right _ _),Nat.add_sub_cancel_left]
set_option linter.unusedSimpArgs false
abbrev Pt:=List (Nat×Nat×Nat)
def fB:Pt->T->Option T
 | [],t=>some t
 |(i,w,j)::P,.l xs=>(xs[i]?).bind λr=>if r.length=w then(r[j]?).bind λt=>t.rows.bind λys=>fB P (.l ys)else none
 |_::_,.c _=>none
def df:Pt->T->T->T
 | [],_,v=>v
 |(i,w,j)::P,.l xs,v=>.l (setRow xs i j [df P (((xs[i]?).bind (·[j]?)).getD T.bH) v])
 |_::_,t,_=>t
theorem Lx{i w j:Nat}{P:Pt}{t d:T}(h:fB ((i,w,j)::P) t=some d):∃xs r ys,t=.l xs∧xs[i]?=some r∧r.length=w∧r[j]?=some (.l ys)∧fB P (.l ys)=some d:=by
 cases t with
 |c v=>simp[fB]at h
 |l xs=>
  simp only[fB,cN]at h
  obtain⟨r,hr,h⟩:=h
  split at h
  ·rename_i hw
   rw[cN]at h
   obtain⟨u,hu,h⟩:=h
   cases u with
   |c v=>simp[T.rows]at h
   |l ys=>exact⟨xs,r,ys,rfl,hr,hw,hu,by simpa[T.rows]using h⟩
  ·cases h
theorem Ly{i w j:Nat}{P:Pt}{xs:List (List T)}{r:List T}{ys:List (List T)}{d:T}(h1:xs[i]?=some r)(h2:r.length=w)(h3:r[j]?=some (.l ys))(h4:fB P (.l ys)=some d):fB ((i,w,j)::P) (.l xs)=some d:=by
 simp[fB,h1,h2,h3,T.rows,h4]
theorem Gq{xs:List (List T)}{i:Nat}{a b:List T}{t v:T}{j:Nat}(h:xs[i]?=some (a++t::b))(hj:a.length=j):setRow xs i j [v]=xs.set i (a++v::b):=by
 subst hj
 unfold setRow
 apply List.ext_getElem?
 intro k
 rw[List.getElem?_modify,List.getElem?_set]
 by_cases hk:i=k
 ·subst hk
  have hi:i<xs.length:=(List.getElem?_eq_some_iff.1 h).1
  rw[h]
  simp[hi]
 ·simp[hk]
theorem Lz{r:List T}{j:Nat}{t:T}(h:r[j]?=some t):∃a b,r=a++t::b∧a.length=j:=by
 obtain⟨hj,he⟩:=List.getElem?_eq_some_iff.1 h
 refine⟨r.take j,r.drop (j+1),?_,by simp;omega⟩
 rw[<-he,<-List.drop_eq_getElem_cons hj,List.take_append_drop]
theorem ad4{xs:List (List T)}{i:Nat}{r:List T}{t v:T}{j:Nat}(h:xs[i]?=some r)(hj:r[j]?=some t):∃r',(setRow xs i j [v])[i]?=some r'∧r'.length=r.length∧r'[j]?=some v:=by
 obtain⟨a,b,rfl,ha⟩:=Lz hj
 have hi:i<xs.length:=(List.getElem?_eq_some_iff.1 h).1
 rw[Gq h ha]
 refine⟨a++v::b,by simp[hi],by simp,?_⟩
 subst ha
 simp
theorem Dm:∀{P:Pt} {t d:T} {v:List (List T)},fB P t=some d->fB P (df P t (.l v))=some (.l v)
 | [],t,d,v,_=>rfl
 |(i,w,j)::P,t,d,v,h=>by
  obtain⟨xs,r,ys,rfl,h1,h2,h3,h4⟩:=Lx h
  have ih:=Dm (v:=v) h4
  have e:((xs[i]?).bind (·[j]?)).getD T.bH=.l ys:=by simp[h1,h3]
  simp only[df,e]
  cases hs:df P (.l ys) (.l v)with
  |c u=>rw[hs]at ih;cases P with
   |nil=>simp[fB]at ih
   |cons q P=>obtain⟨q1,q2,q3⟩:=q;simp[fB]at ih
  |l zs=>
   obtain⟨r',g1,g2,g3⟩:=ad4 (v:=.l zs) h1 h3
   rw[hs]at ih
   exact Ly g1 (by rw[g2,h2]) g3 ih
theorem LA:∀{P:Pt} {t d:T} {v:List (List T)} {v':T},fB P t=some d->df P (df P t (.l v)) v'=df P t v'
 | [],t,d,v,v',_=>rfl
 |(i,w,j)::P,t,d,v,v',h=>by
  obtain⟨xs,r,ys,rfl,h1,h2,h3,h4⟩:=Lx h
  have ih:=LA (v:=v) (v':=v') h4
  have e:((xs[i]?).bind (·[j]?)).getD T.bH=.l ys:=by simp[h1,h3]
  obtain⟨a,b,rfl,ha⟩:=Lz h3
  have hi:i<xs.length:=(List.getElem?_eq_some_iff.1 h1).1
  have e2:∀u:T,(((setRow xs i j [u])[i]?).bind (·[j]?)).getD T.bH=u:=by
   intro u
   rw[Gq h1 ha]
   subst ha
   simp[hi]
  simp only[df,e,e2,ih]
  congr 1
  have g1:(xs.set i (a++df P (.l ys) (.l v)::b))[i]?=some (a++df P (.l ys) (.l v)::b):=by simp[hi]
  rw[Gq h1 ha,Gq h1 ha,Gq g1 ha,List.set_set]
theorem U2{xs:List (List T)}{i:Nat}{r:List T}(h:xs[i]?=some r):xs.set i r=xs:=by
 apply List.ext_getElem?
 intro k
 rw[List.getElem?_set]
 by_cases hk:i=k
 ·subst hk
  have hi:i<xs.length:=(List.getElem?_eq_some_iff.1 h).1
  simp[hi,h.symm]
 ·simp[hk]
theorem LB:∀{P:Pt} {t d:T},fB P t=some d->df P t d=t
 | [],t,d,h=>by simp only[fB,bF]at h;exact h.symm
 |(i,w,j)::P,t,d,h=>by
  obtain⟨xs,r,ys,rfl,h1,h2,h3,h4⟩:=Lx h
  have ih:=LB h4
  have e:((xs[i]?).bind (·[j]?)).getD T.bH=.l ys:=by simp[h1,h3]
  obtain⟨a,b,rfl,ha⟩:=Lz h3
  simp only[df,e,ih]
  rw[Gq h1 ha,U2 h1]
theorem U3:∀{P Q:Pt} {t:T},fB (P++Q) t=(fB P t).bind (fB Q)
 | [],Q,t=>rfl
 |(i,w,j)::P,Q,.c v=>by simp[fB]
 |(i,w,j)::P,Q,.l xs=>by
  simp only[List.cons_append,fB]
  cases xs[i]? with
  |none=>rfl
  |some r=>
   simp only[Option.bind_some]
   split
   ·cases r[j]? with
    |none=>rfl
    |some u=>
     simp only[Option.bind_some]
     cases u with
     |c v=>rfl
     |l ys=>simp only[T.rows,Option.bind_some];exact U3
   ·rfl
theorem U4:∀{P Q:Pt} {t d v:T},fB P t=some d->df (P++Q) t v=df P t (df Q d v)
 | [],Q,t,d,v,h=>by simp only[fB,bF]at h;subst h;rfl
 |(i,w,j)::P,Q,t,d,v,h=>by
  obtain⟨xs,r,ys,rfl,h1,h2,h3,h4⟩:=Lx h
  have e:((xs[i]?).bind (·[j]?)).getD T.bH=.l ys:=by simp[h1,h3]
  simp only[List.cons_append,df,e,U4 h4]
def cU(ρ:List T):Pt->Pt->Prop
 | [],[]=>True
 |(a,w,j)::P,(i,w',j')::Q=>w=w'∧j=j'∧a<ρ.length∧ρ.getD a T.bH=.c (.int .i64 (i:Int))∧cU ρ P Q
 |_,_=>False
theorem cU.ext{ρ:List T}(B:List T):∀{P Q:Pt},cU ρ P Q->cU (ρ++B) P Q
 | [],[],_=>trivial
 |(a,w,j)::P,(i,w',j')::Q,⟨h1,h2,h3,h4,h5⟩=>⟨h1,h2,by simp;omega,rv h4 h3 B,cU.ext B h5⟩
 | [],_::_,h=>h.elim
 |(_,_,_)::_,[],h=>h.elim
theorem cU.snoc{ρ:List T}{a i w j:Nat}(h1:a<ρ.length)(h2:ρ.getD a T.bH=.c (.int .i64 (i:Int))):∀{P Q:Pt},cU ρ P Q->cU ρ (P++[(a,w,j)]) (Q++[(i,w,j)])
 | [],[],_=>⟨rfl,rfl,h1,h2,trivial⟩
 |(a',w',j')::P,(i',w'',j'')::Q,⟨g1,g2,g3,g4,g5⟩=>⟨g1,g2,g3,g4,cU.snoc h1 h2 g5⟩
 | [],_::_,h=>h.elim
 |(_,_,_)::_,[],h=>h.elim
def sT:Pt->Nat->Nat->(Nat->Nat->PL)->PL
 | [],s,p,k=>k s p
 |(a,w,j)::P,s,p,k=>.ins (.pr (.kh w j) [.a s,.a a]) (sT P p (p+1) k)
def Ak:Pt->Nat->Nat->Nat->Nat->(Nat->Nat->PL)->PL
 | [],_,_,v,p,k=>k v p
 |(a,w,j)::P,e,e',v,p,k=>Ak P e' (e'+1) v p λv' p'=>.ins (.pr (.zB w j) [.a e,.a a,.a v']) (k p' (p'+1))
theorem U5{xs:List (List T)}{i w j:Nat}{r:List T}{ys:List (List T)}(h:xs[i]?=some r)(hw:r.length=w)(hj:r[j]?=some (.l ys)):Prim.ev (.kh w j) [.l xs,.c (.int .i64 (i:Int))]=some (.l ys):=by
 simp[Prim.ev,Gj h,hw,hj,T.rows]
theorem ad5{xs:List (List T)}{i w j:Nat}{r:List T}{v:T}(h:xs[i]?=some r)(hw:r.length=w)(hj:j<w):Prim.ev (.zB w j) [.l xs,.c (.int .i64 (i:Int)),v]=some (.l (setRow xs i j [v])):=by
 simp[Prim.ev,Gj h,hw,hj,T.rows,T.int]
def lE:Pt->T->List T
 | [],_=>[]
 |(i,w,j)::P,t=>match fB [(i,w,j)] t with
  |some u=>u::lE P u
  |none=>[]
theorem LC{i w j:Nat}{P:Pt}{xs:List (List T)}{r:List T}{ys:List (List T)}(h1:xs[i]?=some r)(h2:r.length=w)(h3:r[j]?=some (.l ys)):lE ((i,w,j)::P) (.l xs)=.l ys::lE P (.l ys):=by
 simp only[lE,Ly h1 h2 h3 (P:=[]) rfl]
section
variable {S:Nat->aB} {R:Nat} {K:List aB} {out:Option (List T)}
theorem v8:∀{P Q:Pt} {s p:Nat} {k:Nat->Nat->PL} {ρ:List T} {t d:T},cU ρ P Q->fB Q t=some d->ρ.length=p->s<p->ρ.getD s T.bH=t->
  (∀e,(lE Q t).length=P.length->e<p+P.length->(ρ++lE Q t).getD e T.bH=d->PL.den S R K (ρ++lE Q t) (k e (p+P.length))=out)->PL.den S R K ρ (sT P s p k)=out
 | [],[],s,p,k,ρ,t,d,_,hg,hp,hs,ht,hk=>by
  simp only[fB,bF]at hg
  subst hg
  have:=hk s rfl (by simpa using hs) (by simpa[lE]using ht)
  simpa[lE,sT]using this
 |(a,w,j)::P,(i,w',j')::Q,s,p,k,ρ,t,d,⟨z1,z2,h3,h4,h5⟩,hg,hp,hs,ht,hk=>by
  subst z1 z2
  obtain⟨xs,r,ys,rfl,g1,g2,g3,g4⟩:=Lx hg
  rw[LC g1 g2 g3]at hk
  simp only[sT,xS,List.map_cons,List.map_nil,lN,ht,h4,U5 g1 g2 g3,fU]
  refine v8 (cU.ext _ h5) g4 (by simp[hp]) (by omega) (by rw[<-hp];exact vZ) λe he1 he2 he3=>?_
  rw[List.append_assoc]at he3⊢
  have:=hk e (by simp[he1]) (by simp;omega) he3
  simpa[Nat.add_assoc,Nat.add_comm 1]using this
 | [],_::_,_,_,_,_,_,_,h,_,_,_,_,_=>h.elim
 |(_,_,_)::_,[],_,_,_,_,_,_,h,_,_,_,_,_=>h.elim
theorem U6:∀{P Q:Pt} {e e' v p:Nat} {k:Nat->Nat->PL} {ρ:List T} {t d vv:T},cU ρ P Q->fB Q t=some d->ρ.length=p->e<p->ρ.getD e T.bH=t->(∀m x,(lE Q t)[m]?=some x->e'+m<p∧ρ.getD (e'+m) T.bH=x)->v<p->ρ.getD v T.bH=vv->
  (∀(B:List T) (v' p':Nat),(ρ++B).length=p'->v'<p'->(ρ++B).getD v' T.bH=df Q t vv->PL.den S R K (ρ++B) (k v' p')=out)->PL.den S R K ρ (Ak P e e' v p k)=out
 | [],[],e,e',v,p,k,ρ,t,d,vv,_,hg,hp,he,ht,hc,hv,uR,hk=>by
  have:=hk [] v p (by simpa using hp) hv (by simpa[df]using uR)
  simpa[Ak]using this
 |(a,w,j)::P,(i,w',j')::Q,e,e',v,p,k,ρ,t,d,vv,⟨z1,z2,h3,h4,h5⟩,hg,hp,he,ht,hc,hv,uR,hk=>by
  subst z1 z2
  obtain⟨xs,r,ys,rfl,g1,g2,g3,g4⟩:=Lx hg
  rw[LC g1 g2 g3]at hc
  have c0:=hc 0 _ rfl
  have hjw:j<w:=by rw[<-g2];exact(List.getElem?_eq_some_iff.1 g3).1
  rw[show Ak ((a,w,j)::P) e e' v p k=Ak P e' (e'+1) v p (λv' p'=>.ins (.pr (.zB w j) [.a e,.a a,.a v']) (k p' (p'+1))) from rfl]
  refine U6 h5 g4 hp c0.1 c0.2 (λm x hm=>?_) hv uR λB v' p' q1 q2 q3=>?_
  ·have:=hc (m+1) x (by simpa using hm)
   rw[show e'+1+m=e'+(m+1) by omega]
   exact this
  ·have x1:=rv ht (by omega) B
   have x2:=rv h4 h3 B
   simp only[xS,List.map_cons,List.map_nil,lN,x1,x2,q3,ad5 g1 g2 hjw,fU]
   rw[List.append_assoc]
   have e0:((xs[i]?).bind (·[j]?)).getD T.bH=.l ys:=by simp[g1,g3]
   refine hk _ p' (p'+1) (by simp at q1⊢;omega) (by omega) ?_
   rw[<-List.append_assoc,<-q1,vZ]
   simp only[df,e0]
 | [],_::_,_,_,_,_,_,_,_,_,_,h,_,_,_,_,_,_,_,_=>h.elim
 |(_,_,_)::_,[],_,_,_,_,_,_,_,_,_,h,_,_,_,_,_,_,_,_=>h.elim
def Gr(P:Pt)(k w j s v p:Nat)(cont:Nat->Nat->PL):PL:=
 sT P s p λd p1=>.ins (.pr .kg [.a d,.a k])<|sT P s (p1+1) λd2 p2=>.ins (.pr (.put true w j 1) [.a d2,.a k,.a v])<|
  match P with
  | []=>cont p2 (p2+1)
  |_::_=>sT P s (p2+1) λ_ p3=>Ak P s (p2+1) p2 p3 cont
theorem U7{P Q:Pt}{k w j s v p kv:Nat}{cont:Nat->Nat->PL}{ρ:List T}{t vv:T}{xs:List (List T)}{r:List T}(hP:cU ρ P Q)(hg:fB Q t=some (.l xs))(hp:ρ.length=p)(hs:s<p)(ht:ρ.getD s T.bH=t)
  (hkp:k<p)(hk:ρ.getD k T.bH=.c (.int .i64 (kv:Int)))(hv:v<p)(uR:ρ.getD v T.bH=vv)(oM:dX vv=true)(hr:xs[kv]?=some r)(hw:r.length=w)(hj:j<w)
  (hc:∀(B:List T) (s' p':Nat),(ρ++B).length=p'->s'<p'->(ρ++B).getD s' T.bH=df Q t (.l (setRow xs kv j [vv]))->PL.den S R K (ρ++B) (cont s' p')=out):PL.den S R K ρ (Gr P k w j s v p cont)=out:=by
 have nu:=UW (sc:=true) (k:=.i64) (off:=j) (n:=1) (vs:=[vv]) hr hw (by omega) rfl (by simp[oM])
 unfold Gr
 refine v8 hP hg hp hs ht λe a1 a2 a3=>?_
 have l1:(ρ++lE Q t).length=p+P.length:=by simp[hp,a1]
 simp only[xS,List.map_cons,List.map_nil,lN,a3,rv hk (by omega) _,UU hr,fU,List.append_assoc]
 refine v8 (cU.ext _ hP) hg (by simp[hp,a1];omega) (by omega) (rv ht (by omega) _) λe2 b1 b2 b3=>?_
 simp only[List.append_assoc]at b3⊢
 simp only[xS,List.map_cons,List.map_nil,lN,b3,rv hk (by omega) _,rv uR (by omega) _,nu,fU,List.append_assoc]
 cases P with
 |nil=>
  cases Q with
  |cons _ _=>exact hP.elim
  |nil=>
   simp only[fB,bF]at hg
   refine hc _ _ _ (by simp[hp,lE]) (by simp) ?_
   simp only[lE,List.nil_append,List.length_nil,Nat.add_zero,List.cons_append]
   rw[show p+1=p+1 from rfl,wY hp]
   rfl
 |cons q P=>
  simp only
  refine v8 (cU.ext _ hP) hg (by simp[hp,a1];omega) (by omega) (rv ht (by omega) _) λe3 c1 c2 c3=>?_
  simp only[List.append_assoc]at c3⊢
  have l3:(ρ++(lE Q t++([T.c (.bool true)]++(lE Q t++([T.l (setRow xs kv j [vv])]++lE Q t))))).length=p+(q::P).length+1+(q::P).length+1+(q::P).length:=by simp[hp,a1];omega
  refine U6 (cU.ext _ hP) hg l3 (by omega) (rv ht (by omega) _) (λm x hm=>?_) (by omega) (vv:=.l (setRow xs kv j [vv])) ?_ λB s' p' d1 d2 d3=>?_
  ·have hml:m<(lE Q t).length:=(List.getElem?_eq_some_iff.1 hm).1
   refine⟨by omega,?_⟩
   have:=wY (ρ:=ρ++(lE Q t++([T.c (.bool true)]++(lE Q t++[T.l (setRow xs kv j [vv])])))) (p:=p+(q::P).length+1+(q::P).length+1) (by simp[hp,a1];omega) m (lE Q t)
   simp only[List.append_assoc]at this
   rw[this]
   simp[List.getD,hm]
  ·have:=wY (ρ:=ρ++(lE Q t++([T.c (.bool true)]++lE Q t))) (p:=p+(q::P).length+1+(q::P).length) (by simp[hp,a1];omega) 0 ([T.l (setRow xs kv j [vv])]++lE Q t)
   simp only[List.append_assoc,Nat.add_zero]at this
   rw[this]
   rfl
  ·rw[List.append_assoc]at d1 d3⊢
   exact hc _ s' p' d1 d2 d3
end
set_option linter.unusedSimpArgs false
abbrev Al:=Pt->Nat->Nat->Nat->Nat->Nat->(Nat->Nat->Nat->Nat->PL)->PL
def lvP(uo:Al)(P:Pt)(cl:Lf)(s p:Nat)(cont:Nat->Nat->Nat->PL):PL:=
 .loop [cl,.k (.int .i64 0),.a s] (sT P (p+2) (p+3) λd p1=>.ins (.pr .len [.a d])<| .ins (.pr (.bin .lss) [.a (p+1),.a p1])<|
  .ite (p1+1) (uo P (p+1) (p+2) p (p1+2) 0 λs c p' q=>.ins (.pr (.bin .add) [.a (p+1),.k (.int .i64 1)])<| .go q [.a c,.a p',.a s]) (cont p (p+2) (p1+2)))
mutual
def Dn:Ty->Nat->Nat->Al
 | .i _,w,j,P,k,s,c,p,q,cont=>Gr P k w j s c p λs' p'=>.ins (.pr (.bin .add) [.a c,.k (.int .i64 1)]) (cont s' p' (p'+1) q)
 | .b,w,j,P,k,s,c,p,q,cont=>.ins (.pr (.bin .rem) [.a c,.k (.int .i64 3)])<| .ins (.pr (.bin .eql) [.a p,.k (.int .i64 0)])<|
   Gr P k w j s (p+1) (p+2) λs' p'=>.ins (.pr (.bin .add) [.a c,.k (.int .i64 1)]) (cont s' p' (p'+1) q)
 | .s,w,j,P,k,s,c,p,q,cont=>cont s c p q
 | .sl es,w,j,P,k,s,c,p,q,cont=>sT P s p λd p1=>.ins (.pr .kg [.a d,.a k])<|sT P s (p1+1) λd2 p2=>.ins (.pr (.kh w j) [.a d2,.a k])<|
   lvP (Am es es.length 0) (P++[(k,w,j)]) (.a c) s (p2+1) λc' s' p'=>cont s' c' p' (q+1)
def Am:List Ty->Nat->Nat->Al
 | [],w,j,P,k,s,c,p,q,cont=>cont s c p q
 |f::fs,w,j,P,k,s,c,p,q,cont=>Dn f w j P k s c p q λs' c' p' q'=>Am fs w (j+1) P k s' c' p' q' cont
end
def FOk(S:Nat->aB)(w:Nat)(fs:List Ty)(j:Nat)(uo:Al):Prop:=
 ∀(out:Option (List T)) (K:List aB) (P Q:Pt) (k s c p q kv n:Nat) (cont:Nat->Nat->Nat->Nat->PL) (ρ:List T) (t:T) (xs:List (List T)) (dn ts:List T),cU ρ P Q->fB Q t=some (.l xs)->ρ.length=p->s<p->ρ.getD s T.bH=t->
  k<p->ρ.getD k T.bH=.c (.int .i64 (kv:Int))->c<p->ρ.getD c T.bH=.c (.int .i64 (n:Int))->xs[kv]?=some (dn++ts)->dn.length=j->(dn++ts).length=w->iY fs ts->y_ ts<=1048576->n+fs.length+64*y_ ts<=1099511627776->
  (∀(Ks:List aB) (B:List T) (s' c' p':Nat),(ρ++B).length=p'->s'<p'->c'<p'->(ρ++B).getD c' T.bH=.c (.int .i64 ((gY fs n ts).1:Int))->(ρ++B).getD s' T.bH=df Q t (.l (xs.set kv (dn++(gY fs n ts).2)))->
   PL.den S rounds (Ks++K) (ρ++B) (cont s' c' p' (q+Ks.length))=out)->PL.den S rounds K ρ (uo P k s c p q cont)=out
theorem U8{S:Nat->aB}{R:Nat}{f:aB}{K:List aB}{ρ:List T}(xs:List Lf):∀Ks:List aB,PL.den S R (Ks++f::K) ρ (.go Ks.length xs)=f (xs.map (Lf.ev ρ))
 | []=>by simp only[List.nil_append,List.length_nil,UX]
 |g::Ks=>by simp only[List.cons_append,List.length_cons,UY];exact U8 xs Ks
theorem ad6{S:Nat->aB}{out:Option (List T)}{K:List aB}{es:List Ty}{uo:Al}(hF:FOk S es.length es 0 uo)(hl:es.length<=64)(hm:qZ es=true){P Q:Pt}{cl:Lf}{s p n:Nat}{cont:Nat->Nat->Nat->PL}{ρ:List T}{t:T}{xs:List (List T)}
  (hP:cU ρ P Q)(hg:fB Q t=some (.l xs))(hp:ρ.length=p)(hs:s<p)(ht:ρ.getD s T.bH=t)(hc:Lf.ev ρ cl=.c (.int .i64 (n:Int)))(hw:∀r∈xs,iY es r)(hb:nF xs<=1048576)(hn:n+64*nF xs<=1099511627776)
  (hk:∀f:aB,PL.den S rounds (f::K) (ρ++([T.c (.int .i64 ((gG (gY es) n xs).1:Int)),T.c (.int .i64 (xs.length:Int)),df Q t (.l (gG (gY es) n xs).2)]++(lE Q (df Q t (.l (gG (gY es) n xs).2))++[T.c (.int .i64 (xs.length:Int)),T.c (.bool false)])))
   (cont p (p+2) (p+3+P.length+2))=out):PL.den S rounds K ρ (lvP uo P cl s p cont)=out:=by
 have hlen:=UB xs
 have jf:∀i,nF (xs.take i)<=nF xs:=by
  intro i
  have:=adN (xs.take i) (xs.drop i)
  rw[List.take_append_drop]at this
  omega
 have Dp:=λi=>U0 (g:=gY es) (xs:=xs.take i) (λm r hr=>by
  have:=Gp es m r hm (hw r (List.mem_of_mem_take hr))
  omega) n
 unfold lvP
 rw[adR]
 simp only[List.map_cons,List.map_nil,hc,xT,lN,ht]
 have j9:∀i,(gG (gY es) n (xs.take i)).2.length=(xs.take i).length:=λi=>Gn _ _
 refine adY (n:=xs.length) (Inv:=λi x=>x=[T.c (.int .i64 ((gG (gY es) n (xs.take i)).1:Int)),T.c (.int .i64 (i:Int)),df Q t (.l ((gG (gY es) n (xs.take i)).2++xs.drop i))]) (Q:=λo=>o=out) ?_ ?_ ?_ (by unfold rounds;omega)
 ·rintro i x hi rfl self
  left
  refine⟨_,rfl,?_⟩
  obtain⟨r,hr⟩:=adV hi
  have hwr:=hw r (adU hr)
  have hbr:=UC hr
  have lR:=jf (i+1)
  have qS:=UD hr
  have hm1:=Dp i
  have EI:=ad0 (g:=gY es) hr n
  have R8:=j9 i
  have hil:(xs.take i).length=i:=by simp;omega
  have bE:(i:Int)<xs.length:=by omega
  have e3:IntKind.i64.wrap ((i:Int)+1)=((i+1:Nat):Int):=by rw[Aj (by omega) (by omega)];simp
  generalize hN:(gG (gY es) n (xs.take i)).1=N at*
  generalize hA:(gG (gY es) n (xs.take i)).2=A at*
  have hdr:xs.drop i=r::xs.drop (i+1):=by
   rw[List.drop_eq_getElem_cons hi]
   rw[List.getElem?_eq_getElem hi]at hr
   cases hr
   rfl
  have hgi:=Dm (v:=A++xs.drop i) hg
  have Uh:(A++xs.drop i)[i]?=some r:=by
   rw[List.getElem?_append_right (by omega),hdr,R8,hil,Nat.sub_self]
   rfl
  have hll:(A++xs.drop i).length=xs.length:=by simp;omega
  refine v8 (cU.ext _ hP) hgi (s:=p+2) (p:=p+3) (by simp[hp]) (by omega) (by rw[wY hp];rfl) λd a1 a2 a3=>?_
  have v_:(ρ++[T.c (.int .i64 (N:Int)),T.c (.int .i64 (i:Int)),df Q t (.l (A++xs.drop i))]++lE Q (df Q t (.l (A++xs.drop i)))).length=p+3+P.length:=by simp[hp,a1];omega
  have x1:∀B,(ρ++[T.c (.int .i64 (N:Int)),T.c (.int .i64 (i:Int)),df Q t (.l (A++xs.drop i))]++lE Q (df Q t (.l (A++xs.drop i)))++B).getD (p+1) T.bH=.c (.int .i64 (i:Int)):=λB=>by
   rw[List.append_assoc,List.append_assoc,wY hp];rfl
  have x0:∀B,(ρ++[T.c (.int .i64 (N:Int)),T.c (.int .i64 (i:Int)),df Q t (.l (A++xs.drop i))]++lE Q (df Q t (.l (A++xs.drop i)))++B).getD p T.bH=.c (.int .i64 (N:Int)):=λB=>by
   have:=wY hp 0 ([T.c (.int .i64 (N:Int)),T.c (.int .i64 (i:Int)),df Q t (.l (A++xs.drop i))]++(lE Q (df Q t (.l (A++xs.drop i)))++B))
   rw[List.append_assoc,List.append_assoc];exact this
  have x2:∀B,(ρ++[T.c (.int .i64 (N:Int)),T.c (.int .i64 (i:Int)),df Q t (.l (A++xs.drop i))]++lE Q (df Q t (.l (A++xs.drop i)))++B).getD (p+2) T.bH=df Q t (.l (A++xs.drop i)):=λB=>by
   rw[List.append_assoc,List.append_assoc,wY hp];rfl
  have hPx:∀B,cU (ρ++[T.c (.int .i64 (N:Int)),T.c (.int .i64 (i:Int)),df Q t (.l (A++xs.drop i))]++lE Q (df Q t (.l (A++xs.drop i)))++B) P Q:=λB=>by
   rw[List.append_assoc,List.append_assoc];exact cU.ext _ hP
  generalize oN:ρ++[T.c (.int .i64 (N:Int)),T.c (.int .i64 (i:Int)),df Q t (.l (A++xs.drop i))]++lE Q (df Q t (.l (A++xs.drop i)))=ρ1 at*
  have y1:=x1 [T.c (.int .i64 (xs.length:Int))]
  have y2:(ρ1++[T.c (.int .i64 (xs.length:Int))]).getD (p+3+P.length) T.bH=.c (.int .i64 (xs.length:Int)):=by rw[<-v_];exact vZ
  have y3:(ρ1++[T.c (.int .i64 (xs.length:Int)),T.c (.bool true)]).getD (p+3+P.length+1) T.bH=.c (.bool true):=by rw[wY v_];rfl
  simp only[xS,Gk,List.map_cons,List.map_nil,lN,a3,Gg,hll,fU,y1,y2,Gi,bE,decide_true,List.append_assoc,List.cons_append,List.nil_append,y3,Lr,cond_true]
  refine hF _ (self::K) P Q (p+1) (p+2) p (p+3+P.length+2) 0 i N _ _ _ (A++xs.drop i) [] r (hPx _) hgi (by simp only[List.length_append,v_,List.length_cons,List.length_nil]) (by omega) (x2 _) (by omega) (x1 _) (by omega) (x0 _) Uh rfl hwr.length hwr (by omega) (by omega) ?_
  intro Ks B s' c' p' q1 q2 q3 q4 q5
  have z1:(ρ1++([T.c (.int .i64 (xs.length:Int)),T.c (.bool true)]++B)).getD (p+1) T.bH=.c (.int .i64 (i:Int)):=x1 _
  rw[List.append_assoc]at q1 q4 q5⊢
  have z2:((ρ1++([T.c (.int .i64 (xs.length:Int)),T.c (.bool true)]++B))++[T.c (.int .i64 ((i+1:Nat):Int))]).getD p' T.bH=.c (.int .i64 ((i+1:Nat):Int)):=by rw[<-q1];exact vZ
  have z3:=rv q4 (by rw[q1];exact q3) [T.c (.int .i64 ((i+1:Nat):Int))]
  have z4:=rv q5 (by rw[q1];exact q2) [T.c (.int .i64 ((i+1:Nat):Int))]
  rw[xS]
  simp only[List.map_cons,List.map_nil,lN,xT,z1,vY,e3,fU,Nat.zero_add]
  rw[U8]
  simp only[List.map_cons,List.map_nil,lN,z2,z3,z4]
  rw[EI]
  congr 4
  rw[LA hg]
  congr 2
  rw[hdr,List.set_append_right _ _ (by omega),R8,hil,Nat.sub_self]
  simp
 ·rintro x rfl self
  rw[show xs.take xs.length=xs from List.take_length,show xs.drop xs.length=[] from List.drop_length,List.append_nil]
  have hgi:=Dm (v:=(gG (gY es) n xs).2) hg
  refine v8 (cU.ext _ hP) hgi (s:=p+2) (p:=p+3) (by simp[hp]) (by omega) (by rw[wY hp];rfl) λd a1 a2 a3=>?_
  have v_:(ρ++[T.c (.int .i64 ((gG (gY es) n xs).1:Int)),T.c (.int .i64 (xs.length:Int)),df Q t (.l (gG (gY es) n xs).2)]++lE Q (df Q t (.l (gG (gY es) n xs).2))).length=p+3+P.length:=by simp[hp,a1];omega
  have x1:∀B,(ρ++[T.c (.int .i64 ((gG (gY es) n xs).1:Int)),T.c (.int .i64 (xs.length:Int)),df Q t (.l (gG (gY es) n xs).2)]++lE Q (df Q t (.l (gG (gY es) n xs).2))++B).getD (p+1) T.bH=.c (.int .i64 (xs.length:Int)):=λB=>by
   rw[List.append_assoc,List.append_assoc,wY hp];rfl
  have x0:∀B,(ρ++([T.c (.int .i64 ((gG (gY es) n xs).1:Int)),T.c (.int .i64 (xs.length:Int)),df Q t (.l (gG (gY es) n xs).2)]++(lE Q (df Q t (.l (gG (gY es) n xs).2))++B))).getD p T.bH=.c (.int .i64 ((gG (gY es) n xs).1:Int)):=λB=>wY hp 0 _
  have x2:∀B,(ρ++([T.c (.int .i64 ((gG (gY es) n xs).1:Int)),T.c (.int .i64 (xs.length:Int)),df Q t (.l (gG (gY es) n xs).2)]++(lE Q (df Q t (.l (gG (gY es) n xs).2))++B))).getD (p+2) T.bH=df Q t (.l (gG (gY es) n xs).2):=λB=>by
   rw[wY hp];rfl
  have y1:=x1 [T.c (.int .i64 (xs.length:Int))]
  have y2:(ρ++[T.c (.int .i64 ((gG (gY es) n xs).1:Int)),T.c (.int .i64 (xs.length:Int)),df Q t (.l (gG (gY es) n xs).2)]++lE Q (df Q t (.l (gG (gY es) n xs).2))++[T.c (.int .i64 (xs.length:Int))]).getD (p+3+P.length) T.bH=.c (.int .i64 (xs.length:Int)):=by rw[<-v_];exact vZ
  have y3:(ρ++[T.c (.int .i64 ((gG (gY es) n xs).1:Int)),T.c (.int .i64 (xs.length:Int)),df Q t (.l (gG (gY es) n xs).2)]++lE Q (df Q t (.l (gG (gY es) n xs).2))++[T.c (.int .i64 (xs.length:Int)),T.c (.bool false)]).getD (p+3+P.length+1) T.bH=.c (.bool false):=by rw[wY v_];rfl
  rw[xS]
  simp only[List.map_cons,List.map_nil,lN,a3,Gg,Gn,fU]
  rw[xS]
  simp only[List.map_cons,List.map_nil,lN,y1,y2,Gi,Int.lt_irrefl,decide_false,fU]
  rw[Gk,List.append_assoc _ [_] [_]]
  simp only[List.cons_append,List.nil_append]at y3⊢
  rw[y3]
  simp only[Lr,cond_false]
  have:=hk self
  simpa using this
 ·rw[List.take_zero,List.drop_zero]
  simp only[gG,List.nil_append,LB hg]
  rfl
theorem ad8{S:Nat->aB}{out:Option (List T)}{K:List aB}{es:List Ty}{uo:Al}(hF:FOk S es.length es 0 uo)(hl:es.length<=64)(hm:qZ es=true){P Q:Pt}{cl:Lf}{s p n:Nat}{cont:Nat->Nat->Nat->PL}{ρ:List T}{t:T}{xs:List (List T)}
  (hP:cU ρ P Q)(hg:fB Q t=some (.l xs))(hp:ρ.length=p)(hs:s<p)(ht:ρ.getD s T.bH=t)(hc:Lf.ev ρ cl=.c (.int .i64 (n:Int)))(hw:∀r∈xs,iY es r)(hb:nF xs<=1048576)(hn:n+64*nF xs<=1099511627776)
  (hk:∀(f:aB) (B:List T) (c' s' p':Nat),(ρ++B).length=p'->c'<p'->s'<p'->(ρ++B).getD c' T.bH=.c (.int .i64 ((gG (gY es) n xs).1:Int))->(ρ++B).getD s' T.bH=df Q t (.l (gG (gY es) n xs).2)->
   PL.den S rounds (f::K) (ρ++B) (cont c' s' p')=out):PL.den S rounds K ρ (lvP uo P cl s p cont)=out:=by
 refine ad6 hF hl hm hP hg hp hs ht hc hw hb hn λf=>?_
 have hPQ:∀{P Q:Pt} {t d:T},cU ρ P Q->fB Q t=some d->(lE Q t).length=P.length:=by
  intro P
  induction P with
  |nil=>intro Q t d hP hg;cases Q with
   |nil=>rfl
   |cons _ _=>exact hP.elim
  |cons q P ih=>
   intro Q t d hP hg
   obtain⟨a,w,j⟩:=q
   cases Q with
   |nil=>exact hP.elim
   |cons q Q=>
    obtain⟨i,w',j'⟩:=q
    obtain⟨_,_,_,_,h5⟩:=hP
    obtain⟨xs,r,ys,rfl,g1,g2,g3,g4⟩:=Lx hg
    rw[LC g1 g2 g3,List.length_cons,List.length_cons,ih h5 g4]
 have uX:=hPQ hP (Dm (v:=(gG (gY es) n xs).2) hg)
 refine hk f _ _ _ _ (by simp[hp,uX];omega) (by omega) (by omega) ?_ ?_
 ·exact wY hp 0 _
 ·rw[wY hp];rfl
set_option linter.unusedSimpArgs false
def TOk(S:Nat->aB)(f:Ty):Prop:=
 ∀(w j:Nat) (out:Option (List T)) (K:List aB) (P Q:Pt) (k s c p q kv n:Nat) (cont:Nat->Nat->Nat->Nat->PL) (ρ:List T) (t:T) (xs:List (List T)) (dn ts:List T) (u:T),cU ρ P Q->fB Q t=some (.l xs)->ρ.length=p->s<p->ρ.getD s T.bH=t->
  k<p->ρ.getD k T.bH=.c (.int .i64 (kv:Int))->c<p->ρ.getD c T.bH=.c (.int .i64 (n:Int))->xs[kv]?=some (dn++u::ts)->dn.length=j->(dn++u::ts).length=w->WT f u->bulk u<=1048576->n+1+64*bulk u<=1099511627776->
  (∀(Ks:List aB) (B:List T) (s' c' p':Nat),(ρ++B).length=p'->s'<p'->c'<p'->(ρ++B).getD c' T.bH=.c (.int .i64 ((rX f n u).1:Int))->(ρ++B).getD s' T.bH=df Q t (.l (xs.set kv (dn++(rX f n u).2::ts)))->
   PL.den S rounds (Ks++K) (ρ++B) (cont s' c' p' (q+Ks.length))=out)->PL.den S rounds K ρ (Dn f w j P k s c p q cont)=out
theorem ad9{S:Nat->aB}:TOk S (.i .i64):=by
 intro w j out K P Q k s c p q kv n cont ρ t xs dn ts u hP hg hp hs ht hk Ab hc hn hr hj hw hu hb An jL
 rw[Ls]at jL
 have e3:IntKind.i64.wrap ((n:Int)+1)=((n+1:Nat):Int):=by rw[Aj (by omega) (by omega)];simp
 simp only[Dn]
 refine U7 hP hg hp hs ht hk Ab hc hn rfl hr hw (by simp at hw;omega) λB s' p' q1 q2 q3=>?_
 have x:=rv hn (by omega) B
 rw[xS]
 simp only[List.map_cons,List.map_nil,lN,xT,x,vY,e3,fU,List.append_assoc]
 rw[Gq hr hj]at q3
 refine jL [] _ s' p' (p'+1) (by simp at q1⊢;omega) (by omega) (by omega) ?_ ?_
 ·rw[<-List.append_assoc,<-q1];exact vZ
 ·rw[<-List.append_assoc];exact rv q3 (by rw[q1];exact q2) _
theorem ad_{S:Nat->aB}:TOk S .b:=by
 intro w j out K P Q k s c p q kv n cont ρ t xs dn ts u hP hg hp hs ht hk Ab hc hn hr hj hw hu hb An jL
 rw[Lt]at jL
 have e3:IntKind.i64.wrap ((n:Int)+1)=((n+1:Nat):Int):=by rw[Aj (by omega) (by omega)];simp
 have ad':(((n%3:Nat):Int)==(0:Int))=(n%3==0):=ad3 (n%3) 0
 have y1:(ρ++[T.c (.int .i64 ((n%3:Nat):Int))]).getD p T.bH=.c (.int .i64 ((n%3:Nat):Int)):=by rw[<-hp];exact vZ
 simp only[Dn]
 rw[xS]
 simp only[List.map_cons,List.map_nil,lN,xT,hn,ad2,fU]
 rw[xS]
 simp only[List.map_cons,List.map_nil,lN,xT,y1,Lp,ad',fU,List.append_assoc,List.cons_append,List.nil_append]
 have y2:(ρ++[T.c (.int .i64 ((n%3:Nat):Int)),T.c (.bool (n%3==0))]).getD (p+1) T.bH=T.c (.bool (n%3==0)):=by rw[wY hp];rfl
 refine U7 (cU.ext _ hP) hg (by simp[hp]) (by omega) (rv ht (by omega) _) (by omega) (rv Ab (by omega) _) (by omega) y2 rfl hr hw (by simp at hw;omega) λB s' p' q1 q2 q3=>?_
 simp only[List.append_assoc]at q1 q3⊢
 have x:=rv hn (by omega) ([T.c (.int .i64 ((n%3:Nat):Int)),T.c (.bool (n%3==0))]++B)
 rw[xS]
 simp only[List.map_cons,List.map_nil,lN,xT,x,vY,e3,fU]
 rw[Gq hr hj]at q3
 rw[List.append_assoc]
 refine jL [] _ s' p' (p'+1) (by simp at q1⊢;omega) (by omega) (by omega) ?_ ?_
 ·rw[<-List.append_assoc,<-q1];exact vZ
 ·rw[<-List.append_assoc];exact rv q3 (by rw[q1];exact q2) _
theorem aea{S:Nat->aB}{es:List Ty}(hF:FOk S es.length es 0 (Am es es.length 0))(hl:es.length<=64)(hm:qZ es=true):TOk S (.sl es):=by
 intro w j out K P Q k s c p q kv n cont ρ t xs dn ts u hP hg hp hs ht hk Ab hc hn hr hj hw hu hb An jL
 unfold WT at hu
 obtain⟨ys,rfl,_,hy⟩:=hu
 rw[Lu]at jL
 rw[Dj]at hb An
 have IR:(dn++T.l ys::ts)[j]?=some (.l ys):=by subst hj;simp
 have Sd:fB (Q++[(kv,w,j)]) t=some (.l ys):=by rw[U3,hg];exact Ly hr hw IR rfl
 simp only[Dn]
 refine v8 hP hg hp hs ht λe a1 a2 a3=>?_
 rw[xS]
 simp only[List.map_cons,List.map_nil,lN,a3,rv Ab (by omega) _,UU hr,fU,List.append_assoc]
 refine v8 (cU.ext _ hP) hg (by simp[hp,a1];omega) (by omega) (rv ht (by omega) _) λe2 b1 b2 b3=>?_
 simp only[List.append_assoc]at b3⊢
 rw[xS]
 simp only[List.map_cons,List.map_nil,lN,b3,rv Ab (by omega) _,U5 hr hw IR,fU,List.append_assoc]
 refine ad8 hF hl hm (cU.snoc (by simp;omega) (rv Ab (by omega) _) (cU.ext _ hP)) Sd (by simp[hp,a1];omega) (by omega) (rv ht (by omega) _) (n:=n) (by rw[lN];exact rv hn (by omega) _) hy hb (by omega) λf B c' s' p' q1 q2 q3 q4 q5=>?_
 rw[List.append_assoc]at q1 q4 q5⊢
 refine jL [f] _ s' c' p' q1 q3 q2 q4 ?_
 rw[q5,U4 hg]
 congr 1
 have e0:((xs[kv]?).bind (·[j]?)).getD T.bH=.l ys:=by rw[hr];simp[IR]
 simp only[df,e0]
 rw[Gq hr hj]
mutual
theorem aeb{S:Nat->aB}:∀(f:Ty),Bz f=true->TOk S f
 | .i k,h=>by
  cases k with
  |i64=>exact ad9
  |_=>simp[Bz]at h
 | .b,h=>ad_
 | .s,h=>by simp[Bz]at h
 | .sl es,h=>aea (U9 es 0 (Dl h).2 es.length) (Dl h).1 (Dl h).2
theorem U9{S:Nat->aB}:∀(fs:List Ty) (j:Nat),qZ fs=true->∀w,FOk S w fs j (Am fs w j)
 | [],j,h,w=>by
  intro out K P Q k s c p q kv n cont ρ t xs dn ts hP hg hp hs ht hk Ab hc hn hr hj hw hu hb An jL
  unfold iY at hu
  subst hu
  simp only[Am]
  have:=jL [] [] s c p (by simpa using hp) hs hc (by simpa[Gl]using hn) (by
   rw[Gl,U2 hr,LB hg];simpa using ht)
  simpa using this
 |f::fs,j,h,w=>by
  intro out K P Q k s c p q kv n cont ρ t xs dn ts hP hg hp hs ht hk Ab hc hn hr hj hw hu hb An jL
  unfold iY at hu
  obtain⟨u,ru,rfl,h1,h2⟩:=hu
  have hm:=Lv h
  have hle:=Lw f n u hm.1 h1
  simp only[Dk,List.length_cons]at hb An
  simp only[Am]
  refine aeb f hm.1 w j out K P Q k s c p q kv n _ ρ t xs dn ru u hP hg hp hs ht hk Ab hc hn hr hj hw h1 (by omega) (by omega) λKs B s' c' p' q1 q2 q3 q4 q5=>?_
  have TZ:kv<xs.length:=(List.getElem?_eq_some_iff.1 hr).1
  refine U9 fs (j+1) hm.2 w out (Ks++K) P Q k s' c' p' (q+Ks.length) kv (rX f n u).1 cont (ρ++B) _ (xs.set kv (dn++(rX f n u).2::ru)) (dn++[(rX f n u).2]) ru (cU.ext _ hP) (Dm hg) q1 q2 q5 (by simp at q1;omega) (rv Ab (by omega) _) q3 q4
   (by simp[TZ]) (by simp[hj]) (by simp at hw⊢;omega) h2 (by omega) (by omega) λKs2 B2 s2 c2 p2 r1 r2 r3 r4 r5=>?_
  rw[List.append_assoc]at r1 r4 r5⊢
  have:=jL (Ks2++Ks) (B++B2) s2 c2 p2 r1 r2 r3 (by rw[r4,Gm]) (by
   rw[r5,LA hg,List.set_set,Gm,List.append_assoc]
   rfl)
  rw[List.append_assoc,List.length_append]at this
  rw[show q+Ks.length+Ks2.length=q+(Ks2.length+Ks.length) by omega]
  exact this
end
set_option linter.defProp false in
def pb:=(aE (aE (aE (aE (aE (@adP) (@xS)) (aE (@adQ) (aE (@Gk) (@UX)))) (aE (aE (@UY) (aE (@List.map_cons.{0,0}) (@List.map_nil.{0,0}))) (aE (@xT) (aE (@adS) (@lN))))) (aE (aE (aE (@List.cons_append.{0}) (@List.nil_append.{0})) (aE (@List.append_assoc.{0}) (aE (@List.getD_cons_zero.{0}) (@List.getD_cons_succ.{0})))) (aE (aE (@fU) (aE (@Lr) (@cond_true.{1}))) (aE (@cond_false.{1}) (aE (@decide_true) (@decide_false)))))) (aE (aE (aE (aE (@Gg) (@UG)) (aE (@UH) (aE (@UI) (@UJ)))) (aE (aE (@Gi) (aE (@UK) (@UL))) (aE (@UM) (aE (@Lp) (@UN))))) (aE (aE (aE (@vY) (@UO)) (aE (@UP) (aE (@UQ) (@UR)))) (aE (aE (@US) (aE (@UT) (@Bool.not_true))) (aE (@Bool.not_false) (aE (@bne_self_eq_false.{0}) (@beq_self_eq_true.{0})))))))
set_option linter.unusedSimpArgs false
theorem aed{sc:Bool}{w:Nat}{xs ys:List (List T)}(h:xs.length+ys.length<wJ)(hs:(!sc||ys.all (·.all dX))=true)(h1:okW w xs=true)(h2:okW w ys=true):Prim.ev (.app sc w) [.l xs,.l ys]=some (.l (xs++ys)):=by
 simp only[Prim.ev,h,hs,h1,h2,if_true]
theorem q0{w:Nat}{ms:List Bool}{ts:List T}(hw:0<w)(hm:sM ms ts=true)(hl:ts.length=w):Prim.ev (.lit w ms) ts=some (.l [ts]):=by
 have h1:ts.length/w=1:=by rw[hl];exact Nat.div_self hw
 have h2:ts.take w=ts:=by rw[<-hl];exact List.take_length
 simp only[Prim.ev,hw,hm,h1,if_true,pF,h2]
set_option linter.unusedSimpArgs false
def Ao:List (Nat×pG)->Nat->Option pG
 | [],_=>none
 |e::l,g=>bif Nat.beq e.1 g then some e.2 else Ao l g
theorem U_:∀{l:List (Nat×pG)} {g:Nat} {sg:pG},Ao l g=some sg->(g,sg)∈l
 | [],_,_,h=>by cases h
 |e::l,g,sg,h=>by
  unfold Ao at h
  cases hb:Nat.beq e.1 g with
  |true=>
   rw[hb]at h
   simp only[cond_true,bF]at h
   have:=dU hb
   subst this;subst h
   exact .head _
  |false=>
   rw[hb]at h
   exact .tail _ (U_ h)
def Cx.on(cx:Cx)(l:List (Nat×pG)):Cx:={cx with sg:=Ao l}
def LD(P:Program)(sg:pG)(g:Nat)(F:aB):Prop:=kq P g∧FU P sg g F
structure LF (P:Program) (cx:Cx):Prop where
 dW:ew P cx
 dL:∀g fn,cx.fn g=some fn->P.funcs[g]?=some fn∧kq P g
 mx:P.follows .mixedOrders=true
def U':List ((Nat×Nat×Nat)×Js)->Nat->Nat->Nat->Option Js
 | [],_,_,_=>none
 |e::l,f,k,j=>bif Nat.beq e.1.1 f&&(Nat.beq e.1.2.1 k&&Nat.beq e.1.2.2 j)then some e.2 else U' l f k j
def Va:List (Nat×Nat×Nat)->Nat->Nat->Nat->Bool
 | [],_,_,_=>false
 |e::l,f,k,j=>(Nat.beq e.1 f&&(Nat.beq e.2.1 k&&Nat.beq e.2.2 j))||Va l f k j
def Vb:List Nat->Nat->Bool
 | [],_=>false
 |e::l,f=>Nat.beq e f||Vb l f
theorem LD.mk{P:Program}{cx:Cx}(Z:LF P cx){R n g:Nat}{fn:Func}{sg:pG}{pl:PL}{l:List (Nat×pG)}{S:Nat->aB}(jH:kq P g)(hf:P.funcs[g]?=some fn)
  (hl:∀x∈l,LD P x.2 x.1 (S x.1))(h:Ft (cx.on l) n g fn sg=some pl):LD P sg g λts=>pl.den S R [] ts:=
 ⟨jH,Uu (cx:=cx.on l) ⟨⟨Z.dW.ty⟩,λg' sg' h'=>hl _ (U_ h'),Z.dL⟩ Z.mx hf h⟩
theorem kq.mk{P:Program}{g:Nat}{fn:Func}(h:P.funcs[g]?=some fn)(h1:(fn.name== "runtime.NumGoroutine")=false)(h2:fn.body.isNone=false):kq P g:=⟨fn,h,h1,h2⟩
structure cJ (P:Program) where
 g:Nat
 sg:pG
 F:aB
 ok:LD P sg g F
def ksg{P:Program}(l:List (cJ P)):List (Nat×pG):=l.map λk=>(k.g,k.sg)
def kS{P:Program}(l:List (cJ P)):List (Nat×aB):=l.map λk=>(k.g,k.F)
theorem Vc{P:Program}:∀{ks:List (cJ P)} {g:Nat} {sg:pG},Ao (ksg ks) g=some sg->LD P sg g (pick (kS ks) g)
 | [],g,sg,h=>by cases h
 |k::ks,g,sg,h=>by
  simp only[ksg,List.map_cons,Ao]at h
  simp only[kS,List.map_cons,pick]
  cases hb:Nat.beq k.g g with
  |true=>
   rw[hb,cond_true]at h
   cases h
   rw[cond_true,<-dU hb]
   exact k.ok
  |false=>
   rw[hb,cond_false]at h
   rw[cond_false]
   exact Vc h
def cJ.bY{P:Program}{cx:Cx}(Z:LF P cx)(g:Nat){fn:Func}(sg:pG)(pl:PL)(F:aB)(ks:List (cJ P))(hf:P.funcs[g]?=some fn)(h:Ft (cx.on (ksg ks)) 8 g fn sg=some pl)
  (h1:((fn.name== "runtime.NumGoroutine")||fn.body.isNone)=false)(hF:F=Fs pl (kS ks)):cJ P:=
 ⟨g,sg,F,⟨fn,hf,(Bool.or_eq_false_iff.1 h1).1,(Bool.or_eq_false_iff.1 h1).2⟩,by
  rw[hF]
  exact Uu (cx:=cx.on (ksg ks)) ⟨⟨Z.dW.ty⟩,λg' sg' h'=>Vc h',Z.dL⟩ Z.mx hf h⟩
def aee(P:Program)(l:List (Nat×TI)):Bool:=l.all λx=>tyB P x.1 x.2
def Dq:List (Nat×TI)->Nat->Option TI
 | [],_=>none
 |e::l,g=>bif Nat.beq e.1 g then some e.2 else Dq l g
theorem Vd:∀{l:List (Nat×TI)} {g:Nat} {sg:TI},Dq l g=some sg->(g,sg)∈l
 | [],_,_,h=>by cases h
 |e::l,g,sg,h=>by
  unfold Dq at h
  cases hb:Nat.beq e.1 g with
  |true=>
   rw[hb]at h
   simp only[cond_true,bF]at h
   have:=dU hb
   subst this;subst h
   exact .head _
  |false=>
   rw[hb]at h
   exact .tail _ (Vd h)
theorem aef{P:Program}{cx:Cx}{l:List (Nat×TI)}(h:aee P l=true)(he:cx.ty=Dq l):ew P cx:=by
 refine⟨λt ti ht=>?_⟩
 rw[he]at ht
 exact aa7 (List.all_eq_true.1 h _ (Vd ht))
def Gs:List (Nat×Func)->Nat->Option Func
 | [],_=>none
 |e::l,g=>bif Nat.beq e.1 g then some e.2 else Gs l g
theorem aeg{P:Program}{cx:Cx}{l:List (Nat×Func)}(h:∀x∈l,P.funcs[x.1]?=some x.2∧kq P x.1)(he:cx.fn=Gs l):∀g fn,cx.fn g=some fn->P.funcs[g]?=some fn∧kq P g:=by
 intro g fn hg
 rw[he]at hg
 clear he
 induction l with
 |nil=>cases hg
 |cons e l ih=>
  unfold Gs at hg
  cases hb:Nat.beq e.1 g with
  |true=>
   rw[hb]at hg
   simp only[cond_true,bF]at hg
   have:=dU hb
   subst this;subst hg
   exact h _ (.head _)
  |false=>
   rw[hb]at hg
   exact ih (λx hx=>h x (.tail _ hx)) hg
open Go.ChangeShapes Go.WideShapes Go.ChangeAt Go.RowKit
section
variable {P:Program}
def Dr(P:Program)(r:TypeId->Option (List Ty)):Nat->List Field->Option (List Ty)
 |_,[]=>some []
 |o,f::fs=>bif Nat.beq f.offset o then(r f.type).bind λa=>bif Nat.beq (P.cellsOf f.type) a.length then(Dr P r (o+a.length) fs).bind λb=>some (a++b)else none else none
def Ap(P:Program):Nat->TypeId->Option (List Ty)
 |0,_=>none
 |n+1,t=>
  match P.underlying t with
  |some (.int k)=>some [.i k]
  |some .bool=>some [.b]
  |some .string=>some [.s]
  |some (.slice e)=>(Ap P n e).bind λfs=>bif fs.isEmpty then none else some [.sl fs]
  |some (.struct fs)=>(Dr P (Ap P n) 0 fs.toList).bind λts=>bif Nat.beq ts.length (P.cellsOf t)then some ts else none
  |_=>none
variable {H:Type} {enc:TypeId×Value->H} {w:World} {base:Nat} {spare:Nat->Bool} {held:Bool} {ω:Nat->Option Lb}
theorem eB.append{ω:Nat->Option Lb}:∀{ts ru:List T} {vs vT:List Value},eB ω w ts vs->eB ω w ru vT->eB ω w (ts++ru) (vs++vT)
 | [],ru,[],vT,_,h'=>h'
 |t::ts,ru,v::vs,vT,h,h'=>⟨h.1,eB.append h.2 h'⟩
 | [],_,_::_,_,h,_=>h.elim
 |_::_,_,[],_,h,_=>h.elim
theorem Ve{r:TypeId->Option (List Ty)}{cs:List Value}:∀{fl:List Field} {o:Nat} {ys:List Ty},Dr P r o fl=some ys->
  (∀f∈fl,∀a,r f.type=some a->∃ts,eB ω w ts ((cs.drop f.offset).take (P.cellsOf f.type))∧iY a ts)->∃ts,eB ω w ts ((cs.drop o).take ys.length)∧iY ys ts
 | [],o,ys,h,_=>by
  simp only[Dr,bF]at h
  subst h
  exact⟨[],by simp[eB],rfl⟩
 |f::fl,o,ys,h,hr=>by
  unfold Dr at h
  cases h1:Nat.beq f.offset o with
  |false=>simp[h1]at h
  |true=>
   simp only[h1,cond_true,cN]at h
   obtain⟨a,ha,h⟩:=h
   cases h2:Nat.beq (P.cellsOf f.type) a.length with
   |false=>simp[h2]at h
   |true=>
    simp only[h2,cond_true,cN,bF]at h
    obtain⟨b,hb,rfl⟩:=h
    have e1:=dU h1
    have e2:=dU h2
    obtain⟨t1,g1,g2⟩:=hr f (.head _) a ha
    obtain⟨t2,g3,g4⟩:=Ve hb λf hf=>hr f (.tail _ hf)
    refine⟨t1++t2,?_,g2.append g4⟩
    rw[e1,e2]at g1
    rw[List.length_append,List.take_add,List.drop_drop]
    exact g1.append g3
theorem aeh:∀(n m:Nat) {t:TypeId} {cs:List Value} {x:DataW H×List MemPlace} {fs:List Ty},DataW.trod enc P w 0 spare held n t cs=some x->Ap P m t=some fs->
  (∀b,ω b=none)->∃ts,eB ω w ts cs∧iY fs ts:=by
 intro n
 induction n with
 |zero=>intro m t cs x fs h;simp[DataW.trod]at h
 |succ n ih=>
  intro m t cs x fs h ht iA
  cases m with
  |zero=>cases ht
  |succ m=>
   unfold Ap at ht
   cases hu:P.underlying t with
   |none=>rw[hu]at ht;cases ht
   |some u=>
    rw[hu]at ht
    cases u with
    |int k=>
     simp only[bF]at ht
     subst ht
     obtain⟨a,e0,e1,wa⟩:=DataW.trod_int hu h
     subst e0 e1
     exact⟨[.c (.int k a)],⟨.c rfl,trivial⟩,_,_,rfl,⟨_,rfl,wa⟩,rfl⟩
    |bool=>
     simp only[bF]at ht
     subst ht
     obtain⟨b,rfl,_⟩:=DataW.trod_bool hu h
     exact⟨[.c (.bool b)],⟨.c rfl,trivial⟩,_,_,rfl,⟨_,rfl⟩,rfl⟩
    |string=>
     simp only[bF]at ht
     subst ht
     obtain⟨s,rfl,_,hs⟩:=DataW.trod_string hu h
     exact⟨[.c (.string s)],⟨.c rfl,trivial⟩,_,_,rfl,⟨_,rfl,hs⟩,rfl⟩
    |slice e=>
     simp only[cN]at ht
     obtain⟨gs,hg,ht⟩:=ht
     cases hz:gs.isEmpty with
     |true=>simp[hz]at ht
     |false=>
      simp only[hz,cond_false,bF]at ht
      subst ht
      rcases DataW.trod_slice hu h with⟨rfl,_⟩|⟨a,len,cap,elems,rest,n',e1,rfl,_,_,hlc,hcm,yU,bN,_⟩
      ·exact⟨[.l []],⟨.nil,trivial⟩,_,_,rfl,⟨[],rfl,Nat.zero_le _,by simp⟩,rfl⟩
      ·cases e1
       have each:∀i,i<len->∃vs ts,w.cells? 0 (a.add (i*P.cellsOf e)) (P.cellsOf e)=some vs∧eB ω w ts vs∧iY gs ts:=by
        intro i hi
        have h1:=bN i hi
        rw[<-yU]at hi
        rw[List.getElem?_eq_getElem hi,cN]at h1
        obtain⟨vs,g1,g2⟩:=h1
        obtain⟨ts,g3,g4⟩:=ih m g2 hg iA
        exact⟨vs,ts,g1,g3,g4⟩
       by_cases h0:len=0
       ·subst h0
        exact⟨[.l []],⟨.nil,trivial⟩,_,_,rfl,⟨[],rfl,Nat.zero_le _,by simp⟩,rfl⟩
       ·have hc:=λi=>λhi:i<len=>Classical.choose_spec (each i hi)
        let vf:Nat->List Value:=λi=>if hi:i<len then Classical.choose (each i hi)else []
        have hv:∀i,i<len->∃ts,w.cells? 0 (a.add (i*P.cellsOf e)) (P.cellsOf e)=some (vf i)∧eB ω w ts (vf i)∧iY gs ts:=by
         intro i hi
         have:vf i=Classical.choose (each i hi):=by simp[vf,hi]
         rw[this]
         exact hc i hi
        have ht:∃tf:Nat->List T,∀i,i<len->w.cells? 0 (a.add (i*P.cellsOf e)) (P.cellsOf e)=some (vf i)∧eB ω w (tf i) (vf i)∧iY gs (tf i):=by
         refine⟨λi=>if hi:i<len then Classical.choose (hv i hi)else [],λi hi=>?_⟩
         have:=Classical.choose_spec (hv i hi)
         simpa[hi]using this
        obtain⟨tf,EL⟩:=ht
        have sA:∀i,i<len->(vf i).length=P.cellsOf e:=λi hi=>(World.cells?_some (EL i hi).1).2.1
        have hgl:∀i,i<len->(tf i).length=gs.length:=λi hi=>(EL i hi).2.2.length
        have hwp:0<P.cellsOf e:=by
         have h1:=sA 0 (by omega)
         have h2:=hgl 0 (by omega)
         have h3:=(EL 0 (by omega)).2.1.length
         cases gs with
         |nil=>simp at hz
         |cons _ _=>simp at h2;omega
        obtain⟨b,off,spot⟩:=a
        have rP:∀i j,i<len->j<P.cellsOf e->w.cell? ((⟨b,off,spot⟩:Addr).add (i*P.cellsOf e) |>.add j)=(vf i)[j]?:=λi j hi hj=>(World.cells?_some (EL i hi).1).2.2 j hj
        have Vf:spot=none:=by
         have:=rP 0 0 (by omega) hwp
         simp only[Nat.zero_mul,Addr.add,if_true]at this
         have hl:0<(vf 0).length:=by rw[sA 0 (by omega)];exact hwp
         rw[List.getElem?_eq_getElem hl]at this
         unfold World.cell? at this
         split at this
         ·split at this
          ·cases this
          ·rename_i h;simpa using h
         ·cases this
        subst Vf
        have F8:∀i j,((⟨b,off,none⟩:Addr).add (i*P.cellsOf e) |>.add j)=⟨b,off+(i*P.cellsOf e+j),none⟩:=by
         intro i j
         have e1:∀k,(⟨b,off,none⟩:Addr).add k=⟨b,off+k,none⟩:=by
          intro k
          unfold Addr.add
          split
          ·rename_i h;subst h;rfl
          ·rfl
         have e2:∀o k,(⟨b,o,none⟩:Addr).add k=⟨b,o+k,none⟩:=by
          intro o k
          unfold Addr.add
          split
          ·rename_i h;subst h;rfl
          ·rfl
         rw[e1,e2,Nat.add_assoc]
        have bE:b<w.heap.size:=by
         have:=World.cells?_block (EL 0 (by omega)).1 hwp
         rw[Nat.zero_mul]at this
         exact this
        have ma:∀i j t,dP ((List.range len).map tf) i j=some t->i<len∧(tf i)[j]?=some t:=by
         intro i j t h
         unfold dP at h
         rw[cN]at h
         obtain⟨r,h1,h2⟩:=h
         rw[List.getElem?_map,Option.map_eq_some_iff]at h1
         obtain⟨i',h3,rfl⟩:=h1
         have hi:i<len:=by
          rcases Nat.lt_or_ge i len with h|h
          ·exact h
          ·rw[List.getElem?_eq_none (by simpa using h)]at h3;cases h3
         rw[List.getElem?_range hi]at h3
         cases h3
         exact⟨hi,h2⟩
        refine⟨[.l ((List.range len).map tf)],⟨?_,trivial⟩,_,_,rfl,⟨_,rfl,by simp;omega,?_⟩,rfl⟩
        ·have:=eP.l (ω:=ω) (w:=w) (xs:=(List.range len).map tf) (b:=b) (off:=off) (wd:=P.cellsOf e) (cap:=cap) (cv:=λi j=>((vf i)[j]?).getD default)
          (by
           intro r hr
           rw[List.mem_map]at hr
           obtain⟨i,hi,rfl⟩:=hr
           have hi:=List.mem_range.1 hi
           rw[(EL i hi).2.1.length,sA i hi])
          (by simpa using hlc) (iA b) bE
          (by
           intro i j t h
           obtain⟨hi,hj⟩:=ma i j t h
           have sR:j<(vf i).length:=by rw[<-(EL i hi).2.1.length];exact(List.getElem?_eq_some_iff.1 hj).1
           have:=rP i j hi (by rw[<-sA i hi];exact sR)
           rw[F8]at this
           rw[this,List.getElem?_eq_getElem sR]
           rfl)
          (by
           intro i j t h
           obtain⟨hi,hj⟩:=ma i j t h
           have sR:j<(vf i).length:=by rw[<-(EL i hi).2.1.length];exact(List.getElem?_eq_some_iff.1 hj).1
           refine(EL i hi).2.1.get j t _ hj ?_
           rw[List.getElem?_eq_getElem sR]
           rfl)
         simpa using this
        ·intro r hr
         rw[List.mem_map]at hr
         obtain⟨i,hi,rfl⟩:=hr
         exact(EL i (List.mem_range.1 hi)).2.2
    |struct fl=>
     simp only[cN]at ht
     obtain⟨ys,hy,ht⟩:=ht
     cases hz:Nat.beq ys.length (P.cellsOf t)with
     |false=>simp[hz]at ht
     |true=>
      simp only[hz,cond_true,bF]at ht
      subst ht
      obtain⟨xs,n',e1,_,hl,C2,bN⟩:=DataW.trod_struct hu h
      cases e1
      obtain⟨ts,h1,h2⟩:=Ve (ω:=ω) (w:=w) (cs:=cs) hy λf hf a ha=>by
       obtain⟨i,hi,hfi⟩:=List.getElem_of_mem hf
       have h1:=bN i f (by rw[<-hfi,<-Array.getElem?_toList];exact List.getElem?_eq_getElem hi)
       have aO:i<xs.length:=by rw[C2];simpa using hi
       rw[List.getElem?_eq_getElem aO]at h1
       exact ih m h1 ha iA
      refine⟨ts,?_,h2⟩
      rw[List.drop_zero,dU hz,<-hl,List.take_length]at h1
      exact h1
    |_=>cases ht
def LG(P:Program)(t:TypeId):Bool:=
 match P.underlying t with
 |some (.struct _)=>true
 |_=>false
def Gu(P:Program):List TypeId->List PS->Option (List Ty)
 | [],[]=>some []
 |t::ts,.v ag n::ps=>(Ap P 16 t).bind λfs=>bif Nat.beq fs.length n&&(LG P t==ag)then(Gu P ts ps).bind λgs=>some (fs++gs)else none
 |_,_=>none
theorem Vg{bl:Nat->Option Nat}(iA:∀b,ω b=none){r:Reach}{b0:Nat}:∀{ts:List TypeId} {vs:List Value} {ds:List (DataW H)} {pl:List MemPlace} {ps:List PS} {ys:List Ty} {i:Nat},DataW.TrodAll enc P w 0 spare held ts vs ds pl->
  (∀(j:Nat) t v,ts[j]?=some t->vs[j]?=some v->Value.okWide P w r b0 t v)->Gu P ts ps=some ys->∃us,Ac ω w bl i ps vs us∧iY ys us
 | [],[],[],pl,ps,ys,i,h,hv,hp=>by
  cases ps with
  |nil=>simp only[Gu,bF]at hp;subst hp;exact⟨[],⟨rfl,rfl⟩,rfl⟩
  |cons _ _=>simp[Gu]at hp
 |t::ts,v::vs,d::ds,pl,ps,ys,i,⟨p,q,h1,h2,e⟩,hv,hp=>by
  cases ps with
  |nil=>simp[Gu]at hp
  |cons p0 ps=>
   cases p0 with
   |x n=>simp[Gu]at hp
   |v ag n=>
    simp only[Gu,cN]at hp
    obtain⟨fs,wO,hp⟩:=hp
    cases hc:(Nat.beq fs.length n&&(LG P t==ag))with
    |false=>simp[hc]at hp
    |true=>
     simp only[hc,cond_true,cN,bF]at hp
     obtain⟨gs,Gv,rfl⟩:=hp
     simp only[bI,beq_iff_eq]at hc
     obtain⟨us,g1,g2⟩:=Vg (bl:=bl) (i:=i+1) iA h2 (λj t v hj sR=>hv (j+1) t v hj sR) Gv
     obtain⟨f,h1⟩:=h1
     obtain⟨t1,g3,g4⟩:=aeh f 16 h1 wO iA
     have ez:=hv 0 t v rfl rfl
     refine⟨t1++us,⟨v,vs,v.cells.toList,t1,us,rfl,rfl,by rw[g4.length];exact dU hc.1,?_,g3,g1⟩,g4.append g2⟩
     have hs:=hc.2
     unfold LG at hs
     unfold Ap at wO
     cases hu:P.underlying t with
     |none=>rw[hu]at wO;cases wO
     |some u=>
      rw[hu]at wO hs
      cases u with
      |int k=>obtain⟨a,rfl⟩:=okWide_int hu ez;subst hs;exact⟨rfl,λx h=>by cases h⟩
      |bool=>obtain⟨a,rfl⟩:=okWide_bool hu ez;subst hs;exact⟨rfl,λx h=>by cases h⟩
      |string=>obtain⟨a,rfl⟩:=okWide_string hu ez;subst hs;exact⟨rfl,λx h=>by cases h⟩
      |slice e=>obtain⟨a,l,c,rfl⟩:=okWide_slice hu ez;subst hs;exact⟨rfl,λx h=>by cases h⟩
      |struct fl=>
       obtain⟨cs,rfl,_⟩:=okWide_struct hu ez
       subst hs
       simp[Value.cells]
      |_=>cases wO
 | [],_::_,_,_,_,_,_,h,_,_=>by simp[DataW.TrodAll]at h
 | [],[],_::_,_,_,_,_,h,_,_=>by simp[DataW.TrodAll]at h
 |_::_,[],_,_,_,_,_,h,_,_=>by simp[DataW.TrodAll]at h
 |_::_,_::_,[],_,_,_,_,h,_,_=>by simp[DataW.TrodAll]at h
theorem Vh(hl:laidOutB P=true){W W':World}{sp':Nat->Bool}:∀{ts:List TypeId} {vs:List Value} {ds:List (DataW H)} {ps:List MemPlace},(∀t∈ts,P.readableRec t=true∧t<P.types.size)->
  DataW.TrodAll enc P W base (λ_=>true) true ts vs ds ps->(∀p∈ps,W.sameAt W' p)->(∀p∈ps,sp' p.block=true)->DataW.TrodAll enc P W' base sp' true ts vs ds ps
 | [],[],[],_,_,h,_,_=>h
 |t::ts,_::_,_::_,_,hT,⟨p,q,h1,h2,e⟩,hs,hb=>⟨p,q,WideElems.Trod_stays hl (hT t (.head _)).1 (hT t (.head _)).2 h1 (λx hx=>hs x (by rw[e];exact List.mem_append_left _ hx)) (λx hx=>hb x (by rw[e];exact List.mem_append_left _ hx)),
   Vh hl (λt ht=>hT t (.tail _ ht)) h2 (λx hx=>hs x (by rw[e];exact List.mem_append_right _ hx)) (λx hx=>hb x (by rw[e];exact List.mem_append_right _ hx)),e⟩
 | [],_::_,_,_,_,h,_,_=>by simp[DataW.TrodAll]at h
 | [],[],_::_,_,_,h,_,_=>by simp[DataW.TrodAll]at h
 |_::_,[],_,_,_,h,_,_=>by simp[DataW.TrodAll]at h
 |_::_,_::_,[],_,_,h,_,_=>by simp[DataW.TrodAll]at h
end
theorem ael{H:Type}{enc:TypeId×Value->H}{C:Checked}{f:FuncId}{fn:Func}{s:ChangeSpec}{apart fresh handsOn again:Bool}{sg:pG}{F:aB}{ys:List Ty}{rt:TypeId}
  (wb:s.vars=[])(qM:∀ds:List (DataW H),ds.length=fn.params.size->s.fn H ds={results:=[.lit (.bool true)],args:=ds})
  (hl:laidOutB C.prog=true)(vW:(fn.params.toList.all λt=>C.prog.readableRec t&&Nat.blt t C.prog.types.size)=true)
  (hrt:fn.resultTypes=#[rt])(za:C.prog.underlying rt=some .bool)(KU:sg.rs=[(false,[.s])])
  (ez:LD C.prog sg f F)(Br:Gu C.prog fn.params.toList sg.ps=some ys)(hF:∀ts,iY ys ts->F ts=some [.c (.bool true)])
  (W:World)(b0:Nat)(args:Array Value)(ds gs:List (DataW H))(before:List MemPlace)
  (iD:∀(j:Nat) t v,fn.params[j]?=some t->args[j]?=some v->Value.okWide C.prog W .any b0 t v)
  (hW:DataW.Whole enc C.prog fn.params.toList s.vars apart W args.toList ds gs before)(Vi:Fw (λ_=>none) W):
  Calls C.prog f args W λe W'=>∃v,e=.returned v∧s.post enc C.prog fn apart fresh handsOn again W args v W':=by
 have uY:=hW
 obtain⟨p,q,hA,hV,rfl,_,_⟩:=hW
 rw[wb]at hV
 obtain⟨rfl,rfl⟩:gs=[]∧q=[]:=by
  cases gs with
  |nil=>exact⟨rfl,hV⟩
  |cons _ _=>exact hV.elim
 have hlen:ds.length=fn.params.size:=by
  have:∀{ts:List TypeId} {vs:List Value} {ds:List (DataW H)} {ps:List MemPlace},DataW.TrodAll enc C.prog W 0 (λ_=>true) true ts vs ds ps->ds.length=ts.length:=by
   intro ts
   induction ts with
   |nil=>intro vs ds ps h;cases vs<;>cases ds<;>simp_all[DataW.TrodAll]
   |cons t ts ih=>
    intro vs ds ps h
    cases vs with
    |nil=>simp[DataW.TrodAll]at h
    |cons v vs=>
     cases ds with
     |nil=>simp[DataW.TrodAll]at h
     |cons d ds=>obtain⟨_,_,_,h2,_⟩:=h;simp[ih h2]
  rw[this hA];simp
 have hT:∀t∈fn.params.toList,C.prog.readableRec t=true∧t<C.prog.types.size:=by
  intro t ht
  have:=List.all_eq_true.1 vW t ht
  simp only[bI]at this
  exact⟨this.1,Nat.blt_eq▸this.2⟩
 obtain⟨us,jH,LH⟩:=Vg (ω:=λ_=>none) (bl:=λ_=>none) (i:=0) (λ_=>rfl) hA (λj t v h1 h2=>iD j t v (by simpa using h1) (by simpa using h2)) Br
 have hc:=ez.2 W (λ_=>none) (λ_=>none) args.toList us _ (hF us LH) ⟨λb l h=>by(cases h),λi b h=>by(cases h),Vi⟩ jH
 rw[Array.toArray_toList]at hc
 refine hc.mono λe W' h=>?_
 obtain⟨v,G,is,o1,o2,rfl,hp⟩:=h
 refine⟨v,rfl,?_⟩
 have hold:∀x∈p++[],MemPlace.block x<W.heap.size:=uY.lt
 have vI:∀b,b<W.heap.size->W'.heap[b]?=W.heap[b]?:=λb hb=>(hp.free b hb rfl).2
 have vK:∀x∈p,W.sameAt W' x:=by
  intro x hx
  have hb:=hold x (by simpa using hx)
  cases x with
  |cell b o=>show W'.cell? _=W.cell? _;unfold World.cell?;rw[vI b hb]
  |map b=>exact vI b hb
 have hv:v=.bool true:=by
  have h1:=hp.ret
  rw[KU]at h1
  obtain⟨t1,t2,i1,i2,e1,e2,h1,h2⟩:=h1
  obtain⟨h1,_⟩:=h1
  have h3:=hp.outs
  rw[e1]at h3
  cases t1 with
  |nil=>simp[bZ]at h1
  |cons t t1=>
   cases i1 with
   |nil=>simp[bZ]at h1
   |cons i i1=>
    simp only[List.cons_append,List.cons.injEq]at h3
    rw[<-h3.1]at h1
    obtain⟨_,hd,_⟩:=h1
    cases hd
    rfl
 subst hv
 have fi:=λsp l8=>Vh (enc:=enc) (base:=0) (sp':=sp) hl hT hA vK l8
 have l8:=qM ds hlen
 have KA:∀(j:Nat) (t:TypeId) (r:Value),fn.resultTypes[j]?=some t->((Value.bool true).resultList fn.resultTypes.size)[j]?=some r->Value.okWide C.prog W' .any 0 t r:=by
  intro j t r hj hr
  rw[hrt]at hj hr
  have hj0:j=0:=by
   rcases Nat.eq_zero_or_pos j with h|h
   ·exact h
   ·have:(#[rt]:Array TypeId)[j]?=none:=by simp;omega
    rw[this]at hj;cases hj
  subst hj0
  cases hj;cases hr
  simp[Value.okWide,za,Cell.okWide,Cell.ok]
 have Vj:∀(b:Nat) (sp:Nat->Bool) (hd:Bool),DataW.TrodAll enc C.prog W' b sp hd fn.resultTypes.toList ((Value.bool true).resultList fn.resultTypes.size) (s.fn H (ds++[])).results []:=by
  intro b sp hd
  rw[List.append_nil,l8,hrt]
  exact⟨[],[],⟨1,by simp[DataW.trod,za,Value.cells]⟩,rfl,rfl⟩
 have Vk:∀sp:Nat->Bool,(∀x∈p,sp x.block=true)->DataW.TrodAll enc C.prog W' 0 sp true fn.params.toList args.toList (s.fn H (ds++[])).args p:=by
  intro sp hs
  rw[List.append_nil,l8]
  exact fi sp hs
 have aem:∀sp:Nat->Bool,DataW.TrodVars enc C.prog W' sp s.vars (s.fn H (ds++[])).vars []:=by
  intro sp
  rw[List.append_nil,l8,wb]
  rfl
 have hW2:=uY
 obtain⟨_,_,_,_,_,hz,hn⟩:=hW2
 refine⟨ds,[],p++[],[],p,[],uY,Vj _ _ _,Vk _ (λx hx=>decide_eq_true (hold x (by simpa using hx))),aem _,⟨hp.so.os,hp.so.output,λi hi=>?_⟩,λ_=>⟨KA,_,[],p++[],⟨[]++p,[],trodAll_append (Vk _ λ_ _=>rfl) (Vj _ _ _),by rw[wb];rfl,rfl,?_,hn⟩,?_⟩⟩
 ·rw[vI i hi]
  cases W.heap[i]? with
  |none=>trivial
  |some o=>cases o<;>simp
 ·intro b off hm
  have h1:=hz b off hm
  have hb:=hold _ hm
  unfold World.frozen? at h1⊢
  rw[show W'.heap[(⟨b,off,none⟩:Addr).block]?=W.heap[(⟨b,off,none⟩:Addr).block]? from vI b hb]
  exact h1
 ·intro x hx _
  exact hx
theorem aen{H:Type}{enc:TypeId×Value->H}{C:Checked}{os:Os}{f:FuncId}{fn:Func}{s:ChangeSpec}{conds:List PathCond}{apart fresh handsOn again:Bool}{sg:pG}{F:aB}{ys:List Ty}{rt:TypeId}
  (own:ownKnob C.prog.godebug=none)(started:os.Started)(LI:C.prog.inits.idxOf? f=none)(Tw:C.prog.funcs[f]?=some fn)
  (witness:∃(w:World) (tape:Tape) (i:Input),w.os=os∧(w.forCall tape i).Shaped C.prog∧i.vars=[]∧Input.okWide C.prog (w.forCall tape i) .any w.heap.size f i∧
   s.pre6 enc C.prog fn conds apart (w.forCall tape i).memory i.args∧({}:Assume).holds C.prog (lone (Frame.enter C.prog f i.args .normal) [] (w.forCall tape i)))
  (wb:s.vars=[])(qM:∀ds:List (DataW H),ds.length=fn.params.size->s.fn H ds={results:=[.lit (.bool true)],args:=ds})
  (hl:laidOutB C.prog=true)(vW:(fn.params.toList.all λt=>C.prog.readableRec t&&Nat.blt t C.prog.types.size)=true)
  (hrt:fn.resultTypes=#[rt])(za:C.prog.underlying rt=some .bool)(KU:sg.rs=[(false,[.s])])
  (ez:LD C.prog sg f F)(Br:Gu C.prog fn.params.toList sg.ps=some ys)(hF:∀ts,iY ys ts->F ts=some [.c (.bool true)])(hgl:RY=[]:=by rfl):
  ReturnsInHanded {} C os f .any (s.pre6 enc C.prog fn conds apart) (s.post enc C.prog fn apart fresh handsOn again):=by
 refine returnsInHanded_of_change own started LI Tw witness ?_
 intro W b0 args ds gs before iD hW _ _
 exact ael wb qM hl vW hrt za KU ez Br hF W b0 args ds gs before iD hW (λx hx=>by rw[hgl]at hx;cases hx)
def pv(p:Prim)(l:List T)(k:T->Option (List T)):Option (List T):=(Prim.ev p l).bind k
theorem Vl(p:Prim)(l:List T)(k:T->Option (List T)):pv p l k=(Prim.ev p l).bind k:=rfl
def Yz(x:T)(k:T->Option (List T)):Option (List T):=(Prim.ev (.uQ) [x]).bind k
theorem aeo(x:T)(k:T->Option (List T)):Yz x k=(Prim.ev (.uQ) [x]).bind k:=rfl
def Ya(x y:T)(k:T->Option (List T)):Option (List T):=(Prim.ev (.bin .add) [x,y]).bind k
theorem aep(x y:T)(k:T->Option (List T)):Ya x y k=(Prim.ev (.bin .add) [x,y]).bind k:=rfl
def Yb(x y:T)(k:T->Option (List T)):Option (List T):=(Prim.ev (.kg) [x,y]).bind k
theorem aeq(x y:T)(k:T->Option (List T)):Yb x y k=(Prim.ev (.kg) [x,y]).bind k:=rfl
def Yl(x y:T)(k:T->Option (List T)):Option (List T):=(Prim.ev (.bin .lss) [x,y]).bind k
theorem aer(x y:T)(k:T->Option (List T)):Yl x y k=(Prim.ev (.bin .lss) [x,y]).bind k:=rfl
def Ye(x y:T)(k:T->Option (List T)):Option (List T):=(Prim.ev (.bin .eql) [x,y]).bind k
theorem aes(x y:T)(k:T->Option (List T)):Ye x y k=(Prim.ev (.bin .eql) [x,y]).bind k:=rfl
def Yn(x:T)(k:T->Option (List T)):Option (List T):=(Prim.ev (.len) [x]).bind k
theorem aet(x:T)(k:T->Option (List T)):Yn x k=(Prim.ev (.len) [x]).bind k:=rfl
def Yt(x:T)(k:T->Option (List T)):Option (List T):=(Prim.ev (.un .not) [x]).bind k
theorem aeu(x:T)(k:T->Option (List T)):Yt x k=(Prim.ev (.un .not) [x]).bind k:=rfl
def Yp(x y:T)(k:T->Option (List T)):Option (List T):=(Prim.ev (.app true 1) [x,y]).bind k
theorem aev(x y:T)(k:T->Option (List T)):Yp x y k=(Prim.ev (.app true 1) [x,y]).bind k:=rfl
def Yo(x y:T)(k:T->Option (List T)):Option (List T):=(Prim.ev (.app false 3) [x,y]).bind k
theorem aew(x y:T)(k:T->Option (List T)):Yo x y k=(Prim.ev (.app false 3) [x,y]).bind k:=rfl
def Yu(x y:T)(k:T->Option (List T)):Option (List T):=(Prim.ev (.bin .neq) [x,y]).bind k
theorem aex(x y:T)(k:T->Option (List T)):Yu x y k=(Prim.ev (.bin .neq) [x,y]).bind k:=rfl
def Yg(x y:T)(k:T->Option (List T)):Option (List T):=(Prim.ev (.bin .gtr) [x,y]).bind k
theorem aey(x y:T)(k:T->Option (List T)):Yg x y k=(Prim.ev (.bin .gtr) [x,y]).bind k:=rfl
def Ym(x y:T)(k:T->Option (List T)):Option (List T):=(Prim.ev (.bin .leq) [x,y]).bind k
theorem aez(x y:T)(k:T->Option (List T)):Ym x y k=(Prim.ev (.bin .leq) [x,y]).bind k:=rfl
def Yh(x y:T)(k:T->Option (List T)):Option (List T):=(Prim.ev (.bin .geq) [x,y]).bind k
theorem aeA(x y:T)(k:T->Option (List T)):Yh x y k=(Prim.ev (.bin .geq) [x,y]).bind k:=rfl
def Ys(x y:T)(k:T->Option (List T)):Option (List T):=(Prim.ev (.bin .sub) [x,y]).bind k
theorem aeB(x y:T)(k:T->Option (List T)):Ys x y k=(Prim.ev (.bin .sub) [x,y]).bind k:=rfl
def Yv(x y:T)(k:T->Option (List T)):Option (List T):=(Prim.ev (.sub 1 true false) [x,y]).bind k
theorem aeC(x y:T)(k:T->Option (List T)):Yv x y k=(Prim.ev (.sub 1 true false) [x,y]).bind k:=rfl
def Yw(x y:T)(k:T->Option (List T)):Option (List T):=(Prim.ev (.sub 1 false true) [x,y]).bind k
theorem aeD(x y:T)(k:T->Option (List T)):Yw x y k=(Prim.ev (.sub 1 false true) [x,y]).bind k:=rfl
def Yx(x:T)(k:T->Option (List T)):Option (List T):=(Prim.ev (.lit 1 [true]) [x]).bind k
theorem aeE(x:T)(k:T->Option (List T)):Yx x k=(Prim.ev (.lit 1 [true]) [x]).bind k:=rfl
def Yy(x y:T)(k:T->Option (List T)):Option (List T):=(Prim.ev (.app false 8) [x,y]).bind k
theorem aeF(x y:T)(k:T->Option (List T)):Yy x y k=(Prim.ev (.app false 8) [x,y]).bind k:=rfl
def Yc(w j:Nat)(x y:T)(k:T->Option (List T)):Option (List T):=(Prim.ev (.cell w j) [x,y]).bind k
theorem aeG(w j:Nat)(x y:T)(k:T->Option (List T)):Yc w j x y k=(Prim.ev (.cell w j) [x,y]).bind k:=rfl
def Yq(x y:T)(k:T->Option (List T)):Option (List T):=(Prim.ev .kg [x,y]).bind λ_=>(Prim.ev (.aU 1 0) [x,y]).bind k
theorem aeH(x y:T)(k:T->Option (List T)):Yq x y k=(Prim.ev .kg [x,y]).bind λ_=>(Prim.ev (.aU 1 0) [x,y]).bind k:=rfl
def Y1(x y:T)(k:T->Option (List T)):Option (List T):=(Prim.ev .kg [x,y]).bind λ_=>(Prim.ev (.cell 1 0) [x,y]).bind λa0=>k a0
theorem aeI(x y:T)(k:T->Option (List T)):Y1 x y k=(Prim.ev .kg [x,y]).bind λ_=>(Prim.ev (.cell 1 0) [x,y]).bind λa0=>k a0:=rfl
def Y2(x y:T)(k:T->T->Option (List T)):Option (List T):=(Prim.ev .kg [x,y]).bind λ_=>(Prim.ev (.cell 2 0) [x,y]).bind λa0=>(Prim.ev (.cell 2 1) [x,y]).bind λa1=>k a0 a1
theorem aeJ(x y:T)(k:T->T->Option (List T)):Y2 x y k=(Prim.ev .kg [x,y]).bind λ_=>(Prim.ev (.cell 2 0) [x,y]).bind λa0=>(Prim.ev (.cell 2 1) [x,y]).bind λa1=>k a0 a1:=rfl
def Y3(x y:T)(k:T->T->T->Option (List T)):Option (List T):=(Prim.ev .kg [x,y]).bind λ_=>(Prim.ev (.cell 3 0) [x,y]).bind λa0=>(Prim.ev (.cell 3 1) [x,y]).bind λa1=>(Prim.ev (.cell 3 2) [x,y]).bind λa2=>k a0 a1 a2
theorem aeK(x y:T)(k:T->T->T->Option (List T)):Y3 x y k=(Prim.ev .kg [x,y]).bind λ_=>(Prim.ev (.cell 3 0) [x,y]).bind λa0=>(Prim.ev (.cell 3 1) [x,y]).bind λa1=>(Prim.ev (.cell 3 2) [x,y]).bind λa2=>k a0 a1 a2:=rfl
def Y4(x y:T)(k:T->T->T->T->Option (List T)):Option (List T):=(Prim.ev .kg [x,y]).bind λ_=>(Prim.ev (.cell 4 0) [x,y]).bind λa0=>(Prim.ev (.cell 4 1) [x,y]).bind λa1=>(Prim.ev (.cell 4 2) [x,y]).bind λa2=>(Prim.ev (.cell 4 3) [x,y]).bind λa3=>k a0 a1 a2 a3
theorem aeL(x y:T)(k:T->T->T->T->Option (List T)):Y4 x y k=(Prim.ev .kg [x,y]).bind λ_=>(Prim.ev (.cell 4 0) [x,y]).bind λa0=>(Prim.ev (.cell 4 1) [x,y]).bind λa1=>(Prim.ev (.cell 4 2) [x,y]).bind λa2=>(Prim.ev (.cell 4 3) [x,y]).bind λa3=>k a0 a1 a2 a3:=rfl
def Y6(x y:T)(k:T->T->T->T->T->T->Option (List T)):Option (List T):=(Prim.ev .kg [x,y]).bind λ_=>(Prim.ev (.cell 6 0) [x,y]).bind λa0=>(Prim.ev (.cell 6 1) [x,y]).bind λa1=>(Prim.ev (.cell 6 2) [x,y]).bind λa2=>(Prim.ev (.cell 6 3) [x,y]).bind λa3=>(Prim.ev (.cell 6 4) [x,y]).bind λa4=>(Prim.ev (.cell 6 5) [x,y]).bind λa5=>k a0 a1 a2 a3 a4 a5
theorem aeM(x y:T)(k:T->T->T->T->T->T->Option (List T)):Y6 x y k=(Prim.ev .kg [x,y]).bind λ_=>(Prim.ev (.cell 6 0) [x,y]).bind λa0=>(Prim.ev (.cell 6 1) [x,y]).bind λa1=>(Prim.ev (.cell 6 2) [x,y]).bind λa2=>(Prim.ev (.cell 6 3) [x,y]).bind λa3=>(Prim.ev (.cell 6 4) [x,y]).bind λa4=>(Prim.ev (.cell 6 5) [x,y]).bind λa5=>k a0 a1 a2 a3 a4 a5:=rfl
def Y8(x y:T)(k:T->T->T->T->T->T->T->T->Option (List T)):Option (List T):=(Prim.ev .kg [x,y]).bind λ_=>(Prim.ev (.cell 8 0) [x,y]).bind λa0=>(Prim.ev (.cell 8 1) [x,y]).bind λa1=>(Prim.ev (.cell 8 2) [x,y]).bind λa2=>(Prim.ev (.cell 8 3) [x,y]).bind λa3=>(Prim.ev (.cell 8 4) [x,y]).bind λa4=>(Prim.ev (.cell 8 5) [x,y]).bind λa5=>(Prim.ev (.cell 8 6) [x,y]).bind λa6=>(Prim.ev (.cell 8 7) [x,y]).bind λa7=>k a0 a1 a2 a3 a4 a5 a6 a7
theorem aeN(x y:T)(k:T->T->T->T->T->T->T->T->Option (List T)):Y8 x y k=(Prim.ev .kg [x,y]).bind λ_=>(Prim.ev (.cell 8 0) [x,y]).bind λa0=>(Prim.ev (.cell 8 1) [x,y]).bind λa1=>(Prim.ev (.cell 8 2) [x,y]).bind λa2=>(Prim.ev (.cell 8 3) [x,y]).bind λa3=>(Prim.ev (.cell 8 4) [x,y]).bind λa4=>(Prim.ev (.cell 8 5) [x,y]).bind λa5=>(Prim.ev (.cell 8 6) [x,y]).bind λa6=>(Prim.ev (.cell 8 7) [x,y]).bind λa7=>k a0 a1 a2 a3 a4 a5 a6 a7:=rfl
def jn(k:aB)(b:aB->Option (List T)):Option (List T):=b k
def bm(o:Option (List T))(k:T->Option (List T)):Option (List T):=o.bind λts=>k (ts.getD 0 T.bH)
theorem Vm(x0:T)(k:T->Option (List T)):bm (some [x0]) k=k x0:=rfl
def dJ(k:T->Option (List T)):aB:=λts=>k (ts.getD 0 T.bH)
theorem Vn(x0:T)(k:T->Option (List T)):dJ k [x0]=k x0:=rfl
def Qj(o:Option (List T))(k:T->T->Option (List T)):Option (List T):=o.bind λts=>k (ts.getD 0 T.bH) (ts.getD 1 T.bH)
theorem aeO(x0 x1:T)(k:T->T->Option (List T)):Qj (some [x0,x1]) k=k x0 x1:=rfl
def dv(k:T->T->Option (List T)):aB:=λts=>k (ts.getD 0 T.bH) (ts.getD 1 T.bH)
theorem Vo(x0 x1:T)(k:T->T->Option (List T)):dv k [x0,x1]=k x0 x1:=rfl
def nf(o:Option (List T))(k:T->T->T->Option (List T)):Option (List T):=o.bind λts=>k (ts.getD 0 T.bH) (ts.getD 1 T.bH) (ts.getD 2 T.bH)
theorem aeP(x0 x1 x2:T)(k:T->T->T->Option (List T)):nf (some [x0,x1,x2]) k=k x0 x1 x2:=rfl
def sU(k:T->T->T->Option (List T)):aB:=λts=>k (ts.getD 0 T.bH) (ts.getD 1 T.bH) (ts.getD 2 T.bH)
theorem Vp(x0 x1 x2:T)(k:T->T->T->Option (List T)):sU k [x0,x1,x2]=k x0 x1 x2:=rfl
def eC(o:Option (List T))(k:T->T->T->T->Option (List T)):Option (List T):=o.bind λts=>k (ts.getD 0 T.bH) (ts.getD 1 T.bH) (ts.getD 2 T.bH) (ts.getD 3 T.bH)
theorem aeQ(x0 x1 x2 x3:T)(k:T->T->T->T->Option (List T)):eC (some [x0,x1,x2,x3]) k=k x0 x1 x2 x3:=rfl
def xU(k:T->T->T->T->Option (List T)):aB:=λts=>k (ts.getD 0 T.bH) (ts.getD 1 T.bH) (ts.getD 2 T.bH) (ts.getD 3 T.bH)
theorem Vq(x0 x1 x2 x3:T)(k:T->T->T->T->Option (List T)):xU k [x0,x1,x2,x3]=k x0 x1 x2 x3:=rfl
def ry(k:T->T->T->T->T->Option (List T)):aB:=λts=>k (ts.getD 0 T.bH) (ts.getD 1 T.bH) (ts.getD 2 T.bH) (ts.getD 3 T.bH) (ts.getD 4 T.bH)
theorem Vr(x0 x1 x2 x3 x4:T)(k:T->T->T->T->T->Option (List T)):ry k [x0,x1,x2,x3,x4]=k x0 x1 x2 x3 x4:=rfl
def Qk(o:Option (List T))(k:T->T->T->T->T->T->Option (List T)):Option (List T):=o.bind λts=>k (ts.getD 0 T.bH) (ts.getD 1 T.bH) (ts.getD 2 T.bH) (ts.getD 3 T.bH) (ts.getD 4 T.bH) (ts.getD 5 T.bH)
theorem aeR(x0 x1 x2 x3 x4 x5:T)(k:T->T->T->T->T->T->Option (List T)):Qk (some [x0,x1,x2,x3,x4,x5]) k=k x0 x1 x2 x3 x4 x5:=rfl
def Vs(k:T->T->T->T->T->T->Option (List T)):aB:=λts=>k (ts.getD 0 T.bH) (ts.getD 1 T.bH) (ts.getD 2 T.bH) (ts.getD 3 T.bH) (ts.getD 4 T.bH) (ts.getD 5 T.bH)
theorem Vt(x0 x1 x2 x3 x4 x5:T)(k:T->T->T->T->T->T->Option (List T)):Vs k [x0,x1,x2,x3,x4,x5]=k x0 x1 x2 x3 x4 x5:=rfl
def EM(o:Option (List T))(k:T->T->T->T->T->T->T->Option (List T)):Option (List T):=o.bind λts=>k (ts.getD 0 T.bH) (ts.getD 1 T.bH) (ts.getD 2 T.bH) (ts.getD 3 T.bH) (ts.getD 4 T.bH) (ts.getD 5 T.bH) (ts.getD 6 T.bH)
theorem aeS(x0 x1 x2 x3 x4 x5 x6:T)(k:T->T->T->T->T->T->T->Option (List T)):EM (some [x0,x1,x2,x3,x4,x5,x6]) k=k x0 x1 x2 x3 x4 x5 x6:=rfl
def I9(k:T->T->T->T->T->T->T->Option (List T)):aB:=λts=>k (ts.getD 0 T.bH) (ts.getD 1 T.bH) (ts.getD 2 T.bH) (ts.getD 3 T.bH) (ts.getD 4 T.bH) (ts.getD 5 T.bH) (ts.getD 6 T.bH)
theorem Vu(x0 x1 x2 x3 x4 x5 x6:T)(k:T->T->T->T->T->T->T->Option (List T)):I9 k [x0,x1,x2,x3,x4,x5,x6]=k x0 x1 x2 x3 x4 x5 x6:=rfl
def q7(o:Option (List T))(k:T->T->T->T->T->T->T->T->Option (List T)):Option (List T):=o.bind λts=>k (ts.getD 0 T.bH) (ts.getD 1 T.bH) (ts.getD 2 T.bH) (ts.getD 3 T.bH) (ts.getD 4 T.bH) (ts.getD 5 T.bH) (ts.getD 6 T.bH) (ts.getD 7 T.bH)
theorem aeT(x0 x1 x2 x3 x4 x5 x6 x7:T)(k:T->T->T->T->T->T->T->T->Option (List T)):q7 (some [x0,x1,x2,x3,x4,x5,x6,x7]) k=k x0 x1 x2 x3 x4 x5 x6 x7:=rfl
def Qr(k:T->T->T->T->T->T->T->T->Option (List T)):aB:=λts=>k (ts.getD 0 T.bH) (ts.getD 1 T.bH) (ts.getD 2 T.bH) (ts.getD 3 T.bH) (ts.getD 4 T.bH) (ts.getD 5 T.bH) (ts.getD 6 T.bH) (ts.getD 7 T.bH)
theorem Vv(x0 x1 x2 x3 x4 x5 x6 x7:T)(k:T->T->T->T->T->T->T->T->Option (List T)):Qr k [x0,x1,x2,x3,x4,x5,x6,x7]=k x0 x1 x2 x3 x4 x5 x6 x7:=rfl
def wc(o:Option (List T))(k:T->T->T->T->T->T->T->T->T->Option (List T)):Option (List T):=o.bind λts=>k (ts.getD 0 T.bH) (ts.getD 1 T.bH) (ts.getD 2 T.bH) (ts.getD 3 T.bH) (ts.getD 4 T.bH) (ts.getD 5 T.bH) (ts.getD 6 T.bH) (ts.getD 7 T.bH) (ts.getD 8 T.bH)
theorem aeU(x0 x1 x2 x3 x4 x5 x6 x7 x8:T)(k:T->T->T->T->T->T->T->T->T->Option (List T)):wc (some [x0,x1,x2,x3,x4,x5,x6,x7,x8]) k=k x0 x1 x2 x3 x4 x5 x6 x7 x8:=rfl
def Vw(k:T->T->T->T->T->T->T->T->T->Option (List T)):aB:=λts=>k (ts.getD 0 T.bH) (ts.getD 1 T.bH) (ts.getD 2 T.bH) (ts.getD 3 T.bH) (ts.getD 4 T.bH) (ts.getD 5 T.bH) (ts.getD 6 T.bH) (ts.getD 7 T.bH) (ts.getD 8 T.bH)
theorem Vx(x0 x1 x2 x3 x4 x5 x6 x7 x8:T)(k:T->T->T->T->T->T->T->T->T->Option (List T)):Vw k [x0,x1,x2,x3,x4,x5,x6,x7,x8]=k x0 x1 x2 x3 x4 x5 x6 x7 x8:=rfl
def Gw(o:Option (List T))(k:T->T->T->T->T->T->T->T->T->T->Option (List T)):Option (List T):=o.bind λts=>k (ts.getD 0 T.bH) (ts.getD 1 T.bH) (ts.getD 2 T.bH) (ts.getD 3 T.bH) (ts.getD 4 T.bH) (ts.getD 5 T.bH) (ts.getD 6 T.bH) (ts.getD 7 T.bH) (ts.getD 8 T.bH) (ts.getD 9 T.bH)
theorem aeV(x0 x1 x2 x3 x4 x5 x6 x7 x8 x9:T)(k:T->T->T->T->T->T->T->T->T->T->Option (List T)):Gw (some [x0,x1,x2,x3,x4,x5,x6,x7,x8,x9]) k=k x0 x1 x2 x3 x4 x5 x6 x7 x8 x9:=rfl
def Ds(k:T->T->T->T->T->T->T->T->T->T->Option (List T)):aB:=λts=>k (ts.getD 0 T.bH) (ts.getD 1 T.bH) (ts.getD 2 T.bH) (ts.getD 3 T.bH) (ts.getD 4 T.bH) (ts.getD 5 T.bH) (ts.getD 6 T.bH) (ts.getD 7 T.bH) (ts.getD 8 T.bH) (ts.getD 9 T.bH)
theorem Vy(x0 x1 x2 x3 x4 x5 x6 x7 x8 x9:T)(k:T->T->T->T->T->T->T->T->T->T->Option (List T)):Ds k [x0,x1,x2,x3,x4,x5,x6,x7,x8,x9]=k x0 x1 x2 x3 x4 x5 x6 x7 x8 x9:=rfl
def uq(o:Option (List T))(k:T->T->T->T->T->T->T->T->T->T->T->Option (List T)):Option (List T):=o.bind λts=>k (ts.getD 0 T.bH) (ts.getD 1 T.bH) (ts.getD 2 T.bH) (ts.getD 3 T.bH) (ts.getD 4 T.bH) (ts.getD 5 T.bH) (ts.getD 6 T.bH) (ts.getD 7 T.bH) (ts.getD 8 T.bH) (ts.getD 9 T.bH) (ts.getD 10 T.bH)
theorem aeW(x0 x1 x2 x3 x4 x5 x6 x7 x8 x9 Dt:T)(k:T->T->T->T->T->T->T->T->T->T->T->Option (List T)):uq (some [x0,x1,x2,x3,x4,x5,x6,x7,x8,x9,Dt]) k=k x0 x1 x2 x3 x4 x5 x6 x7 x8 x9 Dt:=rfl
def Gx(k:T->T->T->T->T->T->T->T->T->T->T->Option (List T)):aB:=λts=>k (ts.getD 0 T.bH) (ts.getD 1 T.bH) (ts.getD 2 T.bH) (ts.getD 3 T.bH) (ts.getD 4 T.bH) (ts.getD 5 T.bH) (ts.getD 6 T.bH) (ts.getD 7 T.bH) (ts.getD 8 T.bH) (ts.getD 9 T.bH) (ts.getD 10 T.bH)
theorem Vz(x0 x1 x2 x3 x4 x5 x6 x7 x8 x9 Dt:T)(k:T->T->T->T->T->T->T->T->T->T->T->Option (List T)):Gx k [x0,x1,x2,x3,x4,x5,x6,x7,x8,x9,Dt]=k x0 x1 x2 x3 x4 x5 x6 x7 x8 x9 Dt:=rfl
def Aq(o:Option (List T))(k:T->T->T->T->T->T->T->T->T->T->T->T->T->T->Option (List T)):Option (List T):=o.bind λts=>k (ts.getD 0 T.bH) (ts.getD 1 T.bH) (ts.getD 2 T.bH) (ts.getD 3 T.bH) (ts.getD 4 T.bH) (ts.getD 5 T.bH) (ts.getD 6 T.bH) (ts.getD 7 T.bH) (ts.getD 8 T.bH) (ts.getD 9 T.bH) (ts.getD 10 T.bH) (ts.getD 11 T.bH) (ts.getD 12 T.bH) (ts.getD 13 T.bH)
theorem aeX(x0 x1 x2 x3 x4 x5 x6 x7 x8 x9 Dt VA VB VC:T)(k:T->T->T->T->T->T->T->T->T->T->T->T->T->T->Option (List T)):Aq (some [x0,x1,x2,x3,x4,x5,x6,x7,x8,x9,Dt,VA,VB,VC]) k=k x0 x1 x2 x3 x4 x5 x6 x7 x8 x9 Dt VA VB VC:=rfl
def Du(k:T->T->T->T->T->T->T->T->T->T->T->T->T->T->Option (List T)):aB:=λts=>k (ts.getD 0 T.bH) (ts.getD 1 T.bH) (ts.getD 2 T.bH) (ts.getD 3 T.bH) (ts.getD 4 T.bH) (ts.getD 5 T.bH) (ts.getD 6 T.bH) (ts.getD 7 T.bH) (ts.getD 8 T.bH) (ts.getD 9 T.bH) (ts.getD 10 T.bH) (ts.getD 11 T.bH) (ts.getD 12 T.bH) (ts.getD 13 T.bH)
theorem VD(x0 x1 x2 x3 x4 x5 x6 x7 x8 x9 Dt VA VB VC:T)(k:T->T->T->T->T->T->T->T->T->T->T->T->T->T->Option (List T)):Du k [x0,x1,x2,x3,x4,x5,x6,x7,x8,x9,Dt,VA,VB,VC]=k x0 x1 x2 x3 x4 x5 x6 x7 x8 x9 Dt VA VB VC:=rfl
theorem aeY(k:aB)(b:aB->Option (List T)):jn k b=b k:=rfl
def PL.arity(j:Nat):PL->Option Nat
 | .ret _=>none
 | .ins _ k=>k.arity j
 | .ite _ x y=>match x.arity j with|some n=>some n|none=>y.arity j
 | .loop _ b=>b.arity (j+1)
 | .join k b=>match k.arity j with|some n=>some n|none=>b.arity (j+1)
 | .go i xs=>bif Nat.beq i j then some xs.length else none
 | .tK _ _=>none
def PL.lO(S:Nat->aB)(R:Nat)(K:List aB)(ρ:List T):PL->Option (List T)
 | .ret xs=>some (xs.map (Lf.ev ρ))
 | .ins (.pr p xs) k=>(p.ev (xs.map (Lf.ev ρ))).bind λt=>k.lO S R K (ρ++[t])
 | .ins (.cl g xs m) k=>(S g (xs.map (Lf.ev ρ))).bind λts=>k.lO S R K (ρ++tM ts 0 m)
 | .ite c x y=>az (ρ.getD c T.bH) (x.lO S R K ρ) (y.lO S R K ρ)
 | .loop xs body=>iter (λself ts=>body.lO S R (self::K) (ρ++tM ts 0 xs.length)) R (xs.map (Lf.ev ρ))
 | .join k body=>jn (λts=>k.lO S R K (ρ++tM ts 0 ((body.arity 0).getD 0))) λf=>body.lO S R (f::K) ρ
 | .go j xs=>match K[j]? with
  |some f=>f (xs.map (Lf.ev ρ))
  |none=>none
 | .tK _ _=>none
def PL.wf(ar:List Nat):PL->Bool
 | .ret _=>true
 | .ins _ k=>k.wf ar
 | .ite _ x y=>x.wf ar&&y.wf ar
 | .loop xs b=>b.wf (xs.length::ar)
 | .join k b=>k.wf ar&&b.wf ((b.arity 0).getD 0::ar)
 | .go j xs=>match ar[j]? with|some m=>Nat.beq m xs.length|none=>false
 | .tK _ _=>true
theorem VE:∀(ts us:List T),tM (us++ts) us.length ts.length=ts
 | [],us=>rfl
 |t::ts,us=>by
  have h:=VE ts (us++[t])
  rw[List.append_assoc,List.length_append]at h
  simp only[List.length_cons,tM]
  refine congr (congrArg _ ?_) h
  simp
theorem VF(ts:List T){m:Nat}(h:ts.length=m):tM ts 0 m=ts:=by
 subst h;exact VE ts []
theorem VG{F G:aB->aB}{m:Nat}(h:∀s s',(∀ts:List T,ts.length=m->s ts=s' ts)->∀ts:List T,ts.length=m->F s ts=G s' ts):∀R (ts:List T),ts.length=m->iter F R ts=iter G R ts
 |0,_,_=>rfl
 |R+1,ts,ht=>by
  unfold iter
  exact h _ _ (VG h R) ts ht
theorem I_(S:Nat->aB)(R:Nat):∀(p:PL) (ar:List Nat) (K K':List aB) (ρ:List T),p.wf ar=true->
  (∀(j m:Nat),ar[j]?=some m->∃f f':aB,K[j]?=some f∧K'[j]?=some f'∧∀ts:List T,ts.length=m->f ts=f' ts)->p.den S R K ρ=p.lO S R K' ρ
 | .ret xs,ar,K,K',ρ,_,_=>by simp only[PL.den,PL.lO]
 | .ins (.pr p xs) k,ar,K,K',ρ,hw,hk=>by
  simp only[PL.den,PL.lO]
  exact congrArg _ (funext λt=>I_ S R k ar K K' _ hw hk)
 | .ins (.cl g xs m) k,ar,K,K',ρ,hw,hk=>by
  simp only[PL.den,PL.lO]
  exact congrArg _ (funext λt=>I_ S R k ar K K' _ hw hk)
 | .ite c x y,ar,K,K',ρ,hw,hk=>by
  simp only[PL.wf,bI]at hw
  rw[Gk]
  simp only[PL.lO]
  rw[I_ S R x ar K K' ρ hw.1 hk,I_ S R y ar K K' ρ hw.2 hk]
 | .loop xs b,ar,K,K',ρ,hw,hk=>by
  simp only[PL.den,PL.lO]
  refine VG (m:=xs.length) (λs s' hs ts ht=>?_) R _ (by simp)
  rw[VF ts ht]
  refine I_ S R b (xs.length::ar) _ _ _ hw λj m hj=>?_
  cases j with
  |zero=>cases hj;exact⟨s,s',rfl,rfl,hs⟩
  |succ j=>exact hk j m hj
 | .join k b,ar,K,K',ρ,hw,hk=>by
  simp only[PL.wf,bI]at hw
  simp only[PL.den,PL.lO,jn]
  refine I_ S R b ((b.arity 0).getD 0::ar) _ _ _ hw.2 λj m hj=>?_
  cases j with
  |zero=>
   cases hj
   refine⟨_,_,rfl,rfl,λts ht=>?_⟩
   show PL.den S R K (ρ++ts) k=PL.lO S R K' (ρ++tM ts 0 _) k
   rw[VF ts ht]
   exact I_ S R k ar K K' _ hw.1 hk
  |succ j=>exact hk j m hj
 | .go j xs,ar,K,K',ρ,hw,hk=>by
  simp only[PL.wf]at hw
  cases hm:ar[j]? with
  |none=>rw[hm]at hw;exact absurd hw (by simp)
  |some m=>
   rw[hm]at hw
   have Bo:=dU hw
   obtain⟨f,f',h1,h2,h3⟩:=hk j m hm
   simp only[PL.den,PL.lO,h1,h2]
   exact h3 _ (by simp[Bo])
 | .tK _ _,ar,K,K',ρ,_,_=>by simp only[PL.den,PL.lO]
theorem cR{S:Nat->aB}{R:Nat}{p:PL}{ρ:List T}(h:p.wf []=true):p.den S R [] ρ=p.lO S R [] ρ:=
 I_ S R p [] [] [] ρ h λj m hj=>by simp at hj
end Go.Proofs.YtjimmglpkndemaaGreatC

/- The walk by reflection: a part of its laws, for any function. Conditions: none. -/
import Derived.Test.YtbhplkilhknciaaKc
import Derived.LoopN
import Derived.Test.YtbhplkilhknciaaKa
namespace Go.Proofs.YtbhplkilhknciaaC
set_option linter.unusedVariables false
structure Item where
 rd:List aK
 wr:St
 lo:Nat
 hi:Nat
def Item.tr(it:Item):Tr:=⟨it.rd,it.wr.map (·.1)⟩
inductive fI (Ok:Nat->Item->St->Prop):Nat->St->Nat->List Item->St->Nat->Prop
 |nil {i:Nat} {s:St} {c:Nat}:fI Ok i s c [] s c
 |cons {i:Nat} {s s':St} {c c':Nat} {it:Item} {its:List Item} (h:Ok i it s) (hl:it.lo=c) (hh:c<=it.hi) (ht:fI Ok (i+1) (s.dV it.wr) it.hi its s' c'):fI Ok i s c (it::its) s' c'
def jL(D:Nat->Bool):Nat->St->List Item->St
 |_,s,[]=>s
 |i,s,it::its=>jL D (i+1) (bif D i then s.dV it.wr else s) its
theorem fI.mono{Ok Ok':Nat->Item->St->Prop}(h:∀i it s,Ok i it s->Ok' i it s){i:Nat}{s s':St}{c c':Nat}{its:List Item}(hc:fI Ok i s c its s' c'):fI Ok' i s c its s' c':=by
 induction hc with
 |nil=>exact .nil
 |cons h1 h2 h3 _ ih=>exact .cons (h _ _ _ h1) h2 h3 ih
theorem fI.le{Ok:Nat->Item->St->Prop}{i:Nat}{s s':St}{c c':Nat}{its:List Item}(hc:fI Ok i s c its s' c'):c<=c':=by
 induction hc with
 |nil=>exact Nat.le_refl _
 |cons _ _ h3 _ ih=>exact Nat.le_trans h3 ih
theorem fI.get{Ok:Nat->Item->St->Prop}{i:Nat}{s s':St}{c c':Nat}{its:List Item}(hc:fI Ok i s c its s' c'):∀(m:Nat) (it:Item),its[m]?=some it->
  Ok (i+m) it (jL (λ_=>true) i s (its.take m))∧c<=it.lo∧it.lo<=it.hi∧it.hi<=c':=by
 induction hc with
 |nil=>intro m it h;simp at h
 | @cons i s s' c c' Hy its h1 h2 h3 h4 ih=>
  intro m it hm
  cases m with
  |zero=>
   simp at hm
   subst hm
   exact⟨h1,by omega,by omega,h4.le⟩
  |succ m=>
   obtain⟨g1,g2,g3,g4⟩:=ih m it (by simpa using hm)
   refine⟨?_,by omega,g3,g4⟩
   rw[show i+(m+1)=i+1+m by omega]
   simpa[jL]using g1
theorem fI.apart{Ok:Nat->Item->St->Prop}{i:Nat}{s s':St}{c c':Nat}{its:List Item}(hc:fI Ok i s c its s' c'):∀(m m':Nat) (it eo:Item),its[m]?=some it->its[m']?=some eo->m<m'->it.hi<=eo.lo:=by
 induction hc with
 |nil=>intro m m' it eo h;simp at h
 | @cons i s s' c c' Hy its h1 h2 h3 h4 ih=>
  intro m m' it eo hm vO bI
  cases m' with
  |zero=>omega
  |succ m'=>
   cases m with
   |zero=>
    simp at hm
    subst hm
    exact(h4.get m' eo (by simpa using vO)).2.1
   |succ m=>exact ih m m' it eo (by simpa using hm) (by simpa using vO) (by omega)
theorem fI.last{Ok:Nat->Item->St->Prop}{i:Nat}{s s':St}{c c':Nat}{its:List Item}(hc:fI Ok i s c its s' c'){D:Nat->Bool}:(∀m,m<its.length->D (i+m)=true)->jL D i s its=s':=by
 induction hc with
 |nil=>intro _;rfl
 | @cons i s s' c c' Hy its h1 h2 h3 h4 ih=>
  intro h
  simp only[jL]
  rw[show D i=true from h 0 (by simp)]
  exact ih λm hm=>by rw[show i+1+m=i+(m+1) by omega];exact h (m+1) (by simpa using hm)
theorem EC{D:Nat->Bool}:∀{its:List Item} {i:Nat} {s:St},(∀m,m<its.length->D (i+m)=false)->jL D i s its=s
 | [],i,s,_=>rfl
 |it::its,i,s,h=>by
  simp only[jL]
  rw[show D i=false from h 0 (by simp)]
  exact EC λm hm=>by rw[show i+1+m=i+(m+1) by omega];exact h (m+1) (by simpa using hm)
theorem La{D:Nat->Bool}:∀{its:List Item} {i:Nat} {s s2:St},(∀r,s.get r=s2.get r)->∀r,(jL D i s its).get r=(jL D i s2 its).get r
 | [],i,s,s2,h,r=>h r
 |it::its,i,s,s2,h,r=>by
  simp only[jL]
  refine La (λr=>?_) r
  cases D i with
  |true=>simp only[cond_true];rw[St.aD,St.aD,h]
  |false=>exact h r
theorem Lc{D D':Nat->Bool}:∀{its:List Item} {i:Nat} {s:St},(∀m,m<its.length->D (i+m)=D' (i+m))->jL D i s its=jL D' i s its
 | [],i,s,_=>rfl
 |it::its,i,s,h=>by
  simp only[jL]
  rw[show D i=D' i from h 0 (by simp)]
  exact Lc λm hm=>by rw[show i+1+m=i+(m+1) by omega];exact h (m+1) (by simpa using hm)
theorem Ld{D:Nat->Bool}{r:aK}:∀{its:List Item} {i:Nat} {s:St},(∀m it,its[m]?=some it->D (i+m)=true->it.wr.look r=none)->(jL D i s its).get r=s.get r
 | [],i,s,_=>rfl
 |it::its,i,s,h=>by
  simp only[jL]
  rw[Ld λm eo hm hd=>h (m+1) eo (by simpa using hm) (by rw[show i+(m+1)=i+1+m by omega];exact hd)]
  cases hD:D i with
  |false=>rfl
  |true=>
   simp only[cond_true]
   rw[St.aD,h 0 it rfl (by simpa using hD)]
   rfl
theorem Le{D:Nat->Bool}{W:St}:∀{its:List Item} {i:Nat} {s:St},(∀m it,its[m]?=some it->D (i+m)=true->∀r,it.wr.look r=none∨W.look r=none)->
  ∀r,((jL D i s its).dV W).get r=(jL D i (s.dV W) its).get r
 | [],i,s,_,r=>rfl
 |it::its,i,s,h,r=>by
  simp only[jL]
  rw[Le λm eo hm hd=>h (m+1) eo (by simpa using hm) (by rw[show i+(m+1)=i+1+m by omega];exact hd)]
  refine La (λr=>?_) r
  cases hD:D i with
  |false=>rfl
  |true=>
   simp only[cond_true]
   rw[St.aD,St.aD,St.aD,St.aD]
   rcases h 0 it rfl (by simpa using hD) r with h1|h1
   ·rw[h1];rfl
   ·rw[h1];rfl
def jM(D:Nat->Bool)(k:Nat):Nat->Bool:=λj=>if j=k then true else D j
theorem ED{D:Nat->Bool}:∀{its:List Item} {i m:Nat} {s:St} {it:Item},its[m]?=some it->D (i+m)=false->
  (∀m' eo,its[m']?=some eo->m<m'->D (i+m')=true->∀r,eo.wr.look r=none∨it.wr.look r=none)->∀r,((jL D i s its).dV it.wr).get r=(jL (jM D (i+m)) i s its).get r
 | [],i,m,s,it,h,_,_,r=>by simp at h
 |Hy::its,i,0,s,it,h,hd,hc,r=>by
  simp at h
  subst h
  simp only[jL,Nat.add_zero]at hd⊢
  rw[hd,show jM D i i=true by simp[jM]]
  simp only[cond_false,cond_true]
  rw[Le λm eo hm sS=>hc (m+1) eo (by simpa using hm) (by omega) (by rw[show i+(m+1)=i+1+m by omega];exact sS)]
  exact congrArg (λx=>St.get x r) (Lc λm hm=>by
   have:¬(i+1+m=i):=by omega
   simp[jM,this])
 |Hy::its,i,m+1,s,it,h,hd,hc,r=>by
  simp only[jL]
  have e:jM D (i+(m+1)) i=D i:=by
   have:¬(i=i+(m+1)):=by omega
   simp[jM]
  rw[e,show i+(m+1)=i+1+m by omega]
  exact ED (by simpa using h) (by rw[show i+1+m=i+(m+1) by omega];exact hd) (λm' eo hm bI sS=>hc (m'+1) eo (by simpa using hm) (by omega) (by rw[show i+(m'+1)=i+1+m' by omega];exact sS)) r
theorem EE{D:Nat->Bool}{r:aK}:∀{its:List Item} {i m:Nat} {s s2:St},s.get r=s2.get r->m<=its.length->(∀m' eo,its[m']?=some eo->m'<m->D (i+m')=false->eo.wr.look r=none)->
  (∀m' eo,its[m']?=some eo->m<=m'->D (i+m')=true->eo.wr.look r=none)->(jL D i s its).get r=(jL (λ_=>true) i s2 (its.take m)).get r
 |its,i,0,s,s2,h,_,h1,h2=>by
  rw[List.take_zero]
  show _=s2.get r
  rw[Ld λm it hm hd=>h2 m it hm (by omega) hd,h]
 | [],i,m+1,s,s2,h,hl,_,_=>by simp at hl
 |Hy::its,i,m+1,s,s2,h,hl,h1,h2=>by
  simp only[jL,List.take_succ_cons,cond_true]
  refine EE ?_ (by simpa using hl) (λm' eo hm bI hd=>h1 (m'+1) eo (by simpa using hm) (by omega) (by rw[show i+(m'+1)=i+1+m' by omega];exact hd))
   (λm' eo hm bI hd=>h2 (m'+1) eo (by simpa using hm) (by omega) (by rw[show i+(m'+1)=i+1+m' by omega];exact hd))
  cases hD:D i with
  |true=>simp only[cond_true];rw[St.aD,St.aD,h]
  |false=>
   simp only[cond_false]
   rw[St.aD,h1 0 Hy rfl (by omega) (by simpa using hD)]
   exact h
theorem EF{xs ys:List aK}(h:zp xs ys=false):∀r,r∈xs->r∈ys->False:=by
 intro r h1 h2
 have h3:ys.any r.beq=false:=by have:=List.any_eq_false.1 h r h1;rw[Bool.not_eq_true]at this;exact this
 have:=List.any_eq_false.1 h3 r h2
 exact this (aK.beq_iff.2 rfl)
theorem Re{W:St}{r:aK}(h:r∉W.map (·.1)):W.look r=none:=by
 cases hl:W.look r with
 |none=>rfl
 |some u=>exact absurd (List.mem_map.2 ⟨(r,u),Aw hl,rfl⟩) h
theorem Hz{a b:Item}(h:zq a.tr b.tr=true):(∀r∈b.rd,a.wr.look r=none)∧(∀r,a.wr.look r=none∨b.wr.look r=none)∧(∀r∈a.rd,b.wr.look r=none):=by
 simp only[zq,bd,Bool.not_eq_true']at h
 obtain⟨⟨h1,h2⟩,h3⟩:=h
 refine⟨λr hr=>Re λhm=>EF h1 r hm hr,λr=>?_,λr hr=>Re λhm=>EF h3 r hr hm⟩
 by_cases hm:r∈a.wr.map (·.1)
 ·exact .inr (Re λvO=>EF h2 r hm vO)
 ·exact .inl (Re hm)
theorem Lg{bj:Nat}{t:Tr}:∀{us:List Tr} {i:Nat},zr bj t i us=true->∀j u,us[j]?=some u->Nat.testBit bj (i+j)=true∨zq u t=true
 | [],i,_,j,u,h=>by simp at h
 |v::us,i,h,j,u,hj=>by
  simp only[zr,bd,Bool.or_eq_true]at h
  cases j with
  |zero=>simp at hj;subst hj;exact h.1
  |succ j=>
   have:=Lg h.2 j u (by simpa using hj)
   rw[show i+1+j=i+(j+1) by omega]at this
   exact this
theorem Lh:∀{ts:List Tr} {bs:List Nat} {done:List Tr},wC done ts bs=true->∀(m u:Nat) (t tu:Tr) (b:Nat),ts[m]?=some t->bs[m]?=some b->u<done.length+m->(done++ts)[u]?=some tu->
  Nat.testBit b u=true∨zq tu t=true
 | [],bs,done,_,m,u,t,tu,b,h,_,_,_=>by simp at h
 |_::_,[],done,_,m,u,t,tu,b,_,h,_,_=>by simp at h
 |t0::ts,b0::bs,done,h,m,u,t,tu,b,hm,hb,hu,hg=>by
  simp only[wC,bd]at h
  cases m with
  |zero=>
   simp at hm hb
   subst hm hb
   have:=Lg h.1 u tu (by rw[List.getElem?_append_left (by omega)]at hg;exact hg)
   simpa using this
  |succ m=>
   exact Lh h.2 m u t tu b (by simpa using hm) (by simpa using hb) (by simp;omega) (by simpa using hg)
def EG(n:Nat)(e:Edge):Bool:=Region.binds .any e&&Nat.blt e.on n
theorem Li(acc:List Nat)(n:Nat):∀(es:List Edge) (s u:Nat),Nat.testBit (es.foldl (λs e=>bif EG n e then s|||(2^e.on)|||(acc.getD e.on 0)else s) s) u=true->
  Nat.testBit s u=true∨∃e∈es,EG n e=true∧(u=e.on∨Nat.testBit (acc.getD e.on 0) u=true)
 | [],s,u,h=>.inl h
 |e::es,s,u,h=>by
  rw[List.foldl_cons]at h
  rcases Li acc n es _ u h with h1|⟨e',EH,h1⟩
  ·cases hc:EG n e with
   |false=>rw[hc]at h1;exact .inl h1
   |true=>
    rw[hc]at h1
    simp only[cond_true,Nat.testBit_or,Bool.or_eq_true]at h1
    rcases h1 with(h1|h1)|h1
    ·exact .inl h1
    ·rw[Nat.testBit_two_pow]at h1
     simp at h1
     exact .inr ⟨e,by simp,hc,.inl h1.symm⟩
    ·exact .inr ⟨e,by simp,hc,.inr h1⟩
  ·exact .inr ⟨e',by simp[EH],h1⟩
theorem U':∀(os:List Oper) (acc:List Nat) (j:Nat),j<acc.length->(lr acc os)[j]?=acc[j]?
 | [],acc,j,_=>rfl
 |o::os,acc,j,h=>by
  simp only[lr]
  rw[U' os _ j (by simp;omega),List.getElem?_append_left h]
theorem Rf:∀(os:List Oper) (acc:List Nat),(lr acc os).length=acc.length+os.length
 | [],acc=>rfl
 |o::os,acc=>by simp only[lr];rw[Rf];simp;omega
theorem Va:∀(os:List Oper) (acc:List Nat) (k b:Nat),acc.length<=k->(lr acc os)[k]?=some b->∃o,os[k-acc.length]?=some o∧
  ∀u,Nat.testBit b u=true->∃e∈o.after.toList,EG k e=true∧(u=e.on∨Nat.testBit ((lr acc os).getD e.on 0) u=true)
 | [],acc,k,b,hk,h=>by
  simp only[lr]at h
  have:=(List.getElem?_eq_some_iff.1 h).1
  omega
 |o::os,acc,k,b,hk,h=>by
  simp only[lr]at h⊢
  by_cases he:k=acc.length
  ·subst he
   rw[U' os _ _ (by simp),List.getElem?_append_right (Nat.le_refl _)]at h
   simp only[Nat.sub_self,List.getElem?_cons_zero,aH]at h
   refine⟨o,by simp,λu hu=>?_⟩
   rw[<-h]at hu
   rcases Li acc acc.length o.after.toList 0 u hu with h1|⟨e,he,h1,h2⟩
   ·simp at h1
   ·refine⟨e,he,h1,h2.imp_right λh2=>?_⟩
    have bI:e.on<acc.length:=by
     simp only[EG,bd]at h1
     exact Nat.lt_of_succ_le (by simpa[Nat.blt]using h1.2)
    rw[List.getD_eq_getElem?_getD,U' os _ _ (by simp;omega),List.getElem?_append_left bI,<-List.getD_eq_getElem?_getD]
    exact h2
  ·obtain⟨o',h1,h2⟩:=Va os _ k b (by simp;omega) h
   refine⟨o',?_,h2⟩
   rw[<-h1,show k-acc.length=(k-(acc.length+1))+1 by omega]
   simp
theorem xu:∀{os:List Oper} {i:Nat},uG i os=true->∀m o,os[m]?=some o->∀e∈o.after.toList,Region.binds .any e=true->e.on<i+m
 | [],i,_,m,o,h,_,_,_=>by simp at h
 |o0::os,i,h,m,o,hm,e,he,hb=>by
  simp only[uG,bd]at h
  cases m with
  |zero=>
   simp at hm
   subst hm
   have:=List.all_eq_true.1 h.1 e he
   simp only[hb,Bool.not_true,Bool.false_or]at this
   exact Nat.lt_of_succ_le (by simpa[Nat.blt]using this)
  |succ m=>
   have:=xu h.2 m o (by simpa using hm) e he hb
   omega
def CF(ops:Array Oper)(D:Nat->Bool):Prop:=∀(j:Nat) (o:Oper),D j=true->ops[j]?=some o->∀e∈o.after.toList,Region.binds .any e=true->D e.on=true
theorem EI{ops:Array Oper}{D:Nat->Bool}(hc:CF ops D):∀(j b u:Nat),D j=true->(lr [] ops.toList)[j]?=some b->Nat.testBit b u=true->D u=true:=by
 intro j
 induction j using Nat.strongRecOn with
 |_ j ih=>
  intro b u hj hb hu
  obtain⟨o,ho,h⟩:=Va ops.toList [] j b (by simp) hb
  obtain⟨e,he,h1,h2⟩:=h u hu
  simp only[EG,bd]at h1
  have bI:e.on<j:=Nat.lt_of_succ_le (by simpa[Nat.blt]using h1.2)
  have hd:=hc j o hj (by simpa using ho) e he h1.1
  rcases h2 with rfl|h2
  ·exact hd
  ·have hlen:e.on<(lr [] ops.toList).length:=by
    have:=(List.getElem?_eq_some_iff.1 hb).1
    omega
   rw[List.getD_eq_getElem?_getD,List.getElem?_eq_getElem hlen]at h2
   exact ih e.on bI _ u hd (List.getElem?_eq_getElem hlen) h2
theorem Rg{ops:Array Oper}{D:Nat->Bool}(hc:CF ops D){k b u:Nat}{o:Oper}(ho:ops[k]?=some o)(hr:∀e∈o.after.toList,Region.binds .any e=true->D e.on=true)
  (hb:(lr [] ops.toList)[k]?=some b)(hu:Nat.testBit b u=true):D u=true:=by
 obtain⟨o',xe,h⟩:=Va ops.toList [] k b (by simp) hb
 simp only[List.length_nil,Nat.sub_zero,Array.getElem?_toList,ho,aH]at xe
 subst xe
 obtain⟨e,he,h1,h2⟩:=h u hu
 simp only[EG,bd]at h1
 have hd:=hr e he h1.1
 have bI:e.on<k:=Nat.lt_of_succ_le (by simpa[Nat.blt]using h1.2)
 rcases h2 with rfl|h2
 ·exact hd
 ·have hlen:e.on<(lr [] ops.toList).length:=by
   have:=(List.getElem?_eq_some_iff.1 hb).1
   omega
  rw[List.getD_eq_getElem?_getD,List.getElem?_eq_getElem hlen]at h2
  exact EI hc e.on _ u hd (List.getElem?_eq_getElem hlen) h2
def sA:List Bool->Nat
 | []=>0
 |true::l=>sA l
 |false::l=>sA l+1
theorem Lj:∀(l:List Bool) (i:Nat),l[i]?=some false->sA (l.set i true)+1=sA l
 | [],i,h=>by simp at h
 |b::l,0,h=>by simp at h;subst h;simp[sA]
 |true::l,i+1,h=>by simp only[List.set_cons_succ,sA];exact Lj l i (by simpa using h)
 |false::l,i+1,h=>by simp only[List.set_cons_succ,sA];rw[<-Lj l i (by simpa using h)]
theorem Vb:∀(l:List Bool),sA l=0->∀i,i<l.length->l[i]?=some true
 | [],_,i,h=>by simp at h
 |true::l,h,0,_=>rfl
 |true::l,h,i+1,hi=>by simpa using Vb l h i (by simpa using hi)
 |false::l,h,_,_=>by simp[sA]at h
theorem Rh:∀n,sA (List.replicate n false)=n
 |0=>rfl
 |n+1=>by simp[List.replicate_succ,sA,Rh n]
section
variable {B:dE} {d:Nat} {up:Nat->Nat->Value} {S:Nat->ai} {P:Program} {cx:Cx} {cC:mm} {bY dS:Nat} {R:Nat} {Q:Exit->Act->World->Prop} {ops:Array Oper} {nt:Nat} {ρ:List T}
variable {its:List Item} {s0 s1:St} {c0 c1:Nat}
def MD(c0:Nat)(its:List Item)(D:Nat->Bool)(j:Nat):Prop:=j<c0∨∃m it,its[m]?=some it∧D m=true∧it.lo<=j∧j<it.hi
def eL(ak:Array Bool)(j:Nat):Bool:=ak.getD j false
theorem Ri{ak:Array Bool}{i:Nat}(h:i<ak.size):eL (ak.setIfInBounds i true)=jM (eL ak) i:=by
 funext j
 unfold eL jM
 by_cases hj:j=i
 ·subst hj
  simp[Array.getD_eq_getD_getElem?,h]
 ·rw[if_neg hj,getD_set_ne _ (Ne.symm hj)]
theorem Vc(hc:fI (λi it s=>CE P ops Q B d up nt ρ i it.rd it.wr it.lo it.hi s) 0 s0 c0 its s1 c1)(hlen:its.length=ops.size)(dP:wC [] (its.map Item.tr) (lr [] ops.toList)=true)(uc:uG 0 ops.toList=true)
  (hQ:∀G a w,Rel (λi=>i<c1) B d up s1 ρ G a w->a.tmps.size=nt->Q .normal a w):
  ∀(xv:Nat) (ak:Array Bool) (a:Act) (w:World),ak.size=ops.size->sA ak.toList<=xv->CF ops (eL ak)->
   (∃G,Rel (MD c0 its (eL ak)) B d up (jL (eL ak) 0 s0 its) ρ G a w)->a.tmps.size=nt->wpAny P .any ops Q xv ak a w:=by
 have Lk:(lr [] ops.toList).length=ops.size:=by rw[Rf];simp
 have gone:∀(ak:Array Bool),ak.size=ops.size->Region.ready .any ops ak=[]->∀j,j<ops.size->eL ak j=true:=by
  intro ak hs hr j
  induction j using Nat.strongRecOn with
  |_ j ih=>
   intro hj
   cases hd:eL ak j with
   |true=>rfl
   |false=>
    exfalso
    have ho:ops[j]?=some ops[j]:=Array.getElem?_eq_getElem hj
    have:j∈Region.ready .any ops ak:=by
     rw[mem_ready]
     refine⟨?_,ops[j],ho,λe he hb=>?_⟩
     ·unfold eL at hd
      rw[Array.getD_eq_getD_getElem?]at hd⊢
      rw[Array.getElem?_eq_getElem (by omega)]at hd⊢
      simpa using hd
     ·have bI:=xu uc j ops[j] (by simp) e (by simpa using he) hb
      have bI:e.on<j:=by omega
      exact ih e.on bI (by omega)
    rw[hr]at this
    cases this
 have fin:∀(ak:Array Bool) (a:Act) (w:World),ak.size=ops.size->Region.ready .any ops ak=[]->(∃G,Rel (MD c0 its (eL ak)) B d up (jL (eL ak) 0 s0 its) ρ G a w)->a.tmps.size=nt->Q .normal a w:=by
  rintro ak a w hs hr ⟨G,iF⟩ mN
  have qB:=gone ak hs hr
  rw[hc.last λm hm=>by rw[Nat.zero_add];exact qB m (by omega)]at iF
  refine hQ G a w (iF.mono λj hj=>?_) mN
  rcases hj with h1|⟨m,it,hm,_,_,h3⟩
  ·exact Nat.lt_of_lt_of_le h1 hc.le
  ·exact Nat.lt_of_lt_of_le h3 (hc.get m it hm).2.2.2
 intro xv
 induction xv with
 |zero=>
  intro ak a w hs hf _ hr mN
  have h0:∀j,j<ops.size->eL ak j=true:=by
   intro j hj
   have:=Vb ak.toList (by omega) j (by simp;omega)
   unfold eL
   rw[Array.getD_eq_getD_getElem?,<-Array.getElem?_toList,this]
   rfl
  have HA:Region.ready .any ops ak=[]:=by
   cases hl:Region.ready .any ops ak with
   |nil=>rfl
   |cons j l=>
    exfalso
    have hm:j∈Region.ready .any ops ak:=by rw[hl];simp
    obtain⟨h1,o,ho,_⟩:=mem_ready.1 hm
    have hj:j<ops.size:=(Array.getElem?_eq_some_iff.1 ho).1
    have:=h0 j hj
    unfold eL at this
    rw[Array.getD_eq_getD_getElem?]at this h1
    rw[Array.getElem?_eq_getElem (by omega)]at this h1
    simp at this h1
    rw[this]at h1
    cases h1
  exact⟨HA,fin ak a w hs HA hr mN⟩
 |succ xv ih=>
  intro ak a w hs hf rJ hr mN
  refine⟨λHA=>fin ak a w hs HA hr mN,λk hk=>?_⟩
  obtain⟨Cd,o,ho,HB⟩:=mem_ready.1 hk
  obtain⟨G,iF⟩:=hr
  have AG:k<ops.size:=(Array.getElem?_eq_some_iff.1 ho).1
  have AH:k<ak.size:=by omega
  have nL:eL ak k=false:=by
   unfold eL
   rw[Array.getD_eq_getD_getElem?]at Cd⊢
   rw[Array.getElem?_eq_getElem AH]at Cd⊢
   simpa using Cd
  obtain⟨it,rT⟩:∃it,its[k]?=some it:=⟨its[k]'(by omega),List.getElem?_eq_getElem (by omega)⟩
  obtain⟨b,hb⟩:∃b,(lr [] ops.toList)[k]?=some b:=⟨_,List.getElem?_eq_getElem (by omega)⟩
  obtain⟨g1,g2,g3,g4⟩:=hc.get k it rT
  have xw:(its.map Item.tr)[k]?=some it.tr:=by rw[List.getElem?_map,rT];rfl
  have xy:∀e∈o.after.toList,Region.binds .any e=true->eL ak e.on=true:=λe he EJ=>HB e (by simpa using he) EJ
  have before:∀m' eo,its[m']?=some eo->m'<k->eL ak m'=false->zq eo.tr it.tr=true:=by
   intro m' eo hm bI hd
   rcases Lh dP k m' it.tr eo.tr b xw hb (by simpa using bI) (by rw[List.nil_append,List.getElem?_map,hm];rfl)with h1|h1
   ·rw[Rg rJ ho xy hb h1]at hd;cases hd
   ·exact h1
  have behind:∀m' eo,its[m']?=some eo->k<m'->eL ak m'=true->zq it.tr eo.tr=true:=by
   intro m' eo hm bI hd
   have hml:m'<ops.size:=by rw[<-hlen];exact(List.getElem?_eq_some_iff.1 hm).1
   obtain⟨b',lF⟩:∃b',(lr [] ops.toList)[m']?=some b':=⟨_,List.getElem?_eq_getElem (by omega)⟩
   rcases Lh dP m' k eo.tr it.tr b' (by rw[List.getElem?_map,hm];rfl) lF (by simpa using bI) (by rw[List.nil_append];exact xw)with h1|h1
   ·rw[EI rJ m' b' k hd lF h1]at nL;cases nL
   ·exact h1
  have oQ:∀r∈it.rd,(jL (eL ak) 0 s0 its).get r=(jL (λ_=>true) 0 s0 (its.take k)).get r:=by
   intro r hr
   refine EE rfl (by omega) (λm' eo hm bI hd=>?_) (λm' eo hm hle hd=>?_)
   ·rw[Nat.zero_add]at hd;exact(Hz (before m' eo hm bI hd)).1 r hr
   ·rw[Nat.zero_add]at hd
    by_cases he:m'=k
    ·subst he;rw[nL]at hd;cases hd
    ·exact(Hz (behind m' eo hm (by omega) hd)).2.2 r hr
  have s_:∀j,it.lo<=j->j<it.hi->¬MD c0 its (eL ak) j:=by
   rintro j h1 h2 (h3|⟨m,eo,hm,hd,h3,h4⟩)
   ·omega
   ·rcases Nat.lt_trichotomy m k with bI|heq|DP
    ·have:=hc.apart m k eo it hm rT bI;omega
    ·subst heq;rw[nL]at hd;cases hd
    ·have:=hc.apart k m it eo rT hm DP;omega
  rw[Nat.zero_add]at g1
  refine g1 (MD c0 its (eL ak)) (jL (eL ak) 0 s0 its) G a w _ oQ iF mN s_ λG' a' w' ij Ac=>?_
  have nc:=Ri (i:=k) AH
  refine ih (ak.setIfInBounds k true) a' w' (by simp[hs]) ?_ ?_ ?_ Ac
  ·have:=Lj ak.toList k (by
    unfold eL at nL
    rw[Array.getD_eq_getD_getElem?,<-Array.getElem?_toList]at nL
    rw[List.getElem?_eq_getElem (by simpa using AH)]at nL⊢
    simpa using nL)
   rw[Array.toList_setIfInBounds]
   omega
  ·rw[nc]
   intro j oj hj EK e he EJ
   unfold jM at hj⊢
   by_cases Ll:j=k
   ·subst Ll
    rw[ho]at EK
    cases EK
    by_cases ud:e.on=j
    ·simp[ud]
    ·rw[if_neg ud];exact xy e he EJ
   ·rw[if_neg Ll]at hj
    by_cases ud:e.on=k
    ·simp[ud]
    ·rw[if_neg ud];exact rJ j oj hj EK e he EJ
  ·refine⟨G',?_⟩
   rw[nc]
   refine(ij.mono ?_).congr λr=>?_
   ·rintro j (h1|⟨h1,h2⟩)
    ·rcases h1 with h1|⟨m,eo,hm,hd,h3⟩
     ·exact .inl h1
     ·exact .inr ⟨m,eo,hm,by unfold jM;split<;>simp_all,h3⟩
    ·exact .inr ⟨k,it,rT,by simp[jM],h1,h2⟩
   ·have:=ED (D:=eL ak) (i:=0) rT (by rw[Nat.zero_add];exact nL) (s:=s0) (λm' eo hm bI hd r=>by
     rw[Nat.zero_add]at hd
     rcases(Hz (behind m' eo hm bI hd)).2.1 r with h1|h1
     ·exact .inr h1
     ·exact .inl h1) r
    rw[Nat.zero_add]at this
    exact this.symm
end
section
variable {B:dE} {f:Fr} {S:Nat->ai} {P:Program} {cx:Cx} {cC:mm} {bY dS:Nat} {R:Nat} {Q:Exit->Act->World->Prop} {ops:Array Oper} {out:List T} {K0:Zb}
theorem EL(E:Env P cx S)(hn:∀o∈ops.toList,∀n,o.dst=some n->n<f.nt){fin:List Tr->KP}{K:List ai}:
  ∀(os:List Oper) (i:Nat) (tr:List Tr) (lv:Nat) (s:St) (ct:Ct) (fs:iQ) (p:PL) (ρ:List T),os <+:ops.toList.drop i->zx cx cC bY dS f.d ops true fin os i tr lv s ct fs=some p->
   p.den S R K ρ=some out->ρ.length=ct.a->cH fs ρ->∃its fK e s' ig p',its.length=os.length∧
    (∀e',fI (λi it s=>CE P ops Q B f.d f.up f.nt (ρ++e++e') i it.rd it.wr it.lo it.hi s) i s ct.i its s' fK.i)∧
    fin (tr++its.map Item.tr) lv s' fK ig=some p'∧p'.den S R K (ρ++e)=some out∧(ρ++e).length=fK.a∧cH ig (ρ++e)
 | [],i,tr,lv,s,ct,fs,p,ρ,_,h,hp,hl,hf=>by
  refine⟨[],ct,[],s,fs,p,rfl,λe'=>.nil,?_,by rw[List.append_nil];exact hp,by rw[List.append_nil];exact hl,by rw[List.append_nil];exact hf⟩
  rw[List.map_nil,List.append_nil];exact h
 |o::os,i,tr,lv,s,ct,fs,p,ρ,AE,h,hp,hl,hf=>by
  obtain⟨te,mK⟩:=AE
  have ho:ops[i]?=some o:=by
   rw[<-Array.getElem?_toList]
   have:=congrArg (·[0]?) mK.symm
   simpa using this
  have fi:=hn o (List.mem_of_mem_drop (i:=i) (by rw[<-mK];simp))
  have AF:os <+:ops.toList.drop (i+1):=⟨te,by rw[<-List.drop_drop,<-mK];rfl⟩
  rcases K8 (P:=P) (Q:=Q) (B:=B) (up:=f.up) (nt:=f.nt) (R:=R) (K:=K) (out:=out) E ho fi (show wD cx cC bY dS f.d ops true o i (zx cx cC bY dS f.d ops true fin os (i+1)) tr lv s ct fs=some p from h) hp hl hf with
   ⟨rd,wr,fK,e,ig,p',rT,hle,pR,qC,gx,Hx⟩|⟨hd,_⟩
  ·obtain⟨its,ct2,e2,s2,fs2,p2,q1,q2,q3,q4,q5,q6⟩:=EL E hn os (i+1) _ lv _ fK ig p' (ρ++e) AF pR qC gx Hx
   refine⟨⟨rd,wr,ct.i,fK.i⟩::its,ct2,e++e2,s2,fs2,p2,by simp[q1],λe'=>.cons ?_ rfl hle ?_,?_,by rw[<-List.append_assoc];exact q4,by rw[<-List.append_assoc];exact q5,by rw[<-List.append_assoc];exact q6⟩
   ·have:=rT (e2++e')
    simp only[List.append_assoc]at this⊢
    exact this
   ·have:=q2 e'
    simp only[List.append_assoc]at this⊢
    exact this
   ·simp only[List.map_cons,Item.tr]
    rw[List.append_assoc]at q3
    exact q3
  ·cases hd
theorem Rel.drew{M:Nat->Prop}{d:Nat}{up:Nat->Nat->Value}{s:St}{ρ:List T}{G:Gh}{a:Act}{w:World}(h:Rel M B d up s ρ G a w):Rel M B d up s ρ G a {w with drawn:=w.drawn+1}:=by
 have k:cJ (λ_=>False) (λ_=>False) G w G {w with drawn:=w.drawn+1}:=⟨Nat.le_refl _,λ_ _ h=>⟨h,rfl⟩,λ_ _ h=>h,λ_ _ h _=>⟨h,rfl⟩,λ_ _=>⟨rfl,λ_ _=>rfl⟩⟩
 exact⟨λe n he=>(h.tm e n he).aF k λ_ _ hf=>hf,λb=>(h.bx b).aF k (λhf=>hf) (λhf=>hf) λ_ _ hf=>hf,λi=>(h.ob i).aF k (λ_ hf=>hf) (λhf=>hf) λ_ _ hf=>hf,h.eY,h.key,h.fE,h.dn,
  ⟨h.base.os,h.base.tape,h.base.output,h.base.size,h.base.free,h.base.yz,h.base.gl⟩,h.bt⟩
theorem Vd(E:Env P cx S)(hI:xt P S R out B cC)(rO:P.follows .mixedOrders=true)(hn:∀o∈ops.toList,∀n,o.dst=some n->n<f.nt){id:Nat}{draw:Bool}{k:KP}(hk:u9 S R out B f K0 k (Q .normal))
  {lv:Nat}{s:St}{ct:Ct}{fs:iQ}{p:PL}{a:Act}{w:World}
  (h:zx cx cC bY dS f.d ops draw (λtr lv s ct fs=>bif draw then bif wC [] tr (lr [] ops.toList)&&uG 0 ops.toList then k lv s ct fs else some (.pI (bY*100000000+100000+id) [])else k lv s ct fs) ops.toList 0 [] lv s ct fs=some p)
  (aS:At S R out B f K0 XT p lv s ct fs a w):(Code.region id ops draw).wp P Q a w:=by
 cases draw with
 |false=>
  refine wp_region ?_
  rw[List.range_eq_range',<-Array.length_toList]
  exact EB E hI hn (fin:=λtr lv s ct fs=>k lv s ct fs) (λtr=>hk) ops.toList 0 [] lv s ct fs p a w rfl h aS
 |true=>
  refine wp_region_any rO ?_
  obtain⟨K,ρ,G,h1,h2,h3,⟨e0,h0⟩,h4,h5,h6,h7,_⟩:=aS
  obtain⟨its,fK,e,s',ig,p',q1,q2,q3,q4,q5,q6⟩:=EL (Q:=Q) (B:=B) E hn ops.toList 0 [] lv s ct fs p ρ (List.prefix_refl _) h h1 h4 h5
  simp only[List.nil_append,cond_true]at q3
  cases hc:(wC [] (its.map Item.tr) (lr [] ops.toList)&&uG 0 ops.toList)with
  |false=>
   rw[hc]at q3
   simp only[cond_false,aH]at q3
   subst q3
   cases q4
  |true=>
   rw[hc]at q3
   simp only[cond_true]at q3
   simp only[bd]at hc
   have HC:=q2 []
   rw[List.append_nil]at HC
   have cN:∀j,eL (Array.replicate ops.size false) j=false:=by
    intro j
    unfold eL
    rw[Array.getD_eq_getD_getElem?,Array.getElem?_replicate]
    split<;>rfl
   refine Vc (B:=B) HC (by rw[q1];simp) hc.1 hc.2 (λG a w hr hs=>hk lv s' fK ig p' a w q3 ⟨K,ρ++e,G,q4,h2,h3,⟨e0++e,by rw[h0,List.append_assoc]⟩,q5,q6,hr,hs,trivial⟩) ops.size _ a _ (by simp)
    (by rw[Array.toList_replicate,Rh];exact Nat.le_refl _) (λj o hj=>by rw[cN j]at hj;cases hj) ⟨G,?_⟩ h7
   rw[EC λm _=>cN _]
   exact(h6.ext.drew).mono λi hi=>.inl hi
end
def CG(Q:Exit->Act->World->Prop):Exit->Act->World->Prop:=λe=>match e with| .normal=>Q .normal|_=>λ_ _=>False
theorem Lm{n i:Nat}(h:i<=n):(sK n i).size=n:=by
 unfold sK;simp;omega
theorem AJ{n i:Nat}(h:i<=n)(j:Nat):eL (sK n i) j=decide (j<i):=by
 unfold eL sK
 rw[Array.getD_eq_getD_getElem?]
 simp only[List.getElem?_toArray]
 by_cases h1:j<i
 ·rw[List.getElem?_append_left (by simpa using h1)]
  simp[h1]
 ·rw[List.getElem?_append_right (by simp;omega)]
  simp only[List.length_replicate,List.getElem?_replicate]
  by_cases h2:j-i<n-i
  ·simp[h1,h2]
  ·simp[h1,h2]
theorem Ve{n i:Nat}(h:i<n):(sK n i).setIfInBounds i true=sK n (i+1):=by
 apply Array.ext
 ·rw[Array.size_setIfInBounds,Lm (by omega),Lm (by omega)]
 ·intro j h1 h2
  have e1:=AJ (n:=n) (i:=i) (by omega) j
  have e2:=AJ (n:=n) (i:=i+1) (by omega) j
  rw[Array.size_setIfInBounds]at h1
  rw[Array.getElem_setIfInBounds h1]
  unfold eL at e1 e2
  rw[Array.getD_eq_getD_getElem?,Array.getElem?_eq_getElem h1,Option.getD_some]at e1
  rw[Array.getD_eq_getD_getElem?,Array.getElem?_eq_getElem h2,Option.getD_some]at e2
  rw[e1,e2]
  split
  ·simp;omega
  ·by_cases h3:j<i
   ·simp[h3];omega
   ·simp[h3];omega
theorem Ln{l:Array Bool}{j:Nat}(h:j<l.size):l.getD j true=eL l j:=by
 unfold eL
 rw[Array.getD_eq_getD_getElem?,Array.getD_eq_getD_getElem?,Array.getElem?_eq_getElem h]
 rfl
theorem HD{ops:Array Oper}{l:Array Bool}(hs:l.size=ops.size){j:Nat}:j∈Region.ready .any ops l↔eL l j=false∧∃o,ops[j]?=some o∧∀e∈o.after.toList,Region.binds .any e=true->eL l e.on=true:=by
 rw[mem_ready]
 constructor
 ·rintro⟨h1,o,ho,h2⟩
  have hj:j<ops.size:=(Array.getElem?_eq_some_iff.1 ho).1
  exact⟨by rw[<-Ln (by omega)];exact h1,o,ho,λe he hb=>h2 e (by simpa using he) hb⟩
 ·rintro⟨h1,o,ho,h2⟩
  have hj:j<ops.size:=(Array.getElem?_eq_some_iff.1 ho).1
  exact⟨by rw[Ln (by omega)];exact h1,o,ho,λe he hb=>h2 e (by simpa using he) hb⟩
theorem Vf{ops:Array Oper}(uc:uG 0 ops.toList=true){i:Nat}(hi:i<=ops.size):CF ops (eL (sK ops.size i)):=by
 intro j o hj ho e he hb
 rw[AJ hi]at hj⊢
 have:=xu uc j o (by simpa using ho) e he hb
 simp only[decide_eq_true_eq]at hj⊢
 omega
structure AK (ops:Array Oper) (c:Nat) (h:Bool):Prop where
 lt:c<ops.size
 bits:∀j,c<=j->j<ops.size->∀u,u<j->(h=true∧u=0)∨Nat.testBit ((lr [] ops.toList).getD j 0) u=true
 Lp:h=true->Dp ops=true
 pos:h=true->0<c
theorem Vg{ops:Array Oper}{c:Nat}{h:Bool}(hc:zG ops c h=true):AK ops c h:=by
 unfold zG at hc
 simp only[bd,List.all_eq_true,Bool.or_eq_true,Bool.not_eq_true']at hc
 obtain⟨⟨h1,h2⟩,h3⟩:=hc
 have h1:c<ops.size:=Nat.lt_of_succ_le (by simpa[Nat.blt]using h1)
 refine⟨h1,λj hj hn u hu=>?_,λhh=>?_,λhh=>?_⟩
 ·have:=h2 j (by rw[List.mem_range'_1];omega) u (by simpa using hu)
  rcases this with h|h
  ·exact .inl ⟨h.1,cO h.2⟩
  ·exact .inr h
 ·rcases h3 with h3|h3
  ·rw[hh]at h3;cases h3
  ·exact h3.1
 ·rcases h3 with h3|h3
  ·rw[hh]at h3;cases h3
  ·exact Nat.lt_of_succ_le (by simpa[Nat.blt]using h3.2)
section
variable {B:dE} {f:Fr} {S:Nat->ai} {P:Program} {cx:Cx} {cC:mm} {bY dS:Nat} {R:Nat} {Q:Exit->Act->World->Prop} {ops:Array Oper} {out:List T} {K0:Zb}
theorem Lq{j:Nat}(hj:j<ops.size):(lr [] ops.toList)[j]?=some ((lr [] ops.toList).getD j 0):=by
 have hl:(lr [] ops.toList).length=ops.size:=by rw[Rf];simp
 rw[List.getD_eq_getElem?_getD,List.getElem?_eq_getElem (by omega)]
 rfl
theorem Vh{c:Nat}{h:Bool}(hc:AK ops c h)(uc:uG 0 ops.toList=true){i:Nat}(hi:c<=i)(hn:i<ops.size):Region.ready .any ops (sK ops.size i)=[i]:=by
 have hs:=Lm (n:=ops.size) (i:=i) (by omega)
 have il:∀j,j∈Region.ready .any ops (sK ops.size i)↔j=i:=by
  intro j
  rw[HD hs]
  constructor
  ·rintro⟨h1,o,ho,h2⟩
   have hj:j<ops.size:=(Array.getElem?_eq_some_iff.1 ho).1
   rw[AJ (by omega)]at h1
   simp only[decide_eq_false_iff_not]at h1
   refine Classical.byContradiction λcW=>?_
   rcases hc.bits j (by omega) hj i (by omega)with⟨hh,h0⟩|hb
   ·have:=hc.pos hh;omega
   ·have:=Rg (Vf uc (by omega)) ho h2 (Lq hj) hb
    rw[AJ (by omega)]at this
    simp at this
  ·rintro rfl
   refine⟨by rw[AJ (by omega)];simp,ops[j],Array.getElem?_eq_getElem hn,λe he hb=>?_⟩
   rw[AJ (by omega)]
   have:=xu uc j ops[j] (by simp) e he hb
   simp;omega
 have yQ:(Region.ready .any ops (sK ops.size i)).Nodup:=by
  unfold Region.ready
  exact List.Nodup.sublist List.filter_sublist List.nodup_range
 generalize Region.ready .any ops (sK ops.size i)=l at il yQ
 match l,il,yQ with
 | [],hm,_=>have:=(hm i).2 rfl;cases this
 | [x],hm,_=>rw[(hm x).1 (by simp)]
 |x::y::l,hm,hd=>
  have h1:=(hm x).1 (by simp)
  have h2:=(hm y).1 (by simp)
  rw[h1,h2]at hd
  simp at hd
theorem Lr{c:Nat}{h:Bool}(hc:AK ops c h)(uc:uG 0 ops.toList=true):∀(d i:Nat) (a:Act) (w:World),c<=i->i+d=ops.size->wpOps P ops Q (List.range' i d) a w->wpAny P .any ops Q d (sK ops.size i) a w
 |0,i,a,w,hi,hd,hw=>by
  refine wpAny_done ?_ hw 0
  refine List.eq_nil_iff_forall_not_mem.2 λj hj=>?_
  rw[HD (Lm (by omega))]at hj
  obtain⟨h1,o,ho,_⟩:=hj
  have:=(Array.getElem?_eq_some_iff.1 ho).1
  rw[AJ (by omega)]at h1
  simp at h1
  omega
 |d+1,i,a,w,hi,hd,hw=>by
  refine wpAny_all (Vh hc uc hi (by omega)) (by simp) λk hk=>?_
  rw[List.mem_singleton]at hk
  subst hk
  rw[List.range'_succ,wpOps_cons]at hw
  rw[Ve (by omega)]
  exact wpOp_mono (λa w h=>Lr hc uc d (k+1) a w (by omega) (by omega) h) hw
theorem Ls:∀{l:List Bool},(∀i,i<l.length->l[i]?=some true)->sA l=0
 | [],_=>rfl
 |b::l,h=>by
  have h0:=h 0 (by simp)
  simp at h0
  subst h0
  have:=Ls (l:=l) λi hi=>by have:=h (i+1) (by simp;omega);simpa using this
  simpa[sA]using this
theorem Lt{d:Nat}{up:Nat->Nat->Value}{nt:Nat}{ρ:List T}{its:List Item}{s0 s1:St}{c0 c1 c:Nat}(hc:fI (λi it s=>CE P ops Q B d up nt ρ i it.rd it.wr it.lo it.hi s) 0 s0 c0 its s1 c1)(hlen:its.length=c)(hcn:c<=ops.size)
  (dP:wC [] (its.map Item.tr) (lr [] ops.toList)=true){ak:Array Bool}{a:Act}{w:World}{k:Nat}(hs:ak.size=ops.size)(rJ:CF ops (eL ak))
  (hr:∃G,Rel (MD c0 its (eL ak)) B d up (jL (eL ak) 0 s0 its) ρ G a w)(mN:a.tmps.size=nt)(hk:k∈Region.ready .any ops ak)(hkc:k<c){K:Act->World->Prop}
  (hK:∀a' w',CF ops (eL (ak.setIfInBounds k true))->(∃G,Rel (MD c0 its (eL (ak.setIfInBounds k true))) B d up (jL (eL (ak.setIfInBounds k true)) 0 s0 its) ρ G a' w')->a'.tmps.size=nt->K a' w'):wpOp P ops Q k K a w:=by
 have Lk:(lr [] ops.toList).length=ops.size:=by rw[Rf];simp
 obtain⟨nL,o,ho,xy⟩:=(HD hs).1 hk
 obtain⟨G,iF⟩:=hr
 have AG:k<ops.size:=(Array.getElem?_eq_some_iff.1 ho).1
 have AH:k<ak.size:=by omega
 obtain⟨it,rT⟩:∃it,its[k]?=some it:=⟨its[k]'(by omega),List.getElem?_eq_getElem (by omega)⟩
 obtain⟨b,hb⟩:∃b,(lr [] ops.toList)[k]?=some b:=⟨_,List.getElem?_eq_getElem (by omega)⟩
 obtain⟨g1,g2,g3,g4⟩:=hc.get k it rT
 have xw:(its.map Item.tr)[k]?=some it.tr:=by rw[List.getElem?_map,rT];rfl
 have before:∀m' eo,its[m']?=some eo->m'<k->eL ak m'=false->zq eo.tr it.tr=true:=by
  intro m' eo hm bI hd
  rcases Lh dP k m' it.tr eo.tr b xw hb (by simpa using bI) (by rw[List.nil_append,List.getElem?_map,hm];rfl)with h1|h1
  ·rw[Rg rJ ho xy hb h1]at hd;cases hd
  ·exact h1
 have behind:∀m' eo,its[m']?=some eo->k<m'->eL ak m'=true->zq it.tr eo.tr=true:=by
  intro m' eo hm bI hd
  have hml:m'<ops.size:=by have:=(List.getElem?_eq_some_iff.1 hm).1;omega
  obtain⟨b',lF⟩:∃b',(lr [] ops.toList)[m']?=some b':=⟨_,List.getElem?_eq_getElem (by omega)⟩
  rcases Lh dP m' k eo.tr it.tr b' (by rw[List.getElem?_map,hm];rfl) lF (by simpa using bI) (by rw[List.nil_append];exact xw)with h1|h1
  ·rw[EI rJ m' b' k hd lF h1]at nL;cases nL
  ·exact h1
 have oQ:∀r∈it.rd,(jL (eL ak) 0 s0 its).get r=(jL (λ_=>true) 0 s0 (its.take k)).get r:=by
  intro r hr
  refine EE rfl (by omega) (λm' eo hm bI hd=>?_) (λm' eo hm hle hd=>?_)
  ·rw[Nat.zero_add]at hd;exact(Hz (before m' eo hm bI hd)).1 r hr
  ·rw[Nat.zero_add]at hd
   by_cases he:m'=k
   ·subst he;rw[nL]at hd;cases hd
   ·exact(Hz (behind m' eo hm (by omega) hd)).2.2 r hr
 have s_:∀j,it.lo<=j->j<it.hi->¬MD c0 its (eL ak) j:=by
  rintro j h1 h2 (h3|⟨m,eo,hm,hd,h3,h4⟩)
  ·omega
  ·rcases Nat.lt_trichotomy m k with bI|heq|DP
   ·have:=hc.apart m k eo it hm rT bI;omega
   ·subst heq;rw[nL]at hd;cases hd
   ·have:=hc.apart k m it eo rT hm DP;omega
 rw[Nat.zero_add]at g1
 refine g1 (MD c0 its (eL ak)) (jL (eL ak) 0 s0 its) G a w _ oQ iF mN s_ λG' a' w' ij Ac=>?_
 have nc:=Ri (i:=k) AH
 refine hK a' w' ?_ ?_ Ac
 ·rw[nc]
  intro j oj hj EK e he EJ
  unfold jM at hj⊢
  by_cases Ll:j=k
  ·subst Ll
   rw[ho]at EK
   cases EK
   by_cases ud:e.on=j
   ·simp[ud]
   ·rw[if_neg ud];exact xy e he EJ
  ·rw[if_neg Ll]at hj
   by_cases ud:e.on=k
   ·simp[ud]
   ·rw[if_neg ud];exact rJ j oj hj EK e he EJ
 ·refine⟨G',?_⟩
  rw[nc]
  refine(ij.mono ?_).congr λr=>?_
  ·rintro j (h1|⟨h1,h2⟩)
   ·rcases h1 with h1|⟨m,eo,hm,hd,h3⟩
    ·exact .inl h1
    ·exact .inr ⟨m,eo,hm,by unfold jM;split<;>simp_all,h3⟩
   ·exact .inr ⟨k,it,rT,by simp[jM],h1,h2⟩
  ·have:=ED (D:=eL ak) (i:=0) rT (by rw[Nat.zero_add];exact nL) (s:=s0) (λm' eo hm bI hd r=>by
    rw[Nat.zero_add]at hd
    rcases(Hz (behind m' eo hm bI hd)).2.1 r with h1|h1
    ·exact .inr h1
    ·exact .inl h1) r
   rw[Nat.zero_add]at this
   exact this.symm
theorem Vi{d:Nat}{up:Nat->Nat->Value}{nt:Nat}{ρ:List T}{its:List Item}{s0 s1:St}{c0 c1 c:Nat}{h:Bool}(ue:AK ops c h)(hc:fI (λi it s=>CE P ops Q B d up nt ρ i it.rd it.wr it.lo it.hi s) 0 s0 c0 its s1 c1)(hlen:its.length=c)
  (dP:wC [] (its.map Item.tr) (lr [] ops.toList)=true)(uc:uG 0 ops.toList=true)(hK:∀G a w,Rel (λi=>i<c1) B d up s1 ρ G a w->a.tmps.size=nt->wpAny P .any ops Q (ops.size-c) (sK ops.size c) a w):
  ∀(m:Nat) (ak:Array Bool) (a:Act) (w:World),ak.size=ops.size->sA (ak.toList.take c)=m->(∀j,c<=j->eL ak j=false)->(h=true->eL ak 0=true)->CF ops (eL ak)->
   (∃G,Rel (MD c0 its (eL ak)) B d up (jL (eL ak) 0 s0 its) ρ G a w)->a.tmps.size=nt->wpAny P .any ops Q (m+(ops.size-c)) ak a w:=by
 have hcn:=ue.lt
 have at_:∀(ak:Array Bool) (j:Nat),ak.size=ops.size->j<c->(ak.toList.take c)[j]?=some (eL ak j):=by
  intro ak j hs hj
  rw[List.getElem?_take_of_lt hj,Array.getElem?_toList]
  unfold eL
  rw[Array.getD_eq_getD_getElem?,Array.getElem?_eq_getElem (by omega)]
  rfl
 intro m
 induction m with
 |zero=>
  intro ak a w hs hf hz _ rJ hr mN
  have qB:∀j,j<c->eL ak j=true:=by
   intro j hj
   have:=Vb _ hf j (by simp;omega)
   rw[at_ ak j hs hj]at this
   simpa using this
  have hl:ak=sK ops.size c:=by
   apply Array.ext
   ·rw[hs,Lm (by omega)]
   ·intro j h1 h2
    have e2:=AJ (n:=ops.size) (i:=c) (by omega) j
    have e1:eL ak j=decide (j<c):=by
     by_cases hj:j<c
     ·rw[qB j hj];simp[hj]
     ·rw[hz j (by omega)];simp[hj]
    unfold eL at e1 e2
    rw[Array.getD_eq_getD_getElem?,Array.getElem?_eq_getElem h1,Option.getD_some]at e1
    rw[Array.getD_eq_getD_getElem?,Array.getElem?_eq_getElem h2,Option.getD_some]at e2
    rw[e1,e2]
  obtain⟨G,iF⟩:=hr
  rw[hc.last λm hm=>by rw[Nat.zero_add];exact qB m (by omega)]at iF
  rw[Nat.zero_add]
  have:=hK G a w (iF.mono λj hj=>by
   rcases hj with h1|⟨m,it,hm,_,_,h3⟩
   ·exact Nat.lt_of_lt_of_le h1 hc.le
   ·exact Nat.lt_of_lt_of_le h3 (hc.get m it hm).2.2.2) mN
  rw[hl]
  exact this
 |succ m ih=>
  intro ak a w hs hf hz hh rJ hr mN
  rw[show m+1+(ops.size-c)=(m+(ops.size-c))+1 by omega]
  refine⟨λHA=>?_,λk hk=>?_⟩
  ·exfalso
   have gone:∀j,j<ops.size->eL ak j=true:=by
    intro j
    induction j using Nat.strongRecOn with
    |_ j ihj=>
     intro hj
     cases hd:eL ak j with
     |true=>rfl
     |false=>
      exfalso
      have:j∈Region.ready .any ops ak:=(HD hs).2 ⟨hd,ops[j],Array.getElem?_eq_getElem hj,λe he hb=>by
       have bI:=xu uc j ops[j] (by simp) e he hb
       exact ihj e.on (by omega) (by omega)⟩
      rw[HA]at this
      cases this
   have:=gone c hcn
   rw[hz c (by omega)]at this
   cases this
  ·obtain⟨nL,o,ho,HB⟩:=(HD hs).1 hk
   have AG:k<ops.size:=(Array.getElem?_eq_some_iff.1 ho).1
   by_cases hkc:c<=k
   ·exfalso
    have:sA (ak.toList.take c)=0:=Ls λj hj=>by
     have hj:j<c:=by simp at hj;omega
     rw[at_ ak j hs hj]
     congr 1
     rcases ue.bits k hkc AG j (by omega)with⟨h1,rfl⟩|hb
     ·exact hh h1
     ·exact Rg rJ ho HB (Lq AG) hb
    omega
   ·refine Lt hc hlen (by omega) dP hs rJ hr mN hk (by omega) λa' w' EM ij EN=>?_
    have AH:k<ak.size:=by omega
    have nc:=Ri (i:=k) AH
    refine ih (ak.setIfInBounds k true) a' w' (by simp[hs]) ?_ (λj hj=>?_) (λh1=>?_) EM ij EN
    ·have:=Lj (ak.toList.take c) k (by rw[at_ ak k hs (by omega),nL])
     rw[Array.toList_setIfInBounds,List.take_set]
     omega
    ·rw[nc];unfold jM
     rw[if_neg (by omega)]
     exact hz j hj
    ·rw[nc];unfold jM
     split
     ·rfl
     ·exact hh h1
theorem Lu(E:Env P cx S)(hI:xt P S R out B cC)(rO:P.follows .mixedOrders=true)(hn:∀o∈ops.toList,∀n,o.dst=some n->n<f.nt){id:Nat}{draw:Bool}{k:KP}(hk:u9 S R out B f K0 k (Q .normal))
  {lv:Nat}{s:St}{ct:Ct}{fs:iQ}{p:PL}{a:Act}{w:World}(h:zH cx cC bY id f.d ops draw k lv s ct fs=some p)(aS:At S R out B f K0 XT p lv s ct fs a w):(Code.region id ops draw).wp P Q a w:=by
 unfold zH at h
 split at h
 ·exact Vd E hI rO hn hk h aS
 rename_i c hh Vj
 cases draw with
 |false=>cases Vj
 |true=>
 refine Code.wp_mono (Q:=CG Q) (λe a w h=>by cases e<;>first|exact h|exact h.elim) ?_
 refine wp_region_any rO ?_
 obtain⟨K,ρ,G,h1,h2,h3,⟨e0,h0⟩,h4,h5,h6,h7,_⟩:=aS
 obtain⟨its,fK,e,s',ig,p',q1,q2,q3,q4,q5,q6⟩:=EL (Q:=CG Q) (B:=B) E hn (ops.toList.take c) 0 [] lv s ct fs p ρ (List.take_prefix c _) h h1 h4 h5
 simp only[List.nil_append]at q3
 cases hc:(wC [] (its.map Item.tr) (lr [] ops.toList)&&(uG 0 ops.toList&&zG ops c hh))with
 |false=>
  rw[hc]at q3
  simp only[cond_false,aH]at q3
  subst q3
  cases q4
 |true=>
 rw[hc]at q3
 simp only[cond_true]at q3
 simp only[bd]at hc
 obtain⟨dP,uc,hcu⟩:=hc
 have ue:=Vg hcu
 have rJ:=ue.lt
 have HC:=q2 []
 rw[List.append_nil]at HC
 have hlen:its.length=c:=by rw[q1,List.length_take,Array.length_toList];omega
 have hK:∀G a w,Rel (λi=>i<fK.i) B f.d f.up s' (ρ++e) G a w->a.tmps.size=f.nt->wpAny P .any ops (CG Q) (ops.size-c) (sK ops.size c) a w:=λG a w hr hs=>by
  have:=EB (Q:=CG Q) (K0:=K0) E hI hn (fin:=λ_=>k) (λ_=>hk) (ops.toList.drop c) c [] lv s' fK ig p' a w rfl q3 ⟨K,ρ++e,G,q4,h2,h3,⟨e0++e,by rw[h0,List.append_assoc]⟩,q5,q6,hr,hs,trivial⟩
  rw[List.length_drop,Array.length_toList]at this
  exact Lr ue uc (ops.size-c) c a w (Nat.le_refl _) (by omega) this
 have main:=Vi ue HC hlen dP uc hK
 have cN:∀j,eL (Array.replicate ops.size false) j=false:=by
  intro j
  unfold eL
  rw[Array.getD_eq_getD_getElem?,Array.getElem?_replicate]
  split<;>rfl
 have Lv:CF ops (eL (Array.replicate ops.size false)):=λj o hj=>by rw[cN j]at hj;cases hj
 have iF:∃G,Rel (MD ct.i its (eL (Array.replicate ops.size false))) B f.d f.up (jL (eL (Array.replicate ops.size false)) 0 s its) (ρ++e) G a {w with drawn:=w.drawn+1}:=by
  refine⟨G,?_⟩
  rw[EC λm _=>cN _]
  exact(h6.ext.drew).mono λi hi=>.inl hi
 cases hh with
 |false=>
  have:=main c (Array.replicate ops.size false) a _ (by simp) (by rw[Array.toList_replicate,List.take_replicate,Rh];omega) (λj _=>cN j) (by simp) Lv iF h7
  rw[show c+(ops.size-c)=ops.size by omega]at this
  exact this
 |true=>
  have Ah:=ue.pos rfl
  have EO:=ue.Lp rfl
  unfold Dp at EO
  split at EO
  ·cases EO
  rename_i o os AE
  simp only[bd,List.all_eq_true,Option.isNone_iff_eq_none,Bool.or_eq_true,List.any_eq_true,Bool.not_eq_true']at EO
  obtain⟨⟨⟨⟨Vk,hgu⟩,q7⟩,haf⟩,hap⟩:=EO
  have Vl:ops[0]?=some o:=by rw[<-Array.getElem?_toList,AE];rfl
  obtain⟨x,hx⟩:∃x,o.op=.move x:=by
   revert q7
   cases o.op<;>intro q7<;>first|exact⟨_,rfl⟩|cases q7
  have da:∀w,(execOp a.eval o).run P w=.ok (.value (a.eval x)) w:=λw=>by unfold execOp;rw[hx];rfl
  have CH:Region.wanted o (yielded ops a.tmps)=true:=by unfold Region.wanted;rw[hgu]
  have xA:0∈Region.ready .any ops (Array.replicate ops.size false):=(HD (by simp)).2 ⟨cN 0,o,Vl,λe he hb=>by rw[haf e he]at hb;cases hb⟩
  have dh:wpOp P ops (CG Q) 0 (wpAny P .any ops (CG Q) (ops.size-1) ((Array.replicate ops.size false).setIfInBounds 0 true)) a {w with drawn:=w.drawn+1}:=by
   refine Lt HC hlen (by omega) dP (by simp) Lv iF h7 xA Ah λa' w' EM ij EN=>?_
   have nc:=Ri (ak:=Array.replicate ops.size false) (i:=0) (by simp;omega)
   have:=main (c-1) ((Array.replicate ops.size false).setIfInBounds 0 true) a' w' (by simp) ?_ (λj hj=>?_) (λ_=>?_) EM ij EN
   ·rw[show c-1+(ops.size-c)=ops.size-1 by omega]at this
    exact this
   ·have h9:=Lj (List.replicate c false) 0 (by rw[List.getElem?_replicate];simp;omega)
    rw[Rh]at h9
    rw[Array.toList_setIfInBounds,Array.toList_replicate,List.take_set,List.take_replicate,Nat.min_eq_left (by omega)]
    omega
   ·rw[nc];unfold jM
    rw[if_neg (by omega)]
    exact cN j
   ·rw[nc];simp[jM]
  have mu:wpAny P .any ops (CG Q) (ops.size-1) ((Array.replicate ops.size false).setIfInBounds 0 true) (a.put o.dst (a.eval x)) {w with drawn:=w.drawn+1}:=by
   unfold wpOp at dh
   simp only[Vl,CH,if_true]at dh
   rcases dh with dh|⟨_,a0,w0,hf⟩
   ·simp only[Oper.wp,da]at dh
    exact dh
   ·exact hf.elim
  have Lw:=wpAny_first (md:=.any) (Q:=CG Q) Vl (λj oj cs b hj heq=>by
    have hm:oj∈o::os:=by rw[<-AE];exact List.mem_of_getElem? (by rw[Array.getElem?_toList];exact hj)
    have:=Vk oj hm
    rw[heq]at this
    cases this) (λc a w h=>h.elim) (ops.size-1) (Array.replicate ops.size false) a {w with drawn:=w.drawn+1} (λj oj hj cW _ w6=>by
    have hm:oj∈os:=by
     have:ops.toList[j]?=some oj:=by rw[Array.getElem?_toList];exact hj
     rw[AE]at this
     obtain⟨j',rfl⟩:∃j',j=j'+1:=⟨j-1,by omega⟩
     exact List.mem_of_getElem? (by simpa using this)
    rcases hap oj hm with⟨e,he,hb⟩|hb
    ·exact absurd (cO hb.2) (w6 e (by simpa using he) hb.1)
    ·exact hb) xA (.inl ⟨CH,da⟩) mu
  rw[show ops.size-1+1=ops.size by omega]at Lw
  exact Lw
end
theorem EP:∀{p q:ma},Dh p q=true->p=q
 | [],[],_=>rfl
 |(x,w,j)::p,(x',w',j')::q,h=>by
  simp only[Dh,bd]at h
  obtain⟨⟨⟨h1,h2⟩,h3⟩,h4⟩:=h
  rw[Lf.beq_eq h1,cO h2,cO h3,EP h4]
 | [],_::_,h=>by simp[Dh]at h
 |_::_,[],h=>by simp[Dh]at h
theorem Ce.beq_eq{c e:Ce}(h:c.beq e=true):c=e:=by
 cases c<;>cases e<;>simp only[Ce.beq,bd]at h<;>try cases h
 ·rw[Lf.beq_eq h]
 ·rename_i h1 h2;rw[cO h1,EP h2]
 ·rfl
 ·rfl
theorem EQ:∀{cs es:List Ce},sJ cs es=true->cs=es
 | [],[],_=>rfl
 |c::cs,e::es,h=>by simp only[sJ,bd]at h;rw[Ce.beq_eq h.1,EQ h.2]
 | [],_::_,h=>by simp[sJ]at h
 |_::_,[],h=>by simp[sJ]at h
theorem Lx:∀{cs es:List Nat},uI cs es=true->cs=es
 | [],[],_=>rfl
 |c::cs,e::es,h=>by simp only[uI,bd]at h;rw[cO h.1,Lx h.2]
 | [],_::_,h=>by simp[uI]at h
 |_::_,[],h=>by simp[uI]at h
theorem Ly:∀{cs es:List (Bool×List Ce)},uJ cs es=true->cs=es
 | [],[],_=>rfl
 |(a,c)::cs,(b,e)::es,h=>by
  simp only[uJ,bd,beq_iff_eq]at h
  rw[h.1.1,EQ h.1.2,Ly h.2]
 | [],_::_,h=>by simp[uJ]at h
 |_::_,[],h=>by simp[uJ]at h
theorem SV.beq_eq{v u:SV}(h:v.beq u=true):v=.un∨v=u:=by
 cases v with
 |un=>exact .inl rfl
 |v a cs=>
  cases u with
  |v b es=>simp only[SV.beq,bd,beq_iff_eq]at h;rw[h.1,EQ h.2];exact .inr rfl
  |_=>simp[SV.beq]at h
 |pt b o=>
  cases u with
  |pt b o=>simp only[SV.beq,bd]at h;rw[cO h.1,cO h.2];exact .inr rfl
  |_=>simp[SV.beq]at h
 |ep i q x w o=>
  cases u with
  |ep i q x w o=>
   simp only[SV.beq,bd]at h
   obtain⟨⟨⟨⟨h1,h2⟩,h3⟩,h4⟩,h5⟩:=h
   rw[cO h1,EP h2,Lf.beq_eq h3,cO h4,cO h5];exact .inr rfl
  |_=>simp[SV.beq]at h
 |fp s x w o=>
  cases u with
  |fp s x w o=>
   simp only[SV.beq,bd]at h
   obtain⟨⟨⟨h1,h2⟩,h3⟩,h4⟩:=h
   rw[Lf.beq_eq h1,Lf.beq_eq h2,cO h3,cO h4];exact .inr rfl
  |_=>simp[SV.beq]at h
 |tp vs=>
  cases u with
  |tp us=>simp only[SV.beq]at h;rw[Ly h];exact .inr rfl
  |_=>simp[SV.beq]at h
 |cl f bs=>
  cases u with
  |cl f bs=>simp only[SV.beq,bd]at h;rw[cO h.1,Lx h.2];exact .inr rfl
  |_=>simp[SV.beq]at h
 |ob d x=>
  cases u with
  |ob d x=>simp only[SV.beq,bd,beq_iff_eq]at h;rw[h.1,Lf.beq_eq h.2];exact .inr rfl
  |_=>simp[SV.beq]at h
 |fz p x=>
  cases u with
  |fz q y=>
   simp only[SV.beq,bd]at h
   have e2:=Lf.beq_eq h.2
   subst e2
   have h1:=h.1
   cases p with
   |z=>
    cases q with
    |z=>exact .inr rfl
    |w=>simp[Pv.beq]at h1
   |w t x0 l=>
    cases q with
    |z=>simp[Pv.beq]at h1
    |w t' x0' l'=>
     simp only[Pv.beq,bd]at h1
     rw[cO h1.1.1,Lf.beq_eq h1.1.2,Lf.beq_eq h1.2];exact .inr rfl
  |_=>simp[SV.beq]at h
 |tk x m=>
  cases u with
  |tk y n=>simp only[SV.beq,bd]at h;rw[Lf.beq_eq h.1,Lf.beq_eq h.2];exact .inr rfl
  |_=>simp[SV.beq]at h
 |fl x=>
  cases u with
  |fl x=>simp only[SV.beq]at h;rw[Lf.beq_eq h];exact .inr rfl
  |_=>simp[SV.beq]at h
 |fr x=>
  cases u with
  |fr x=>simp only[SV.beq]at h;rw[Lf.beq_eq h];exact .inr rfl
  |_=>simp[SV.beq]at h
def u_(n:Nat)(ρ oa:List T):Prop:=∀m,m<n->ρ[m]?=oa[m]?
theorem uf{a b:Nat}(h:Nat.blt a b=true):a<b:=Nat.lt_of_succ_le (by simpa[Nat.blt]using h)
section
variable {G:Gh} {w:World} {ρ oa:List T} {n i:Nat}
theorem Lf.fq(ha:u_ n ρ oa){x:Lf}(h:x.ia n=true):x.eE ρ=x.eE oa:=by
 cases x with
 |k v=>rfl
 |a m=>exact ha m (uf h)
 |e=>rfl
theorem Rk(ha:u_ n ρ oa){x:Lf}(h:x.ia n=true):k_ ρ x=k_ oa x:=by unfold k_;rw[Lf.fq ha h]
theorem Lz(ha:u_ n ρ oa):∀{q:ma},uK n q=true->fm ρ q=fm oa q
 | [],_=>rfl
 |(x,w,j)::q,h=>by
  simp only[uK,bd]at h
  simp only[fm,Rk ha h.1,Lz ha h.2]
theorem LA(ha:u_ n ρ oa){id:Nat}{q:ma}(h:uK n q=true):jH ρ id q=jH oa id q:=by
 cases q with
 |nil=>rfl
 |cons x q=>simp only[jH];rw[Lz ha h]
theorem fb.qF(ha:u_ n ρ oa){c:Ce}{v:Value}(hb:c.ia n i=true)(h:fb G w ρ c v):fb G w oa c v:=by
 cases c with
 |p x=>obtain⟨t,h1,h2⟩:=h;exact⟨t,by rw[<-Lf.fq ha hb];exact h1,h2⟩
 |o id q=>
  simp only[Ce.ia,bd]at hb
  obtain⟨p,h1,h2⟩:=h
  exact⟨p,by rw[<-LA ha hb.2];exact h1,h2⟩
 |n=>exact h
 |d=>exact h
theorem aE.qF(ha:u_ n ρ oa):∀{cs:List Ce} {vs:List Value},wG n i cs=true->aE G w ρ cs vs->aE G w oa cs vs
 | [],[],_,_=>trivial
 |c::cs,v::vs,hb,h=>by
  simp only[wG,bd]at hb
  exact⟨h.1.qF ha hb.1,aE.qF ha hb.2 h.2⟩
 | [],_::_,_,h=>h.elim
 |_::_,[],_,h=>h.elim
theorem dW.qF(ha:u_ n ρ oa){ag:Bool}{cs:List Ce}{c:Value}(hb:wG n i cs=true)(h:dW G w ρ ag cs c):dW G w oa ag cs c:=by
 cases ag with
 |true=>obtain⟨vs,h1,h2⟩:=h;exact⟨vs,h1,h2.qF ha hb⟩
 |false=>
  obtain⟨x,rfl,h2,h3⟩:=h
  simp only[wG,Bool.and_true]at hb
  exact⟨x,rfl,h2.qF ha hb,h3⟩
theorem fo.qF(ha:u_ n ρ oa):∀{cs:List (Bool×List Ce)} {vs:List Value},uL n i cs=true->fo G w ρ cs vs->fo G w oa cs vs
 | [],[],_,_=>trivial
 |c::cs,v::vs,hb,h=>by
  simp only[uL,bd]at hb
  exact⟨h.1.qF ha hb.1,fo.qF ha hb.2 h.2⟩
 | [],_::_,_,h=>h.elim
 |_::_,[],_,h=>h.elim
theorem ca.qF(ha:u_ n ρ oa){v:SV}{c:Value}(hb:v.ia n i=true)(h:ca G w ρ v c):ca G w oa v c:=by
 cases v with
 |un=>trivial
 |v ag cs=>exact dW.qF ha hb h
 |pt b off=>exact h
 |ep id q ix wd off=>
  simp only[SV.ia,bd]at hb
  obtain⟨p,b,m,cap,j,h1,h2,h3,h4⟩:=h
  exact⟨p,b,m,cap,j,by rw[<-LA ha hb.1.2];exact h1,h2,by rw[<-Rk ha hb.2];exact h3,h4⟩
 |fp s ix wd off=>
  simp only[SV.ia,bd]at hb
  obtain⟨xs,j,r,b,base,h1,h2,h3⟩:=h
  exact⟨xs,j,r,b,base,by rw[<-Lf.fq ha hb.1];exact h1,by rw[<-Rk ha hb.2];exact h2,h3⟩
 |tp vs=>obtain⟨us,h1,h2⟩:=h;exact⟨us,h1,h2.qF ha hb⟩
 |cl f bs=>exact h
 |ob dp x=>exact h
 |fz pv x=>exact h
 |tk x m=>exact h
 |fl x=>exact h
 |fr x=>exact h
theorem eX.qF(ha:u_ n ρ oa){b:Nat}{v:SV}(hb:v.ia n i=true)(h:eX G w ρ b v):eX G w oa b v:=by
 cases v with
 |v ag cs=>obtain⟨h1,aN,elem,h2,h3⟩:=h;exact⟨h1,aN,elem,h2,h3.qF ha hb⟩
 |_=>exact h
theorem cb.qF(ha:u_ n ρ oa){b:Nat}{v:SV}(hb:v.ia n i=true)(h:cb G w ρ b v):cb G w oa b v:=by
 cases v with
 |ob dp x=>obtain⟨t,h1,h2⟩:=h;exact⟨t,by rw[<-Lf.fq ha hb];exact h1,h2⟩
 |fz pv x=>
  simp only[SV.ia,bd]at hb
  obtain⟨t,h1,h2,h3⟩:=h
  refine⟨t,by rw[<-Lf.fq ha hb.2];exact h1,h2,?_⟩
  have po:=hb.1
  cases pv with
  |z=>trivial
  |w tk x0 lo=>
   simp only[Pv.ia,bd]at po
   obtain⟨g0,F,n,zs,g1,g2,g3⟩:=h3
   exact⟨g0,F,n,zs,by rw[<-Lf.fq ha po.1.2];exact g1,by rw[<-Rk ha po.2];exact g2,g3⟩
 |tk x m=>
  simp only[SV.ia,bd]at hb
  obtain⟨h0,F,u,h1,h2,h3⟩:=h
  exact⟨h0,F,u,by rw[<-Lf.fq ha hb.1];exact h1,by rw[<-Lf.fq ha hb.2];exact h2,h3⟩
 |fl x=>obtain⟨h0,t,h1,h2⟩:=h;exact⟨h0,t,by rw[<-Lf.fq ha hb];exact h1,h2⟩
 |fr x=>obtain⟨h0,t,h1,h2⟩:=h;exact⟨h0,t,by rw[<-Lf.fq ha hb];exact h1,h2⟩
 |_=>exact h
theorem CI:∀{cs:List Ce},wG n i cs=true->∀j∈cT cs,j<i
 | [],_,j,hj=>by simp[cT]at hj
 |c::cs,h,j,hj=>by
  simp only[wG,bd]at h
  cases c with
  |o id q=>
   simp only[Ce.ia,bd]at h
   simp only[cT,List.mem_cons]at hj
   rcases hj with rfl|hj
   ·exact uf h.1.1
   ·exact CI h.2 j hj
  |p x=>exact CI h.2 j hj
  |n=>exact CI h.2 j hj
  |d=>exact CI h.2 j hj
theorem LB:∀{vs:List (Bool×List Ce)},uL n i vs=true->∀j∈qb vs,j<i
 | [],_,j,hj=>by simp[qb]at hj
 |v::vs,h,j,hj=>by
  simp only[uL,bd]at h
  simp only[qb,List.mem_append]at hj
  rcases hj with hj|hj
  ·exact CI h.1 j hj
  ·exact LB h.2 j hj
theorem SV.od{v:SV}(h:v.ia n i=true):∀j∈cD v,j<i:=by
 intro j hj
 cases v with
 |un=>simp[cD]at hj
 |v ag cs=>exact CI h j hj
 |pt b off=>simp[cD]at hj;subst hj;exact uf h
 |ep id q ix wd off=>simp[cD]at hj;subst hj;simp only[SV.ia,bd]at h;exact uf h.1.1
 |fp s ix wd off=>simp[cD]at hj
 |tp vs=>exact LB h j hj
 |cl f bs=>simp only[SV.ia,List.all_eq_true]at h;exact uf (h j (by simpa[cD]using hj))
 |ob dp x=>simp[cD]at hj
 |fz pv x=>
  cases pv with
  |z=>simp[cD]at hj
  |w tk x0 lo=>simp[cD]at hj;subst hj;simp only[SV.ia,Pv.ia,bd]at h;exact uf h.1.1.1
 |tk x m=>simp[cD]at hj
 |fl x=>simp[cD]at hj
 |fr x=>simp[cD]at hj
end
theorem LC{i0 i1:Nat}{all:mc}:∀{rn:mc},B9 i0 i1 all rn=true->∀j x,(j,x)∈rn->i0<=j∧j<i1∧∀id,x=some id->mo all id=some j
 | [],_,j,x,h=>by simp at h
 |(j0,x0)::rn,h,j,x,hm=>by
  simp only[B9,bd]at h
  obtain⟨⟨⟨⟨h1,h2⟩,_⟩,h3⟩,h4⟩:=h
  rcases List.mem_cons.1 hm with hm|hm
  ·cases hm
   refine⟨Nat.le_of_ble_eq_true h1,uf h2,λid he=>?_⟩
   subst he
   simp only[bd]at h3
   have h3:=h3.2
   split at h3
   ·rename_i k hk;rw[hk,cO h3]
   ·cases h3
  ·exact LC h4 j x hm
theorem LD{i0 i1:Nat}{all:mc}:∀{rn:mc},B9 i0 i1 all rn=true->∀j x,(j,x)∈rn->j%2=0
 | [],_,j,x,h=>by simp at h
 |(j0,x0)::rn,h,j,x,hm=>by
  simp only[B9,bd]at h
  obtain⟨⟨⟨⟨h1,h2⟩,h0⟩,h3⟩,h4⟩:=h
  rcases List.mem_cons.1 hm with hm|hm
  ·cases hm;exact cO h0
  ·exact LD h4 j x hm
theorem LF{i0 i1:Nat}{all:mc}:∀{rn:mc},B9 i0 i1 all rn=true->∀j id,(j,some id)∈rn->id%4≠2
 | [],_,j,x,h=>by simp at h
 |(j0,x0)::rn,h,j,id,hm=>by
  simp only[B9,bd]at h
  obtain⟨⟨⟨⟨h1,h2⟩,h0⟩,h3⟩,h4⟩:=h
  rcases List.mem_cons.1 hm with hm|hm
  ·cases hm
   simp only[bd,Bool.not_eq_true']at h3
   intro e
   have:=h3.1
   rw[e]at this
   cases this
  ·exact LF h4 j id hm
theorem LG{s:St}{a0 i0:Nat}{rn:mc}:∀{h:St},zE s a0 i0 rn h=true->∀r v,(r,v)∈h->v=.un∨(v=s.get r∧v.ia a0 i0=true∧(∀id,r=.o id->id<i0∧mo rn id=none)∧∀b,r=.x b->b<i0)
 | [],_,r,v,hm=>by simp at hm
 |(r0,v0)::h,hc,r,v,hm=>by
  simp only[zE,bd]at hc
  rcases List.mem_cons.1 hm with hm|hm
  ·obtain⟨rfl,rfl⟩:=Prod.mk.inj hm
   have vP:=hc.1
   rw[Bool.or_eq_true]at vP
   rcases vP with hu|h4
   ·cases v<;>first|exact .inl rfl|cases hu
   ·simp only[bd]at h4
    obtain⟨⟨h1,h2⟩,h3⟩:=h4
    rcases SV.beq_eq h1 with hu|he
    ·exact .inl hu
    ·refine .inr ⟨he,h2,λid he=>?_,λb he=>?_⟩
     ·subst he
      simp only[I7,bd]at h3
      refine⟨uf h3.1,?_⟩
      have h4:=h3.2
      split at h4
      ·rename_i hn;exact hn
      ·cases h4
     ·subst he;exact uf h3
  ·exact LG hc.2 r v hm
theorem ER{a0:Nat}{xs:List Lf}{n:Nat}{x:Lf}(h:mT a0 xs n x=true){nH ρ:List T}(hl:nH.length=a0):(nH++xs.map (Lf.ev ρ))[n]?=some (x.ev ρ):=by
 simp only[mT,bd]at h
 have h1:=Nat.le_of_ble_eq_true h.1
 have h2:=h.2
 split at h2
 ·rename_i y hy
  rw[List.getElem?_append_right (by omega),hl,List.getElem?_map,hy,Lf.beq_eq h2]
  rfl
 ·cases h2
theorem LH{s:St}{a0 i0:Nat}{xs:List Lf}{rn:mc}:∀{h:St},Dm s a0 i0 xs rn h=true->∀r v,(r,v)∈h->(∃j dp n,r=.o j∧v=.ob dp (.a n)∧
  ((∃id x,mI rn j=some (some id)∧s.get (.o id)=.ob dp x∧mT a0 xs n x=true)∨(mI rn j=some none∧mT a0 xs n .e=true)∨
   (∃x,mI rn j=none∧j<i0∧mo rn j=none∧s.get (.o j)=.ob dp x∧mT a0 xs n x=true)))∨
  ∃j x n m,r=.o j∧v=.tk x (.a n)∧j<i0∧mo rn j=none∧x.ia a0=true∧s.get (.o j)=.tk x m∧mT a0 xs n m=true
 | [],_,r,v,hm=>by simp at hm
 |(r0,v0)::h,hc,r,v,hm=>by
  have oI:Dm s a0 i0 xs rn h=true:=by
   unfold Dm at hc
   split at hc
   ·rename_i he;cases he
   ·rename_i j dp n ps he;cases he;simp only[bd]at hc;exact hc.2
   ·rename_i j x n ps he;cases he;rw[bd]at hc;exact hc.2
   ·cases hc
  rcases List.mem_cons.1 hm with hm|hm
  ·cases hm
   unfold Dm at hc
   split at hc
   ·rename_i he;cases he
   ·rename_i j dp n ps he
    cases he
    simp only[bd]at hc
    refine .inl ⟨j,dp,n,rfl,rfl,?_⟩
    have h1:=hc.1
    split at h1
    ·rename_i id iX
     simp only[bd]at h1
     have h2:=h1.2
     split at h2
     ·rename_i sk x hx
      simp only[bd,beq_iff_eq]at h2
      exact .inl ⟨id,x,iX,by rw[h2.1];exact hx,h2.2⟩
     ·cases h2
    ·rename_i iX
     simp only[bd]at h1
     exact .inr (.inl ⟨iX,h1.2⟩)
    ·rename_i iX
     simp only[bd]at h1
     obtain⟨⟨h2,h3⟩,h4⟩:=h1
     have HE:mo rn j=none:=by
      split at h3
      ·rename_i hn;exact hn
      ·cases h3
     split at h4
     ·rename_i sk x hx
      simp only[bd,beq_iff_eq]at h4
      exact .inr (.inr ⟨x,iX,uf h2,HE,by rw[h4.1];exact hx,h4.2⟩)
     ·cases h4
   ·rename_i j x n ps he
    cases he
    rw[bd]at hc
    have h1:=hc.1
    simp only[bd]at h1
    obtain⟨⟨⟨h2,h3⟩,h4⟩,h5⟩:=h1
    have HE:mo rn j=none:=by
     split at h3
     ·rename_i hn;exact hn
     ·cases h3
    split at h5
    ·rename_i y m hx
     simp only[bd]at h5
     exact .inr ⟨j,x,n,m,rfl,rfl,uf h2,HE,h4,by rw[Lf.beq_eq h5.1];exact hx,h5.2⟩
    ·cases h5
   ·cases hc
  ·exact LH oI r v hm
theorem LI{s:St}{a0 i0:Nat}{xs:List Lf}{rn:mc}:∀{h:St},Ha s a0 i0 xs rn h=true->∀r v,(r,v)∈h->∃ag hs cs,v=.v ag hs∧s.get r=.v ag cs∧wH s a0 i0 xs rn cs hs=true∧(∀j,r≠.o j)∧∀b,r=.x b->b<i0
 | [],_,r,v,hm=>by simp at hm
 |(r0,v0)::h,hc,r,v,hm=>by
  have oI:Ha s a0 i0 xs rn h=true:=by
   unfold Ha at hc
   split at hc
   ·rename_i he;cases he
   ·rename_i he;cases he;simp only[bd]at hc;exact hc.2
   ·cases hc
  rcases List.mem_cons.1 hm with hm|hm
  ·cases hm
   unfold Ha at hc
   split at hc
   ·rename_i he;cases he
   ·rename_i r' ag hs ps he
    cases he
    simp only[bd]at hc
    obtain⟨⟨h1,h2⟩,_⟩:=hc
    split at h2
    ·rename_i tR cs jy
     simp only[bd,beq_iff_eq]at h2
     refine⟨ag,hs,cs,rfl,by rw[h2.1];exact jy,h2.2,(λj he=>by subst he;cases h1),λb he=>by subst he;exact uf h1⟩
    ·cases h2
   ·cases hc
  ·exact LI oI r v hm
def Gh.fB(G:Gh)(i0:Nat)(rn:mc):Gh where
 ω:=λb=>match G.ω b with
  |some .f=>some .f
  |some (.x j)=>if j<i0 then some (.x j)else none
  |some (.o j p)=>match mo rn j with
   |some k=>some (.o k p)
   |none=>if j<i0 then some (.o j p)else none
  |none=>none
 β:=G.β
 H:=λj=>match mI rn j with
  |some (some id)=>G.H id
  |some none=>λ_=>.slice none 0 0
  |none=>G.H j
 hs:=λj p=>by
  rcases hr:mI rn j with _|(_|id)
  ·exact G.hs j p
  ·exact⟨_,_,_,rfl⟩
  ·exact G.hs _ p
section
variable {M:Nat->Prop} {B:dE} {d:Nat} {up:Nat->Nat->Value} {ρ:List T} {G:Gh} {a:Act} {w:World} {s:St}
def Gh.pT(G:Gh)(id tk:Nat):Gh where
 ω:=λb=>match G.ω b with
  |some (.o i p)=>if i=id then(match p with| []=>none|x::p=>some (.o tk (x::p)))else some (.o i p)
  |l=>l
 β:=G.β
 H:=λi=>if i=tk then G.H id else G.H i
 hs:=λi p=>by
  by_cases h:i=tk
  ·simp only[h,if_true];exact G.hs id p
  ·simp only[h,if_false];exact G.hs i p
theorem Vm{id tk:Nat}(ht:tk%4=2){I:Lb->Prop}(hI:∀p,I (.o id p)):cJ I (λi=>i=tk) G w (G.pT id tk) w:=by
 refine⟨Nat.le_refl _,λb _ hb=>⟨B' hb (λh0=>by simp[Gh.pT,h0]) λl hl hq=>?_,rfl⟩,λb _ hb=>by simp[Gh.pT,hb],λb l hl hn=>⟨?_,rfl⟩,λi hi=>⟨rfl,λp _=>by simp[Gh.pT,hi]⟩⟩
 ·cases l with
  |o i p=>
   simp only[Gh.pT,hl]
   split
   ·cases p with
    |nil=>exact .inl rfl
    |cons x p=>exact .inr ⟨_,rfl,Dv ht⟩
   ·exact .inr ⟨_,rfl,hq⟩
  |_=>simp[qt]at hq
 ·cases l with
  |o i p=>
   have:i≠id:=λe=>hn (e▸hI p)
   simp[Gh.pT,hl,this]
  |_=>simp[Gh.pT,hl]
theorem Rel.Vn(h:Rel M B d up s ρ G a w){id tk:Nat}{x:Lf}(hx:s.get (.o id)=.ob true x)(ht:tk%4=2)(hM:¬M tk){M':Nat->Prop}(vV:∀i,M i∨i=tk->M' i):
  ∃G',Rel M' B d up ((s.set (.o id) (.fz (.w tk x (.k (.int .i64 0))) x)).set (.o tk) (.tk x x)) ρ G' a w:=by
 have rP:M id:=h.key id (.inr (by rw[hx];simp))
 have cW:id≠tk:=λe=>hM (e▸rP)
 obtain⟨t,jY,aW⟩:=(by simpa only[hx]using h.ob id:cb G w ρ id (.ob true x))
 obtain⟨xs,rfl⟩:∃ys,t=.l ys:=by cases aW<;>exact⟨_,rfl⟩
 have lB:∀i j ys,cP xs i j=some (.l ys)->dx (G.pT id tk) w tk true [(i,j)] (.l ys):=by
  intro i j ys aS
  refine(aW.rows i j ys aS).move rfl (λb q hb=>⟨?_,rfl⟩) λq=>?_
  ·simp only[List.cons_append,List.nil_append]at hb⊢
   simp[Gh.pT,hb]
  ·simp[Gh.pT]
 have sZ:∀p,mU [(aK.o tk,SV.tk x x),(aK.o id,SV.fz (.w tk x (.k (.int .i64 0))) x)] (.o id p):=by
  intro p
  show St.look _ (aK.o id)≠none
  simp only[St.look]
  cases(aK.o tk).beq (.o id)<;>simp[(aK.beq_iff (r:=aK.o id)).2 rfl]
 have ES:(G.pT id tk).H id []=G.H id []:=by simp[Gh.pT,cW]
 refine⟨G.pT id tk,(h.J9 (M':=M') (N:=λi=>i=tk) (W:=[(.o tk,.tk x x),(.o id,.fz (.w tk x (.k (.int .i64 0))) x)]) (Vm ht sZ) (λi hi=>by subst hi;exact hM) (λi hi=>vV i (.inl hi)) (λr u hl=>?_) λb l hb=>?_).congr λr=>?_⟩
 ·rcases gJ hl with⟨e1,e2⟩|hl
  ·subst e1 e2
   refine⟨tk,rfl,⟨ht,xs,xs,jY,jY,rfl,λi r hr _=>⟨hr,λj ys hy=>lB i j ys (by simp[cP,hr,hy])⟩⟩,vV tk (.inr rfl),λi hi=>by simp[cD]at hi⟩
  ·rcases gJ hl with⟨e1,e2⟩|hl
   ·subst e1 e2
    refine⟨id,rfl,⟨.l xs,jY,?_,ht,xs,0,xs,jY,by simp[k_,Lf.eE,iY],rfl,λi r hr=>by rw[Nat.zero_add];exact hr,?_,λ_ b off k c hv=>?_⟩,vV id (.inl rP),λi hi=>by simp[cD]at hi;subst hi;exact vV _ (.inr rfl)⟩
    ·rw[ES]
     cases aW with
     |nil hH=>rw[hH];exact .nil
     | @l _ _ _ b wd cap aN elem fr cv g1 g2 g3 g4 g5 g6 g7 g8 g9 qU wQ=>
      rw[g1]
      refine .l (cv:=cv) g6 g2.1 (uN (by simp[Gh.pT,g3])) (Ca g4) (λi j t ht=>by rw[sq g4,Nat.zero_add];exact g7 i j t ht) λi j t iN=>?_
      cases t with
      |c v=>obtain⟨hv,hs⟩:=g8 i j v iN;rw[hv];exact .c hs
      |l ys=>
       have e:=qU i j ys iN rfl
       simp only[List.nil_append]at e
       rw[e]
       have:=(lB i j ys iN).Jc (.inl ht) rfl
       rwa[show(G.pT id tk).H tk=G.H id by simp[Gh.pT]]at this
    ·rw[ES]
     intro b off k c hv
     cases aW with
     |nil hH=>rw[hH]at hv;cases hv
     | @l _ _ _ b0 wd cap aN elem fr cv g1 g2 g3 g4 g5 g6 g7 g8 g9 qU wQ=>
      rw[g1]at hv
      cases hv
      refine⟨wd,g6,λi j ys aS=>?_⟩
      rw[sq g4,Nat.zero_add,g7 i j _ aS,qU i j ys aS rfl]
      simp[Gh.pT]
    ·rw[ES]at hv
     cases aW with
     |nil hH=>rw[hH]at hv;cases hv
     |l g1=>rw[g1]at hv;cases hv;rfl
   ·cases hl
 ·cases hg:G.ω b with
  |none=>simp[Gh.pT,hg]at hb
  |some l0=>
   have rK:=h.fE b l0 hg
   refine⟨?_,rK.2⟩
   cases l0 with
   |o i p=>
    simp only[Gh.pT,hg]at hb
    split at hb
    ·cases p with
     |nil=>cases hb
     |cons x p=>cases hb;exact vV tk (.inr rfl)
    ·cases hb;exact vV _ (.inl rK.1)
   |_=>simp[Gh.pT,hg]at hb;subst hb;exact vV _ (.inl rK.1)
 ·simp only[St.dV]
theorem Rel.gq:∀{js:List (Nat×Bool)} {cs:List Ce} {s:St} {ct:Ct} {G:Gh},Rel (λi=>i<ct.i) B d up s ρ G a w->
  (∃G',Rel (λi=>i<(Go.Proofs.YtbhplkilhknciaaC.gq s ct cs js).2.i) B d up (Go.Proofs.YtbhplkilhknciaaC.gq s ct cs js).1 ρ G' a w)∧(Go.Proofs.YtbhplkilhknciaaC.gq s ct cs js).2.a=ct.a∧ct.i<=(Go.Proofs.YtbhplkilhknciaaC.gq s ct cs js).2.i
 | [],cs,s,ct,G,h=>⟨⟨G,h⟩,rfl,Nat.le_refl _⟩
 |(j,b)::js,cs,s,ct,G,h=>by
  unfold Go.Proofs.YtbhplkilhknciaaC.gq
  split
  ·rename_i id _
   split
   ·rename_i x hx
    cases he:Nat.beq (id%2) 0 with
    |false=>exact Rel.gq h
    |true=>
     simp only[cond_true]
     have hle:=IZ ct.i
     obtain⟨G',h'⟩:=h.Vn hx (I0 ct.i) (by omega) (M':=λi=>i<mb ct.i+1) (λi hi=>by rcases hi with hi|hi<;>omega)
     obtain⟨g1,g2,g3⟩:=Rel.gq (js:=js) (cs:=cs) (ct:=⟨ct.a,mb ct.i+1⟩) h'
     exact⟨g1,g2,Nat.le_trans (by show ct.i<=mb ct.i+1;omega) g3⟩
   ·exact Rel.gq h
  ·exact Rel.gq h
theorem Rel.iS{d':Nat}:∀{js:Js} {s:St} {ct:Ct} {G:Gh},Rel (λi=>i<ct.i) B d up s ρ G a w->
  (∃G',Rel (λi=>i<(Go.Proofs.YtbhplkilhknciaaC.iS d' s ct js).2.i) B d up (Go.Proofs.YtbhplkilhknciaaC.iS d' s ct js).1 ρ G' a w)∧(Go.Proofs.YtbhplkilhknciaaC.iS d' s ct js).2.a=ct.a∧ct.i<=(Go.Proofs.YtbhplkilhknciaaC.iS d' s ct js).2.i
 | [],s,ct,G,h=>⟨⟨G,h⟩,rfl,Nat.le_refl _⟩
 |(n,bx,.rows rj)::l,s,ct,G,h=>by
  simp only[Go.Proofs.YtbhplkilhknciaaC.iS]
  obtain⟨⟨G',h'⟩,g2,g3⟩:=h.gq (js:=rj) (cs:=nK (s.get (wE d' s n bx)))
  obtain⟨f1,f2,f3⟩:=Rel.iS (d':=d') (js:=l) h'
  exact⟨f1,f2.trans g2,Nat.le_trans g3 f3⟩
 |(n,bx,.drop)::l,s,ct,G,h=>Rel.iS (js:=l) h
 |(n,bx,.aY _ _)::l,s,ct,G,h=>Rel.iS (js:=l) h
theorem Rel.xB:∀{l:List (Nat×Bool)} {s:St} {G:Gh},Rel M B d up s ρ G a w->∃G',Rel M B d up (B8 s l) ρ G' a w∧gh G G'
 | [],s,G,h=>⟨G,h,.refl _⟩
 |(id,all)::l,s,G,h=>by
  simp only[B8]
  split
  ·rename_i dp x hx
   cases all with
   |true=>obtain⟨G',h1,h2⟩:=Rel.xB (l:=l) (h.lj hx);exact⟨G',h1,(G.m_ id true).trans h2⟩
   |false=>obtain⟨G',h1,h2⟩:=Rel.xB (l:=l) (h.flat hx);exact⟨G',h1,(G.m_ id false).trans h2⟩
  ·exact Rel.xB (l:=l) h
theorem Rel.gd:∀{js:List (Nat×Bool)} {cs:List Ce} {s:St} {G:Gh},Rel M B d up s ρ G a w->∃G',Rel M B d up (Go.Proofs.YtbhplkilhknciaaC.gd s cs js) ρ G' a w
 | [],cs,s,G,h=>⟨G,h⟩
 |(j,all)::js,cs,s,G,h=>by
  simp only[Go.Proofs.YtbhplkilhknciaaC.gd]
  split
  ·split
   ·rename_i dp x hx
    cases all with
    |true=>exact Rel.gd (js:=js) (h.lj hx)
    |false=>exact Rel.gd (js:=js) (h.flat hx)
   ·exact Rel.gd (js:=js) h
  ·exact Rel.gd (js:=js) h
theorem Rel.iD{d':Nat}:∀{js:Js} {s:St} {G:Gh},Rel M B d up s ρ G a w->∃G',Rel M B d up (Go.Proofs.YtbhplkilhknciaaC.iD d' s js) ρ G' a w
 | [],s,G,h=>⟨G,h⟩
 |(n,bx,.rows js)::l,s,G,h=>by
  simp only[Go.Proofs.YtbhplkilhknciaaC.iD]
  obtain⟨G',h'⟩:=h.gd (js:=js) (cs:=nK (s.get (wE d' s n bx)))
  exact Rel.iD (js:=l) h'
 |(n,bx,.drop)::l,s,G,h=>Rel.iD (js:=l) h
 |(n,bx,.aY _ _)::l,s,G,h=>Rel.iD (js:=l) h
theorem LJ{a0 i0 i1:Nat}{xs:List Lf}{rn:mc}(hi:∀j x,mI rn j=some x->j<i1)(LK:i0<=i1):∀{cs hs:List Ce},wH s a0 i0 xs rn cs hs=true->∀j∈cT hs,j<i1
 | [],[],_,j,hj=>by simp[cT]at hj
 |c::cs,h::hs,hc,j,hj=>by
  simp only[wH,bd]at hc
  rw[uO]at hj
  rcases List.mem_append.1 hj with hj|hj
  ·have h1:=hc.1
   unfold Dl at h1
   rw[Bool.or_eq_true]at h1
   rcases h1 with h1|h1
   ·simp only[bd]at h1
    exact Nat.lt_of_lt_of_le (CI (n:=a0) (i:=i0) (by simp[wG,h1.2]) j hj) LK
   ·split at h1
    ·simp[cT]at hj
    ·simp[cT]at hj
    ·simp[cT]at hj
    ·simp only[bd]at h1
     have h2:=h1.2
     split at h2
     ·rename_i sx;simp[cT]at hj;subst hj;exact hi _ _ sx
     ·cases h2
    ·simp only[bd]at h1
     have h2:=h1.2
     split at h2
     ·rename_i sx;simp[cT]at hj;subst hj;exact hi _ _ sx
     ·cases h2
    ·simp[cT]at hj
    ·cases h1
  ·exact LJ hi LK hc.2 j hj
 | [],_::_,hc,_,_=>by simp[wH]at hc
 |_::_,[],hc,_,_=>by simp[wH]at hc
theorem LL{G':Gh}{a0 i0:Nat}{xs:List Lf}{rn:mc}{nH e:List T}(hr:Rel M B d up s (nH++e) G a w)(hl:nH.length=a0)(k:cJ (λl=>True) (λj=>¬j<i0) G w G' w)
  (hH:∀j x,mI rn j=some x->G'.H j=match x with|some id=>G.H id|none=>λ_=>.slice none 0 0):
  ∀{cs hs:List Ce} {vs:List Value},wH s a0 i0 xs rn cs hs=true->aE G w (nH++e) cs vs->aE G' w (nH++xs.map (Lf.ev (nH++e))) hs vs
 | [],[],[],_,_=>trivial
 |c::cs,h::hs,v::vs,hc,iF=>by
  simp only[wH,bd]at hc
  refine⟨?_,LL hr hl k hH hc.2 iF.2⟩
  have vd:u_ a0 (nH++e) (nH++xs.map (Lf.ev (nH++e))):=λm hm=>by
   rw[List.getElem?_append_left (by omega),List.getElem?_append_left (by omega)]
  have h1:=hc.1
  have pR:=iF.1
  clear hc iF
  unfold Dl at h1
  rw[Bool.or_eq_true]at h1
  rcases h1 with h1|h1
  ·simp only[bd]at h1
   have:=Ce.beq_eq h1.1
   subst this
   have hb:∀j∈cT [h],j<i0:=CI (n:=a0) (by simp[wG,h1.2])
   exact(pR.qF vd h1.2).aF k λj hj hn=>hn (hb j hj)
  ·split at h1
   ·rename_i n x
    obtain⟨t,ht,hd⟩:=pR
    exact⟨t,by rw[<-Lf.a_ ht];exact ER h1 hl,hd.aF k.size k.free⟩
   ·rename_i n
    have hv:v=.slice none 0 0:=pR
    subst hv
    exact⟨.l [],ER h1 hl,.nil⟩
   ·rename_i n id
    split at h1
    ·rename_i x hx
     have c_:=hr.ob id
     rw[hx]at c_
     obtain⟨t,ht,hd,_⟩:=c_
     obtain⟨p,hp,hv⟩:=pR
     simp only[lu,aH]at hp
     subst hp
     rw[hv]
     exact⟨t,by rw[<-Lf.a_ ht];exact ER h1 hl,hd.aF k.size k.free⟩
    ·cases h1
   ·rename_i j
    simp only[bd]at h1
    have h2:=h1.2
    split at h2
    ·rename_i sx
     have hv:v=.slice none 0 0:=pR
     subst hv
     exact⟨[],rfl,by rw[hH _ _ sx]⟩
    ·cases h2
   ·rename_i j id
    simp only[bd]at h1
    have h2:=h1.2
    split at h2
    ·rename_i sw sx
     have:=cO h2
     subst this
     obtain⟨p,hp,hv⟩:=pR
     simp only[lu,aH]at hp
     subst hp
     exact⟨[],rfl,by rw[hH _ _ sx];exact hv⟩
    ·cases h2
   ·exact pR.one
   ·cases h1
 | [],_::_,_,hc,_=>by simp[wH]at hc
 |_::_,[],_,hc,_=>by simp[wH]at hc
 | [],[],_::_,_,h=>h.elim
 |_::_,_::_,[],_,h=>h.elim
theorem LM{h:Head}{xs:List Lf}{d':Nat}{nH e:List T}(hm:Go.Proofs.YtbhplkilhknciaaC.fB d' h s=some xs)(hr:Rel M B d up s (nH++e) G a w)(hl:nH.length=h.c0.a)(ta:∀i b,B.bt i=some b->i<h.c0.i):
  (nH++xs.map (Lf.ev (nH++e))).length=h.ct.a∧∃G',Rel (λi=>i<h.ct.i) B d up h.st (nH++xs.map (Lf.ev (nH++e))) G' a w:=by
 unfold Go.Proofs.YtbhplkilhknciaaC.fB at hm
 simp only[bU]at hm
 obtain⟨⟨Rl,rn⟩,_,hm⟩:=hm
 obtain⟨G1,hr,_⟩:=hr.xB (l:=Dk d' h.s0 s h.js)
 generalize B8 s (Dk d' h.s0 s h.js)=s1 at hm hr
 cases hc:Dn h s1 Rl rn with
 |false=>simp[hc]at hm
 |true=>
  simp only[hc,cond_true,aH]at hm
  subst hm
  unfold Dn at hc
  simp only[bd]at hc
  obtain⟨⟨⟨⟨⟨⟨c1,c2⟩,c3⟩,c4⟩,c5⟩,c6⟩,c7⟩:=hc
  have hlen:=cO c1
  have yR:=Nat.le_of_ble_eq_true c3
  have Ah:=uf c2
  have xC:=LC c4
  refine⟨by rw[List.length_append,List.length_map,hl,hlen],G1.fB h.c0.i rn,?_⟩
  have vd:u_ h.c0.a (nH++e) (nH++Rl.map (Lf.ev (nH++e))):=λm hm=>by
   rw[List.getElem?_append_left (by omega),List.getElem?_append_left (by omega)]
  have tb:∀b,G1.ω b=none->(G1.fB h.c0.i rn).ω b=none:=λb hb=>by simp[Gh.fB,hb]
  have cN:∀b,G1.q b=none->(G1.fB h.c0.i rn).q b=none:=λb hb=>by
   refine B' hb (tb b) λl hl hq=>?_
   cases l with
   |o j p=>
    simp only[Gh.fB,hl]
    cases sx:mo rn j with
    |some k=>
     refine .inr ⟨.o k p,rfl,rp (LD c4 _ _ (Hu sx)) λe=>?_⟩
     subst e
     rw[zQ (LF c4 _ _ (Hu sx))]at hq
     cases hq
    |none=>
     by_cases hj:j<h.c0.i
     ·exact .inr ⟨.o j p,by simp[hj],hq⟩
     ·exact .inl (by simp[hj])
   |_=>simp[qt]at hq
  have lg:∀j,j<h.c0.i->(G1.fB h.c0.i rn).H j=G1.H j:=by
   intro j hj
   have:mI rn j=none:=by
    cases sx:mI rn j with
    |none=>rfl
    |some x=>have:=(xC j x (Hv sx)).1;omega
   simp[Gh.fB,this]
  have Vo:∀j x,mI rn j=some x->(G1.fB h.c0.i rn).H j=match x with|some id=>G1.H id|none=>λ_=>.slice none 0 0:=by
   intro j x hj
   show(match mI rn j with|some (some id)=>G1.H id|some none=>_|none=>G1.H j)=_
   rw[hj]
   cases x<;>rfl
  have kI:cJ (λl=>match l with| .f=>False| .x j=>¬j<h.c0.i| .o j _=>mo rn j≠none∨¬j<h.c0.i) (λj=>¬j<h.c0.i) G1 w (G1.fB h.c0.i rn) w:=by
   refine⟨Nat.le_refl _,λb _ hb=>⟨cN b hb,rfl⟩,λb _ hb=>tb b hb,λb l hb hl=>⟨?_,rfl⟩,λj hj=>⟨rfl,λp _=>by rw[lg j (Decidable.not_not.1 hj)]⟩⟩
   cases l with
   |f=>simp[Gh.fB,hb]
   |x j=>simp only[Gh.fB,hb];rw[if_pos (Decidable.not_not.1 hl)]
   |o j p=>
    have h1:mo rn j=none:=by
     cases sx:mo rn j with
     |none=>rfl
     |some k=>exact absurd (.inl (by rw[sx];simp)) hl
    have h2:j<h.c0.i:=Decidable.not_not.1 λhn=>hl (.inr hn)
    simp only[Gh.fB,hb,h1];rw[if_pos h2]
  have kT:=kI.mono (I':=λ_=>True) (λ_ _=>trivial) λ_ hn=>hn
  have aW:∀r v,(r,v)∈h.own->∃j,r=.o j∧j<h.ct.i∧cb (G1.fB h.c0.i rn) w (nH++Rl.map (Lf.ev (nH++e))) j v∧cD v=[]:=by
   intro r v hm
   rcases LH c6 r v hm with⟨j,dp,n,rfl,rfl,my⟩|⟨j,x,n,m,rfl,rfl,h1,h2,h3,h4,h5⟩
   case inr=>
    refine⟨j,rfl,by omega,?_,rfl⟩
    have c_:=hr.ob j
    rw[h4]at c_
    obtain⟨g0,F,u,g1,g2,g3,g4⟩:=c_
    refine⟨g0,F,u,by rw[<-Lf.fq vd h3];exact g1,by rw[<-Lf.a_ g2];exact ER h5 hl,g3,λi r hi cW=>⟨(g4 i r hi cW).1,λc ys hy=>((g4 i r hi cW).2 c ys hy).aF kI (λp hp=>?_) λhn=>hn h1⟩⟩
    rcases hp with hp|hp
    ·exact hp h2
    ·exact hp h1
   rcases my with⟨id,x,h1,h2,h3⟩|⟨h1,h3⟩|⟨x,h1,h2,h3,h4,h5⟩
   ·obtain⟨q1,q2,q3⟩:=xC j (some id) (Hv h1)
    refine⟨j,rfl,q2,?_,rfl⟩
    have c_:=hr.ob id
    rw[h2]at c_
    obtain⟨t,ht,ho⟩:=c_
    refine⟨t,by rw[<-Lf.a_ ht];exact ER h3 hl,?_⟩
    have pS:=q3 id rfl
    have fA:∀c p,G1.ω c=some (.o id p)->(G1.fB h.c0.i rn).ω c=some (.o j p):=λc p ue=>by simp[Gh.fB,ue,pS]
    have hHj:=Vo j _ h1
    cases dp with
    |true=>exact ho.move rfl (λc p ue=>⟨fA c p ue,rfl⟩) λp=>by rw[hHj]
    |false=>exact ho.oO (λc ue=>fA c [] ue) (by rw[hHj]) cN
   ·obtain⟨q1,q2,_⟩:=xC j none (Hv h1)
    exact⟨j,rfl,q2,⟨.l [],ER h3 hl,.nil (by rw[Vo j _ h1])⟩,rfl⟩
   ·refine⟨j,rfl,by omega,?_,rfl⟩
    have c_:=hr.ob j
    rw[h4]at c_
    obtain⟨t,ht,ho⟩:=c_
    refine⟨t,by rw[<-Lf.a_ ht];exact ER h5 hl,ho.aF kI (λp hp=>?_) λhn=>hn h2⟩
    rcases hp with hp|hp
    ·exact hp h3
    ·exact hp h2
  have iT:∀r v,(r,v)∈h.new->∃ag hs cs,v=.v ag hs∧s1.get r=.v ag cs∧(∀vs,aE G1 w (nH++e) cs vs->aE (G1.fB h.c0.i rn) w (nH++Rl.map (Lf.ev (nH++e))) hs vs)∧(∀j∈cD v,j<h.ct.i)∧(∀j,r≠.o j)∧∀b,r=.x b->b<h.c0.i:=by
   intro r v hm
   obtain⟨ag,hs,cs,rfl,h1,h2,h3,h4⟩:=LI c7 r v hm
   exact⟨ag,hs,cs,rfl,h1,λvs hv=>LL hr hl kT Vo h2 hv,λj hj=>LJ (i1:=h.ct.i) (λj x hj=>(xC j x (Hv hj)).2.1) yR h2 j hj,h3,h4⟩
  have cM:∀r,h.st.get r=.un∨(r,h.st.get r)∈h.kept∨(r,h.st.get r)∈h.own∨(r,h.st.get r)∈h.new:=by
   intro r
   rw[St.rq]
   cases QZ:h.st.look r with
   |none=>exact .inl rfl
   |some v=>
    have:=Aw QZ
    simp only[Head.st,List.mem_append]at this
    exact .inr (by simpa[or_assoc]using this)
  have rU:=LG c5
  refine⟨λx n hx=>?_,λb=>?_,λi=>?_,λr i hi=>?_,λi hi=>?_,λb l hb=>?_,hr.dn,?_,λi b hb=>⟨Nat.lt_of_lt_of_le (ta i b hb) yR,(hr.bt i b hb).2⟩⟩
  ·rcases cM (.t x n)with hu|hm|hm|hm
   ·rw[hu];trivial
   ·rcases rU _ _ hm with hu|⟨he,hb,_,_⟩
    ·rw[hu];trivial
    ·rw[he]
     rw[he]at hb
     exact((hr.tm x n hx).qF vd hb).aF kT λj hj hn=>hn (SV.od hb j hj)
   ·obtain⟨j,e1,_⟩:=aW _ _ hm;cases e1
   ·obtain⟨ag,hs,cs,e1,e2,e3,_⟩:=iT _ _ hm
    rw[e1]
    have:=hr.tm x n hx
    rw[e2]at this
    cases ag with
    |true=>obtain⟨vs,g1,g2⟩:=this;exact⟨vs,g1,e3 vs g2⟩
    |false=>
     obtain⟨c,rfl,g2,g3⟩:=this
     have:=e3 [nE up d a x n] ⟨g2,trivial⟩
     match hs,this with
     | [c'],this=>exact⟨c',rfl,this.1,g3⟩
  ·rcases cM (.x b)with hu|hm|hm|hm
   ·rw[hu];trivial
   ·rcases rU _ _ hm with hu|⟨he,hb,_,hxb⟩
    ·rw[hu];trivial
    ·rw[he]
     rw[he]at hb
     have bI:=hxb b rfl
     exact((hr.bx b).qF vd hb).aF kI (λhf=>hf bI) (λhn=>hn bI) λj hj hn=>hn (SV.od hb j hj)
   ·obtain⟨j,e1,_⟩:=aW _ _ hm;cases e1
   ·obtain⟨ag,hs,cs,e1,e2,e3,_,_,e4⟩:=iT _ _ hm
    rw[e1]
    have:=hr.bx b
    rw[e2]at this
    obtain⟨g1,aN,elem,g2,g3⟩:=this
    refine⟨?_,aN,elem,g2,e3 _ g3⟩
    show(G1.fB h.c0.i rn).ω (G1.β b)=_
    simp only[Gh.fB,g1]
    rw[if_pos (e4 b rfl)]
  ·rcases cM (.o i)with hu|hm|hm|hm
   ·rw[hu];trivial
   ·rcases rU _ _ hm with hu|⟨he,hb,hoi,_⟩
    ·rw[hu];trivial
    ·rw[he]
     rw[he]at hb
     obtain⟨q1,q2⟩:=hoi i rfl
     refine((hr.ob i).qF vd hb).aF kI (λp hp=>?_) (λhn=>hn q1) λj hj hn=>hn (SV.od hb j hj)
     rcases hp with hp|hp
     ·exact hp q2
     ·exact hp q1
   ·obtain⟨j,e1,_,e2,_⟩:=aW _ _ hm;cases e1;exact e2
   ·obtain⟨ag,hs,cs,e1,e2,e3,_,e4,_⟩:=iT _ _ hm;exact absurd rfl (e4 i)
  ·rcases cM r with hu|hm|hm|hm
   ·rw[hu]at hi;simp[cD]at hi
   ·rcases rU _ _ hm with hu|⟨he,hb,_,_⟩
    ·rw[hu]at hi;simp[cD]at hi
    ·exact Nat.lt_of_lt_of_le (SV.od hb i hi) yR
   ·obtain⟨j,_,_,_,e2⟩:=aW _ _ hm;rw[e2]at hi;cases hi
   ·obtain⟨ag,hs,cs,e1,e2,e3,e4,_⟩:=iT _ _ hm;exact e4 i hi
  ·have key:∀r:aK,(r=.x i∨r=.o i)->h.st.get r≠.un->i<h.ct.i:=by
    intro r LN cW
    rcases cM r with hu|hm|hm|hm
    ·exact absurd hu cW
    ·rcases rU _ _ hm with hu|⟨he,hb,g1,g2⟩
     ·exact absurd hu cW
     ·rcases LN with rfl|rfl
      ·exact Nat.lt_of_lt_of_le (g2 i rfl) yR
      ·exact Nat.lt_of_lt_of_le (g1 i rfl).1 yR
    ·obtain⟨j,e1,e2,_⟩:=aW _ _ hm
     rcases LN with rfl|rfl
     ·cases e1
     ·cases e1;exact e2
    ·obtain⟨ag,hs,cs,e1,e2,e3,_,e4,e5⟩:=iT _ _ hm
     rcases LN with rfl|rfl
     ·exact Nat.lt_of_lt_of_le (e5 i rfl) yR
     ·exact absurd rfl (e4 i)
   rcases hi with hi|hi
   ·exact key _ (.inl rfl) hi
   ·exact key _ (.inr rfl) hi
  ·cases qD:G1.ω b with
   |none=>simp[Gh.fB,qD]at hb
   |some l'=>
    have bI:=(hr.fE b l' qD).2
    refine⟨?_,bI⟩
    cases l' with
    |f=>simp[Gh.fB,qD]at hb;subst hb;exact Ah
    |x j=>
     simp only[Gh.fB,qD]at hb
     split at hb
     ·rename_i hj;cases hb;exact Nat.lt_of_lt_of_le hj yR
     ·cases hb
    |o j p=>
     simp only[Gh.fB,qD]at hb
     split at hb
     ·rename_i k hk
      cases hb
      exact(xC k _ (Hu hk)).2.1
     ·split at hb
      ·rename_i hj;cases hb;exact Nat.lt_of_lt_of_le hj yR
      ·cases hb
  ·obtain⟨b1,b2,b3,b4,b5,b6,b7⟩:=hr.base
   refine⟨b1,b2,b3,b4,λb hb h0=>⟨tb b (b5 b hb h0).1,(b5 b hb h0).2⟩,λb hb=>⟨by simp[Gh.fB,(b6 b hb).1],(b6 b hb).2⟩,b7⟩
end
def AL:Ex->Exit
 | .normal=>.normal
 | .exit id=>.exit id
 | .ret=>.ret
section
variable {B:dE} {f:Fr} {S:Nat->ai} {P:Program} {cx:Cx} {cC:mm} {bY dS:Nat} {R:Nat} {out:List T}
theorem u9.ext{Z Z':Zb}{k:KP}{Ψ:Act->World->Prop}(h:u9 S R out B f Z k Ψ)(hK:∃pre,Z'.K=pre++Z.K)(mg:∃e,Z'.ρ=Z.ρ++e):u9 S R out B f Z' k Ψ:=by
 rintro lv s ct fs p a w hk ⟨K,ρ,G,h1,h2,⟨pre,h3⟩,⟨e,h4⟩,h5⟩
 obtain⟨Vp,h6⟩:=hK
 obtain⟨e',h7⟩:=mg
 exact h lv s ct fs p a w hk ⟨K,ρ,G,h1,h2,⟨pre++Vp,by rw[h3,h6,List.append_assoc]⟩,⟨e'++e,by rw[h4,h7,List.append_assoc]⟩,h5⟩
theorem LO{K:List ai}{ρ:List T}{J:ai}{h:Head}{lv tag:Nat}{Ψ:Act->World->Prop}(hlv:K.length=lv)(hl:ρ.length=h.c0.a)(ta:∀i b,B.bt i=some b->i<h.c0.i)
  (hJ:∀ts a w G,J ts=some out->(ρ++ts).length=h.ct.a->Rel (λi=>i<h.ct.i) B f.d f.up h.st (ρ++ts) G a w->a.tmps.size=f.nt->Ψ a w):u9 S R out B f ⟨J::K,ρ⟩ (I8 f.d h lv tag) Ψ:=by
 rintro QO s' fK ig p a w hk ⟨K2,AM,G,h1,h2,⟨pre,h3⟩,⟨e,h4⟩,h5,h6,h7,h8,_⟩
 unfold I8 at hk
 split at hk
 ·rename_i xs hm
  cases hk
  simp only at h3 h4
  subst h4
  obtain⟨g1,G',g2⟩:=LM hm h7 hl ta
  simp only[PL.den]at h1
  have Vq:K2[QO-lv-1]?=some J:=by
   rw[h3]
   have:K2.length=pre.length+(K.length+1):=by rw[h3];simp
   rw[List.getElem?_append_right (by omega),show QO-lv-1-pre.length=0 by omega]
   rfl
  rw[Vq]at h1
  exact hJ _ a w G' h1 g1 g2 h8
 ·cases hk;cases h1
theorem ET{Z:Zb}{K0:KP}{h:Head}{lv:Nat}{fs:iQ}{k b:PL}{a:Act}{w:World}{s:St}{ct:Ct}{js:Js}{Ψ:Act->World->Prop}(hh:h=yx f.d s ct js)(hk:K0 lv h.st h.ct fs=some k)(hS:u9 S R out B f Z K0 Ψ)
  (aS:At S R out B f Z XT (.join k b) lv s ct fs a w):∃Z',(∃pre,Z'.K=pre++Z.K)∧(∃e,Z'.ρ=Z.ρ++e)∧At S R out B f Z' XT b (lv+1) s ct fs a w∧∀tag,u9 S R out B f Z' (I8 f.d h lv tag) Ψ:=by
 obtain⟨K,ρ,G,h1,h2,⟨pre,h3⟩,⟨e,h4⟩,h5,h6,h7,h8,_⟩:=aS
 simp only[PL.den]at h1
 have Jk:h.c0=ct:=by rw[hh];rfl
 refine⟨⟨(λts=>k.den S R K (ρ++ts))::K,ρ⟩,⟨_::pre,by simp[h3];rfl⟩,⟨e,h4⟩,⟨_,ρ,G,h1,by simp[h2],⟨[],rfl⟩,⟨[],by simp⟩,h5,h6,h7,h8,trivial⟩,λtag=>?_⟩
 refine LO h2 (by rw[Jk];exact h5) (λi b hb=>by rw[Jk];exact(h7.bt i b hb).1) λts a w G' hd hl hr hs=>?_
 exact hS lv h.st h.ct fs k a w hk ⟨K,ρ++ts,G',hd,h2,⟨pre,h3⟩,⟨e++ts,by rw[h4,List.append_assoc]⟩,hl,h6.ext,hr,hs,trivial⟩
theorem At.at{Z:Zb}{X:Gh->World->List T->Prop}{p:PL}{lv:Nat}{s:St}{ct:Ct}{fs:iQ}{a:Act}{w:World}(h:At S R out B f Z X p lv s ct fs a w):True:=trivial
theorem LP{Z:Zb}{c:Operand}{x y:Code}{tag lv:Nat}{s:St}{ct:Ct}{fs:iQ}{p:PL}{a:Act}{w:World}{Q:Exit->Act->World->Prop}{cx' cy':iQ->Option PL}
  (h:zI tag (bC f.d s.get c) cx' cy' s fs=some p)(aS:At S R out B f Z XT p lv s ct fs a w)(hx:∀fs p,cx' fs=some p->At S R out B f Z XT p lv s ct fs a w->x.wp P Q a w)
  (hy:∀fs p,cy' fs=some p->At S R out B f Z XT p lv s ct fs a w->y.wp P Q a w):(Code.cond c x y).wp P Q a w:=by
 obtain⟨K,ρ,G,h1,h2,h3,h4,h5,h6,h7,h8,_⟩:=aS
 have iF:=(yB h7 c).1
 unfold zI at h
 split at h
 ·rename_i b hd
  have hc:=AA hd iF h6
  refine wp_cond hc ?_
  cases b with
  |true=>exact hx fs p h ⟨K,ρ,G,h1,h2,h3,h4,h5,h6,h7,h8,trivial⟩
  |false=>exact hy fs p h ⟨K,ρ,G,h1,h2,h3,h4,h5,h6,h7,h8,trivial⟩
 ·rename_i n hd
  simp only[bU,aH]at h
  obtain⟨px,hpx,py,hpy,rfl⟩:=h
  obtain⟨b,hb,hp⟩:=Ez h1
  have hc:=AA (AC (b:=b) hd) iF (h6.cons hb)
  refine wp_cond hc ?_
  cases b with
  |true=>exact hx _ px hpx ⟨K,ρ,G,hp,h2,h3,h4,h5,h6.cons hb,h7,h8,trivial⟩
  |false=>exact hy _ py hpy ⟨K,ρ,G,hp,h2,h3,h4,h5,h6.cons hb,h7,h8,trivial⟩
 ·cases h;cases h1
 ·cases h;cases h1
theorem LQ(E:Env P cx S)(hI:xt P S R out B cC)(rO:P.follows .mixedOrders=true):∀(c:Code) (sL lv:Nat) (s:St) (ct:Ct) (fs:iQ) (KE:KE) (p:PL) (a:Act) (w:World) (Z:Zb) (Q:Exit->Act->World->Prop),
  tS f.nt c=true->comp cx cC bY f.d c sL lv s ct fs KE=some p->At S R out B f Z XT p lv s ct fs a w->(∀e,u9 S R out B f Z (KE e) (Q (AL e)))->c.wp P Q a w:=by
 intro c
 induction c with
 |skip=>intro sL lv s ct fs KE p a w Z Q _ h aS hK;exact wp_skip (hK .normal lv s ct fs p a w h aS)
 |label l=>intro sL lv s ct fs KE p a w Z Q _ h aS hK;exact wp_label (hK .normal lv s ct fs p a w h aS)
 |seq x y Rm Rn=>
  intro sL lv s ct fs KE p a w Z Q hd h aS hK
  simp only[tS,bd]at hd
  refine wp_seq (Rm 0 lv s ct fs _ p a w Z _ hd.1 h aS λe=>?_)
  cases e with
  |normal=>exactλlv s ct fs p a w hk aS=>Rn 0 lv s ct fs KE p a w Z Q hd.2 hk aS hK
  |exit id=>exact hK (.exit id)
  |ret=>exact hK .ret
 |region id ops draw=>
  intro sL lv s ct fs KE p a w Z Q hd h aS hK
  have hn:∀o∈ops.toList,∀n,o.dst=some n->n<f.nt:=by
   intro o ho n hn
   have:=List.all_eq_true.1 hd o ho
   rw[hn]at this
   exact uf this
  have Vr:∀p,At S R out B f Z XT p lv s ct fs a w->At S R out B f Z XT p lv (Dq cx bY f.d id s) ct fs a w:=by
   rintro p ⟨K,ρ,G,h1,h2,h3,h4,h5,h6,h7,h8,_⟩
   unfold Dq
   cases cx.pk bY 4 id with
   |none=>exact⟨K,ρ,G,h1,h2,h3,h4,h5,h6,h7,h8,trivial⟩
   |some js=>
    obtain⟨G',Vs⟩:=h7.iD (js:=js) (d':=f.d)
    exact⟨K,ρ,G',h1,h2,h3,h4,h5,h6,Vs,h8,trivial⟩
  have LR:∀(s0:St) p,At S R out B f Z XT p lv s0 ct fs a w->At S R out B f Z XT p lv (zJ cx bY f.d id s0 ct).1 (zJ cx bY f.d id s0 ct).2 fs a w:=by
   rintro s0 p ⟨K,ρ,G,h1,h2,h3,h4,h5,h6,h7,h8,_⟩
   unfold zJ
   cases cx.pk bY 5 id with
   |none=>exact⟨K,ρ,G,h1,h2,h3,h4,h5,h6,h7,h8,trivial⟩
   |some js=>
    obtain⟨⟨G',Vs⟩,g2,_⟩:=h7.iS (js:=js) (d':=f.d)
    exact⟨K,ρ,G',h1,h2,h3,h4,h5.trans g2.symm,h6,Vs,h8,trivial⟩
  have j4:=LR _ p (Vr p aS)
  simp only[comp]at h
  split at h
  ·exact Lu E hI rO hn (hK .normal) h j4
  ·rename_i js hj
   simp only[bU,aH]at h
   obtain⟨k,hk,b,hb,rfl⟩:=h
   obtain⟨Z',z1,z2,s7,hS⟩:=ET rfl hk (hK .normal) j4
   exact Lu E hI rO hn (hS _) hb s7
 |cond c x y Rm Rn=>
  intro sL lv s ct fs KE p a w Z Q hd h aS hK
  simp only[tS,bd]at hd
  simp only[comp]at h
  split at h
  ·exact LP h aS (λfs p hp aS=>Rm 0 lv s ct fs KE p a w Z Q hd.1 hp aS hK) (λfs p hp aS=>Rn 0 lv s ct fs KE p a w Z Q hd.2 hp aS hK)
  ·rename_i js hj
   simp only[bU,aH]at h
   obtain⟨k,hk,b,hb,rfl⟩:=h
   obtain⟨Z',z1,z2,s7,hS⟩:=ET rfl hk (hK .normal) aS
   have hKE:∀tag e,u9 S R out B f Z' (wI f.d (yx f.d s ct js) lv tag KE e) (Q (AL e)):=by
    intro tag e
    cases e with
    |normal=>exact hS tag
    |exit id=>exact(hK (.exit id)).ext z1 z2
    |ret=>exact(hK .ret).ext z1 z2
   exact LP hb s7 (λfs p hp aS=>Rm 0 (lv+1) s ct fs _ p a w Z' Q hd.1 hp aS (hKE _)) (λfs p hp aS=>Rn 0 (lv+1) s ct fs _ p a w Z' Q hd.2 hp aS (hKE _))
 |block id body ih=>
  intro sL lv s ct fs KE p a w Z Q hd h aS hK
  have ug:∀(Z:Zb) (Vt:Go.Proofs.YtbhplkilhknciaaC.KE),(∀e,u9 S R out B f Z (Vt e) (Q (AL e)))->∀e,u9 S R out B f Z (zF id Vt e) (Exit.inBlock id Q (AL e)):=by
   intro Z Vt hK e
   cases e with
   |normal=>exact hK .normal
   |ret=>exact hK .ret
   |exit i=>
    intro lv s ct fs p a w hk aS
    simp only[zF]at hk
    show(if i=id then Q .normal a w else Q (.exit i) a w)
    cases hb:Nat.beq i id with
    |true=>
     rw[hb]at hk
     rw[if_pos (cO hb)]
     exact hK .normal lv s ct fs p a w hk aS
    |false=>
     rw[hb]at hk
     rw[if_neg (λe=>by subst e;simp at hb)]
     exact hK (.exit i) lv s ct fs p a w hk aS
  simp only[comp]at h
  split at h
  ·exact wp_block (ih id lv s ct fs _ p a w Z _ hd h aS (ug Z KE hK))
  ·rename_i js hj
   simp only[bU,aH]at h
   obtain⟨k,hk,b,hb,rfl⟩:=h
   obtain⟨Z',z1,z2,s7,hS⟩:=ET rfl hk (hK .normal) aS
   refine wp_block (ih id (lv+1) s ct fs _ b a w Z' _ hd hb s7 (ug Z' _ λe=>?_))
   cases e with
   |normal=>exact hS _
   |exit id=>exact(hK (.exit id)).ext z1 z2
   |ret=>exact(hK .ret).ext z1 z2
 |loop body ih=>
  intro sL lv s ct fs KE p a w Z Q hd h aS hK
  simp only[comp]at h
  split at h
  ·cases h;obtain⟨K,ρ,G,h1,_⟩:=aS;cases h1
  ·rename_i js hj
   split at h
   ·cases h;obtain⟨K,ρ,G,h1,_⟩:=aS;cases h1
   ·rename_i xs hm
    simp only[bU,aH]at h
    obtain⟨b,hb,rfl⟩:=h
    obtain⟨K,ρ,G,h1,h2,⟨pre,h3⟩,⟨e,h4⟩,h5,h6,h7,h8,_⟩:=aS
    have ta:∀i b,B.bt i=some b->i<(yx f.d s ct js).c0.i:=λi b hb=>(h7.bt i b hb).1
    have key:∀(n:Nat) (ts:List T) (a:Act) (w:World) (G:Gh),iter (λself ts=>b.den S R (self::K) (ρ++ts)) n ts=some out->(ρ++ts).length=(yx f.d s ct js).ct.a->
      Rel (λi=>i<(yx f.d s ct js).ct.i) B f.d f.up (yx f.d s ct js).st (ρ++ts) G a w->a.tmps.size=f.nt->Code.rounds P body Q n a w:=by
     intro n
     induction n with
     |zero=>intro ts a w G hi;cases hi
     |succ n Vu=>
      intro ts a w G hi hl hr hs
      rw[rounds_succ]
      refine ih 0 (lv+1) _ _ fs _ b a w ⟨iter (λself ts=>b.den S R (self::K) (ρ++ts)) n::K,ρ⟩ _ hd hb ⟨_,ρ++ts,G,hi,by simp[h2],⟨[],rfl⟩,⟨ts,rfl⟩,hl,h6.ext,hr,hs,trivial⟩ λe'=>?_
      cases e' with
      |normal=>exact LO h2 h5 ta λts a w G hJ hl hr hs=>Vu ts a w G hJ hl hr hs
      |exit id=>exact(hK (.exit id)).ext ⟨_::pre,by simp[h3];rfl⟩ ⟨e,h4⟩
      |ret=>exact(hK .ret).ext ⟨_::pre,by simp[h3];rfl⟩ ⟨e,h4⟩
    simp only[PL.den]at h1
    obtain⟨g1,G',g2⟩:=LM (e:=[]) hm (by rw[List.append_nil];exact h7) h5 ta
    rw[List.append_nil]at g1 g2
    exact wp_loop_rounds R (key R _ a w G' h1 g1 g2 h8)
 |exit id=>intro sL lv s ct fs KE p a w Z Q _ h aS hK;exact wp_exit (hK (.exit id) lv s ct fs p a w h aS)
 |ret=>intro sL lv s ct fs KE p a w Z Q _ h aS hK;exact wp_ret (hK .ret lv s ct fs p a w h aS)
 |_=>intros;rename_i h aS _;simp only[comp,aH]at h;subst h;obtain⟨K,ρ,G,h1,_⟩:=aS;cases h1
end
section
variable {M:Nat->Prop} {B:dE} {d:Nat} {up:Nat->Nat->Value} {ρ:List T} {G:Gh} {a:Act} {w:World} {s:St} {S:Nat->ai} {P:Program} {cx:Cx} {R:Nat} {out:List T}
theorem Vv{t:Nat}{ti:TI}(hT:rv P t ti){b off:Nat}{vs:List Value}(hl:vs.length=ti.sz)(hc:∀j v,vs[j]?=some v->w.cell? ⟨b,off+j,none⟩=some v):
  (loadVar t ⟨b,off,none⟩).run P w=.ok (if ti.ag then .agg vs.toArray else vs.getD 0 undef) w:=by
 have:=Jj (P:=P) hT hl hc
 simpa[Instr.loadAt,Instr.sureAddr]using this
def ve(tmps:Array Value):ResultVar->Sem Value
 | .tmp t=>pure (tmps.getD t undef)
 | .cell a t=>do loadVar t (<-asAddr (tmps.getD a undef))
theorem AO(cQ:dg P cx)(hr:Rel M B d up s ρ G a w):∀{Ro:List ResultVar} {rs:List SV},Go.Proofs.YtbhplkilhknciaaC.results cx d s Ro=some rs->
  ∃us:List Value,(Ro.mapM (ve a.tmps)).run P w=.ok us w∧cA G w ρ rs us∧∀v∈rs,∀i∈cD v,M i
 | [],rs,h=>by
  simp[Go.Proofs.YtbhplkilhknciaaC.results]at h
  subst h
  exact⟨[],rfl,trivial,λv hv=>by cases hv⟩
 | .tmp t::Ro,rs,h=>by
  simp only[Go.Proofs.YtbhplkilhknciaaC.results,bU,aH]at h
  obtain⟨vs,nM,rfl⟩:=h
  obtain⟨us,g1,g2,g3⟩:=AO cQ hr nM
  have ht:=hr.tm d t (Nat.le_refl _)
  simp only[nE,if_true]at ht
  refine⟨a.tmps.getD t undef::us,?_,⟨ht,g2⟩,λv hv=>?_⟩
  ·rw[List.mapM_cons,Sem.run_bind]
   simp only[ve,Sem.run_pure,Result.andThen_ok,Sem.run_bind,g1]
  ·rcases List.mem_cons.1 hv with rfl|hv
   ·exact hr.eY _
   ·exact g3 v hv
 | .cell ad t::Ro,rs,h=>by
  simp only[Go.Proofs.YtbhplkilhknciaaC.results,bU]at h
  obtain⟨ti,eh,h⟩:=h
  have ht:=hr.tm d ad (Nat.le_refl _)
  simp only[nE,if_true]at ht
  split at h
  ·rename_i bx off hpt
   split at h
   ·rename_i ag cs sr
    cases hb:Nat.ble (off+ti.sz) cs.length with
    |false=>simp[hb]at h
    |true=>
     simp only[hb,cond_true,bU,aH]at h
     obtain⟨vs,nM,rfl⟩:=h
     obtain⟨us,g1,g2,g3⟩:=AO cQ hr nM
     rw[hpt]at ht
     have oN:=hr.bx bx
     rw[sr]at oN
     obtain⟨_,aN,elem,hh,jy⟩:=oN
     have hle:=Nat.le_of_ble_eq_true hb
     have hlen:=jy.length
     simp only[Array.length_toList]at hlen
     have hT:=cQ.ty _ _ eh
     have nF:=aE.take ti.sz (aE.drop off jy)
     have mX:((aN.toList.drop off).take ti.sz).length=ti.sz:=by simp;omega
     have da:=Vv (P:=P) (w:=w) (b:=G.β bx) (off:=off) hT mX (λj v hj=>by
      rw[sq hh]
      have bI:=(List.getElem?_eq_some_iff.1 hj).1
      rw[List.getElem?_take,if_pos (by omega),List.getElem?_drop]at hj
      simpa using hj)
     refine⟨_::us,?_,⟨Jl hT nF mX,g2⟩,λv hv=>?_⟩
     ·rw[List.mapM_cons,Sem.run_bind]
      simp only[ve,Sem.run_bind]
      rw[show a.tmps.getD ad undef=.pointer (some ⟨G.β bx,off,none⟩) from ht]
      simp only[asAddr,Sem.run_pure,Result.andThen_ok,da,g1]
     ·rcases List.mem_cons.1 hv with rfl|hv
      ·intro i hi
       have hm:=hr.eY (.x bx)
       rw[sr]at hm
       exact hm i (DB _ _ i (DC _ _ i hi))
      ·exact g3 v hv
   ·cases h
  ·cases h
theorem LS{fn:Func}{us:List Value}(h:(fn.results.toList.mapM (ve a.tmps)).run P w=.ok us w):(Go.results fn a.tmps).run P w=.ok (mC us) w:=by
 have h2:(fn.results.mapM (ve a.tmps)).run P w=.ok us.toArray w:=by
  rw[Array.mapM_eq_mapM_toList,Sem.run_map,h]
  rfl
 have h3:Go.results fn a.tmps=(do let vs <-fn.results.mapM (ve a.tmps);pure (if h:vs.size=1 then vs[0]else .tuple vs)):=by
  unfold Go.results
  congr 1
 rw[h3,Sem.run_bind,h2]
 simp only[Result.andThen_ok,Sem.run_pure,mC,List.size_toArray]
 by_cases hl:us.length=1
 ·simp[hl]
 ·simp[hl]
theorem AP(d e n:Nat):∀s:St,(p_ d s).get (.t e n)=if d<=e then .un else s.get (.t e n)
 | []=>by simp[p_,St.get]
 |(.t e' n',v)::s=>by
  simp only[p_]
  cases hb:Nat.ble d e' with
  |true=>
   have:=Nat.le_of_ble_eq_true hb
   simp only[cond_true]
   rw[AP d e n s]
   split
   ·rfl
   ·simp only[St.get]
    have:(aK.t e' n').beq (.t e n)=false:=by
     cases hq:(aK.t e' n').beq (.t e n)with
     |false=>rfl
     |true=>have:=aK.beq_iff.1 hq;cases this;omega
    rw[this];rfl
  |false=>
   have bI:¬d<=e':=λh=>by rw[Nat.ble_eq_true_of_le h]at hb;cases hb
   simp only[cond_false,St.get]
   cases hq:(aK.t e' n').beq (.t e n)with
   |true=>have:=aK.beq_iff.1 hq;cases this;simp[bI]
   |false=>simp only[cond_false];exact AP d e n s
 |(.x b,v)::s=>by
  simp only[p_,St.get]
  rw[show(aK.x b).beq (.t e n)=false from rfl]
  exact AP d e n s
 |(.o b,v)::s=>by
  simp only[p_,St.get]
  rw[show(aK.o b).beq (.t e n)=false from rfl]
  exact AP d e n s
theorem AQ(d:Nat)(r:aK)(hr:∀e n,r≠.t e n):∀s:St,(p_ d s).get r=s.get r
 | []=>rfl
 |(.t e' n',v)::s=>by
  have hb:(aK.t e' n').beq r=false:=by
   cases hq:(aK.t e' n').beq r with
   |false=>rfl
   |true=>exact absurd (aK.beq_iff.1 hq).symm (hr e' n')
  simp only[p_]
  cases Nat.ble d e' with
  |true=>simp only[cond_true,St.get,hb,cond_false];exact AQ d r hr s
  |false=>simp only[cond_false,St.get,hb];exact AQ d r hr s
 |(.x b,v)::s=>by
  simp only[p_,St.get]
  rw[AQ d r hr s]
 |(.o b,v)::s=>by
  simp only[p_,St.get]
  rw[AQ d r hr s]
theorem Rp(d:Nat):∀(vs:List SV) (s:St) (i:Nat) (r:aK),(Dr d s i vs).get r=match r with
  | .t e n=>if e=d∧i<=n∧n<i+vs.length then vs.getD (n-i) .un else s.get (.t e n)
  |r=>s.get r
 | [],s,i,r=>by
  cases r with
  |t e n=>simp only[Dr,List.length_nil];rw[if_neg (by omega)]
  |_=>rfl
 |v::vs,s,i,r=>by
  simp only[Dr]
  rw[Rp d vs (s.set (.t d i) v) (i+1) r]
  cases r with
  |t e n=>
   simp only[List.length_cons]
   by_cases h1:e=d∧i+1<=n∧n<i+1+vs.length
   ·rw[if_pos h1,if_pos ⟨h1.1,by omega,by omega⟩]
    rw[show n-i=(n-(i+1))+1 by omega]
    simp
   ·rw[if_neg h1]
    by_cases h2:e=d∧n=i
    ·obtain⟨rfl,rfl⟩:=h2
     rw[if_pos ⟨rfl,by omega,by omega⟩,St.bm]
     simp
    ·rw[if_neg (by omega),St.dl _ _ (λh=>by cases h;exact h2 ⟨rfl,rfl⟩)]
  |x b=>exact St.dl _ _ (by simp)
  |o b=>exact St.dl _ _ (by simp)
theorem cA.get{vs:List SV}{us:List Value}(h:cA G w ρ vs us):∀(i:Nat) (v:SV),vs[i]?=some v->∃u,us[i]?=some u∧ca G w ρ v u:=by
 induction vs generalizing us with
 |nil=>intro i v hi;simp at hi
 |cons x vs ih=>
  cases us with
  |nil=>exact h.elim
  |cons u us=>
   intro i v hi
   cases i with
   |zero=>simp at hi;subst hi;exact⟨u,rfl,h.1⟩
   |succ i=>simpa using ih h.2 i v (by simpa using hi)
theorem Rel.enter{vs:List SV}{args:List Value}{nt:Nat}(hr:Rel M B d up s ρ G a w)(hv:cA G w ρ vs args)(hm:∀v∈vs,∀i∈cD v,M i)(hn:vs.length<=nt):
  Rel M B (d+1) (nE up d a) (Dr (d+1) (p_ (d+1) s) 0 vs) ρ G {tmps:=args.toArray++Array.replicate (nt-args.toArray.size) undef,defers:=[]} w∧
   (args.toArray++Array.replicate (nt-args.toArray.size) undef:Array Value).size=nt:=by
 have hl:=hv.length
 have hg:∀r,(∀e n,r≠.t e n)->(Dr (d+1) (p_ (d+1) s) 0 vs).get r=s.get r:=by
  intro r hr
  rw[Rp]
  cases r with
  |t e n=>exact absurd rfl (hr e n)
  |x b=>exact AQ _ _ hr s
  |o b=>exact AQ _ _ hr s
 refine⟨⟨λe n he=>?_,λb=>?_,λi=>?_,λr i hi=>?_,λi hi=>?_,hr.fE,rfl,hr.base,hr.bt⟩,by simp;omega⟩
 ·rw[Rp]
  simp only[Nat.zero_le,true_and,Nat.zero_add,Nat.sub_zero]
  by_cases HB:e=d+1
  ·subst HB
   by_cases Vw:n<vs.length
   ·rw[if_pos ⟨rfl,Vw⟩]
    obtain⟨u,hu,o7⟩:=hv.get n vs[n] (List.getElem?_eq_getElem Vw)
    rw[List.getD_eq_getElem?_getD,List.getElem?_eq_getElem Vw]
    have:nE (nE up d a) (d+1) {tmps:=args.toArray++Array.replicate (nt-args.toArray.size) undef,defers:=[]} (d+1) n=u:=by
     simp only[nE,if_true]
     rw[Array.getD_eq_getD_getElem?,Array.getElem?_append_left (by simp;omega),List.getElem?_toArray,hu]
     rfl
    rw[this]
    exact o7
   ·rw[if_neg (by omega),AP,if_pos (Nat.le_refl _)]
    trivial
  ·rw[if_neg (by omega),AP,if_neg (by omega)]
   have:nE (nE up d a) (d+1) {tmps:=args.toArray++Array.replicate (nt-args.toArray.size) undef,defers:=[]} e n=nE up d a e n:=by
    show(if e=d+1 then _ else _)=_
    rw[if_neg HB]
   rw[this]
   exact hr.tm e n (by omega)
 ·rw[hg _ (by simp)];exact hr.bx b
 ·rw[hg _ (by simp)];exact hr.ob i
 ·rw[Rp]at hi
  cases r with
  |t e n=>
   simp only[Nat.zero_le,true_and,Nat.zero_add,Nat.sub_zero]at hi
   split at hi
   ·rename_i hc
    rw[List.getD_eq_getElem?_getD,List.getElem?_eq_getElem hc.2]at hi
    exact hm _ (List.getElem_mem hc.2) i hi
   ·rw[AP]at hi
    split at hi
    ·simp[cD]at hi
    ·exact hr.eY _ i hi
  |x b=>
   simp only at hi
   exact hr.eY (.x b) i (by rwa[AQ _ _ (by simp) s]at hi)
  |o b=>
   simp only at hi
   exact hr.eY (.o b) i (by rwa[AQ _ _ (by simp) s]at hi)
 ·rw[hg _ (by simp),hg _ (by simp)]at hi;exact hr.key i hi
theorem Rel.LU{a2:Act}{w2:World}{G2:Gh}{s2:St}{AM:List T}(hd:a.defers=[])(hr:Rel M B (d+1) (nE up d a) s2 AM G2 a2 w2):Rel M B d up (p_ (d+1) s2) AM G2 a w2:=by
 have hg:∀r,(∀e n,r≠.t e n)->(p_ (d+1) s2).get r=s2.get r:=λr hr=>AQ _ _ hr s2
 refine⟨λe n he=>?_,λb=>?_,λi=>?_,λr i hi=>?_,λi hi=>?_,hr.fE,hd,hr.base,hr.bt⟩
 ·rw[AP,if_neg (by omega)]
  have:=hr.tm e n (by omega)
  have e1:nE (nE up d a) (d+1) a2 e n=nE up d a e n:=by
   show(if e=d+1 then _ else _)=_
   rw[if_neg (by omega)]
  rw[e1]at this
  exact this
 ·rw[hg _ (by simp)];exact hr.bx b
 ·rw[hg _ (by simp)];exact hr.ob i
 ·cases r with
  |t e n=>
   rw[AP]at hi
   split at hi
   ·simp[cD]at hi
   ·exact hr.eY _ i hi
  |x b=>exact hr.eY (.x b) i (by rwa[hg _ (by simp)]at hi)
  |o b=>exact hr.eY (.o b) i (by rwa[hg _ (by simp)]at hi)
 ·rw[hg _ (by simp),hg _ (by simp)]at hi;exact hr.key i hi
theorem LV(E:Env P cx S)(rO:P.follows .mixedOrders=true):∀n,xt P S R out B (zK cx n)
 |0=>by intro f g vs lv s ct fs kk p K0 a w args Ψ h;cases h
 |n+1=>by
  intro f g vs lv s ct fs kk p Z a w args Ψ h aS hk
  simp only[zK,bU]at h
  obtain⟨fn,KY,c,hc,h⟩:=h
  obtain⟨hf,pN⟩:=E.cC g fn KY
  refine⟨pN,?_⟩
  cases hb:(Nat.ble vs.length fn.ntmps&&tS fn.ntmps c)with
  |false=>simp[hb]at h
  |true=>
   simp only[hb,cond_true]at h
   simp only[bd]at hb
   obtain⟨K,ρ,G,h1,h2,h3,h4,h5,h6,h7,h8,h9,jI⟩:=aS
   have hle:=Nat.le_of_ble_eq_true hb.1
   obtain⟨q1,q2⟩:=h7.enter h9 jI hle
   refine calls_of_wp hf hc ?_
   refine LQ (f:=⟨f.d+1,nE f.up f.d a,fn.ntmps⟩) E (LV E rO n) rO c 0 lv _ ct fs _ p _ w Z _ hb.2 h ⟨K,ρ,G,h1,h2,h3,h4,h5,h6,q1,q2,trivial⟩ λe=>?_
   have fin:∀(o8:Nat) (s':St) (fK:Ct) (ig:iQ) (p':PL) (a2:Act) (w2:World),(Go.Proofs.YtbhplkilhknciaaC.results cx (f.d+1) s' fn.results.toList).bind (λrs=>kk rs o8 (p_ (f.d+1) s') fK ig)=some p'->
     At S R out B ⟨f.d+1,nE f.up f.d a,fn.ntmps⟩ Z XT p' o8 s' fK ig a2 w2->a2.defers=[]∧∃v,(Go.results fn a2.tmps).run P w2=.ok v w2∧∃v',Ending.returned v=.returned v'∧Ψ v' w2:=by
    rintro o8 s' fK ig p' a2 w2 dG ⟨K2,AM,G2,g1,g2,g3,g4,g5,g6,g7,g8,_⟩
    rw[bU]at dG
    obtain⟨rs,Er,dG⟩:=dG
    obtain⟨us,u1,u2,u3⟩:=AO E.cQ g7 Er
    refine⟨g7.dn,mC us,LS u1,mC us,rfl,?_⟩
    exact hk rs o8 _ fK ig p' w2 us dG ⟨K2,AM,G2,g1,g2,g3,g4,g5,g6,g7.LU h7.dn,h8,u2,u3⟩
   cases e with
   |normal=>intro o8 s' fK ig p' a2 w2 dG j4;exact fin o8 s' fK ig p' a2 w2 dG j4
   |ret=>intro o8 s' fK ig p' a2 w2 dG j4;exact fin o8 s' fK ig p' a2 w2 dG j4
   |exit id=>intro o8 s' fK ig p' a2 w2 dG j4;cases dG
theorem LW{k:Wk}{c:Ce}{x:Lf}{v:Value}(hk:∀id,cb G w ρ id (k.get (.o id)))(h:k.plain c=some x)(hr:fb G w ρ c v):∃t,x.ev ρ=t∧dF G.q w t v:=by
 unfold Wk.plain at h
 split at h
 ·cases h;obtain⟨t,h1,h2⟩:=hr;exact⟨t,Lf.a_ h1,h2⟩
 ·cases h
  have hv:v=.slice none 0 0:=hr
  subst hv
  exact⟨_,rfl,.nil⟩
 ·rename_i id
  split at h
  ·rename_i y hy
   cases h
   have c_:=hk id
   rw[hy]at c_
   obtain⟨t,h1,h2,_⟩:=c_
   obtain⟨p,hp,hv⟩:=hr
   simp only[lu,aH]at hp
   subst hp
   exact⟨t,Lf.a_ h1,by rw[hv];exact h2⟩
  ·cases h
 ·cases h
theorem LX{k:Wk}(hk:∀id,cb G w ρ id (k.get (.o id))):∀{cs:List Ce} {xs:List Lf} {vs:List Value},k.ov cs=some xs->aE G w ρ cs vs->dy G.q w (xs.map (Lf.ev ρ)) vs∧xs.length=cs.length
 | [],xs,vs,h,hr=>by
  simp[Wk.ov]at h
  subst h
  cases vs with
  |nil=>exact⟨trivial,rfl⟩
  |cons _ _=>exact hr.elim
 |c::cs,xs,[],h,hr=>hr.elim
 |c::cs,xs,v::vs,h,hr=>by
  simp only[Wk.ov,bU,aH]at h
  obtain⟨x,hx,ys,Kl,rfl⟩:=h
  obtain⟨t,ht,hd⟩:=LW hk hx hr.1
  obtain⟨g1,g2⟩:=LX hk Kl hr.2
  exact⟨⟨by rw[ht];exact hd,g1⟩,by simp[g2]⟩
theorem LY:∀{cs:List Ce} {ks:List Ck} {k k1:Wk} {xs:List Lf} {ids:List Nat} {vs:List Value},ll k cs ks=some (k1,xs,ids)->(∀id,cb G w ρ id (k.get (.o id)))->aE G w ρ cs vs->k1.aO S ρ->
  k.aO S ρ∧k.dL k1∧∃is,bz G w ks vs (xs.map (Lf.ev ρ)) is∧is.filterMap id=ids∧∀j,some j∈is->j%4≠2
 | [],[],k,k1,xs,ids,vs,h,hk,hr,hd=>by
  simp only[ll,aH,Prod.mk.injEq]at h
  obtain⟨rfl,rfl,rfl⟩:=h
  cases vs with
  |nil=>exact⟨hd,.refl _,[],trivial,rfl,λj hj=>by cases hj⟩
  |cons _ _=>exact hr.elim
 |c::cs,ck::ks,k,k1,xs,ids,[],h,hk,hr,hd=>hr.elim
 |c::cs,.p::ks,k,k1,xs,ids,v::vs,h,hk,hr,hd=>by
  have h':(k.plain c).bind (λx=>(ll k cs ks).bind λr=>some (r.1,x::r.2.1,r.2.2))=some (k1,xs,ids):=by
   cases c with
   |o id q=>cases q<;>exact h
   |p x=>exact h
   |n=>exact h
   |d=>exact h
  simp only[bU,aH,Prod.mk.injEq]at h'
  obtain⟨x,hx,⟨k2,ys,pu⟩,h2,rfl,rfl,rfl⟩:=h'
  obtain⟨g1,g2,is,g3,g4,g5⟩:=LY h2 hk hr.2 hd
  obtain⟨t,ht,db⟩:=LW hk hx hr.1
  exact⟨g1,g2,none::is,⟨rfl,by rw[ht];exact db,g3⟩,by simpa using g4,λj hj=>g5 j (by simpa using hj)⟩
 | .p x::cs,.s::ks,k,k1,xs,ids,v::vs,h,hk,hr,hd=>by
  simp only[ll,bU,aH,Prod.mk.injEq]at h
  obtain⟨⟨k2,ys,pu⟩,h2,rfl,rfl,rfl⟩:=h
  obtain⟨n4,r,o4,me⟩:=Wk.be hd
  obtain⟨g1,g2,is,g3,g4,g5⟩:=LY h2 hk hr.2 n4
  obtain⟨t,ht,db⟩:=hr.1
  simp only[List.map_cons,List.map_nil,Lf.a_ ht,Prim.ev]at o4
  split at o4
  ·rename_i lA
   cases o4
   refine⟨g1,g2.trans (Wk.aT _ _ _),none::is,⟨rfl,?_,?_,g3⟩,by simpa using g4,λj hj=>g5 j (by simpa using hj)⟩
   ·rw[Lf.a_ me];exact db
   ·rw[Lf.a_ me];exact lA
  ·cases o4
 | .n::cs,.o dp::ks,k,k1,xs,ids,v::vs,h,hk,hr,hd=>by
  simp only[ll,bU,aH,Prod.mk.injEq]at h
  obtain⟨⟨k2,ys,pu⟩,h2,rfl,rfl,rfl⟩:=h
  obtain⟨g1,g2,is,g3,g4,g5⟩:=LY h2 hk hr.2 hd
  exact⟨g1,g2,none::is,⟨hr.1,rfl,g3⟩,by simpa using g4,λj hj=>g5 j (by simpa using hj)⟩
 | .o id []::cs,.o dp::ks,k,k1,xs,ids,v::vs,h,hk,hr,hd=>by
  simp only[ll]at h
  split at h
  ·rename_i sk x hx
   cases eV:(sk==dp&& !Nat.beq (id%4) 2)with
   |false=>simp[eV]at h
   |true=>
    simp only[eV,cond_true,bU,aH,Prod.mk.injEq]at h
    simp only[bd,beq_iff_eq,Bool.not_eq_true']at eV
    obtain⟨eV,w9⟩:=eV
    subst eV
    obtain⟨⟨k2,ys,pu⟩,h2,rfl,rfl,rfl⟩:=h
    obtain⟨g1,g2,is,g3,g4,g5⟩:=LY h2 hk hr.2 hd
    have c_:=hk id
    rw[hx]at c_
    obtain⟨t,ht,aW⟩:=c_
    obtain⟨p,hp,hv⟩:=hr.1
    simp only[lu,aH]at hp
    subst hp
    refine⟨g1,g2,some id::is,⟨hv,by rw[Lf.a_ ht];exact aW,g3⟩,by simpa using g4,λj hj=>?_⟩
    rcases List.mem_cons.1 hj with hj|hj
    ·cases hj;intro e;rw[e]at w9;cases w9
    ·exact g5 j hj
  ·cases h
 | [],_::_,k,k1,xs,ids,vs,h,_,_,_=>by simp[ll]at h
 |c::_,[],k,k1,xs,ids,vs,h,_,_,_=>by simp[ll]at h
 | .p _::_,.o _::_,k,k1,xs,ids,_::_,h,_,_,_=>by simp[ll]at h
 | .n::_,.s::_,k,k1,xs,ids,_::_,h,_,_,_=>by simp[ll]at h
 | .d::_,.s::_,k,k1,xs,ids,_::_,h,_,_,_=>by simp[ll]at h
 | .d::_,.o _::_,k,k1,xs,ids,_::_,h,_,_,_=>by simp[ll]at h
 | .o _ _::_,.s::_,k,k1,xs,ids,_::_,h,_,_,_=>by simp[ll]at h
 | .o _ (_::_)::_,.o _::_,k,k1,xs,ids,_::_,h,_,_,_=>by simp[ll]at h
theorem LZ:∀{cs:List Ce} {ks:List Ck} {k k1:Wk} {xs:List Lf} {ids:List Nat},ll k cs ks=some (k1,xs,ids)->k.dL k1
 | [],[],k,k1,xs,ids,h=>by
  simp only[ll,aH,Prod.mk.injEq]at h
  obtain⟨rfl,rfl,rfl⟩:=h
  exact .refl _
 |c::cs,.p::ks,k,k1,xs,ids,h=>by
  have h':(k.plain c).bind (λx=>(ll k cs ks).bind λr=>some (r.1,x::r.2.1,r.2.2))=some (k1,xs,ids):=by
   cases c with
   |o id q=>cases q<;>exact h
   |p x=>exact h
   |n=>exact h
   |d=>exact h
  simp only[bU,aH,Prod.mk.injEq]at h'
  obtain⟨x,hx,⟨k2,ys,pu⟩,h2,rfl,rfl,rfl⟩:=h'
  exact LZ h2
 | .p x::cs,.s::ks,k,k1,xs,ids,h=>by
  simp only[ll,bU,aH,Prod.mk.injEq]at h
  obtain⟨⟨k2,ys,pu⟩,h2,rfl,rfl,rfl⟩:=h
  exact(LZ h2).trans (Wk.aT _ _ _)
 | .n::cs,.o dp::ks,k,k1,xs,ids,h=>by
  simp only[ll,bU,aH,Prod.mk.injEq]at h
  obtain⟨⟨k2,ys,pu⟩,h2,rfl,rfl,rfl⟩:=h
  exact LZ h2
 | .o id []::cs,.o dp::ks,k,k1,xs,ids,h=>by
  simp only[ll]at h
  split at h
  ·rename_i sk x hx
   cases eV:(sk==dp&& !Nat.beq (id%4) 2)with
   |false=>simp[eV]at h
   |true=>
    simp only[eV,cond_true,bU,aH,Prod.mk.injEq]at h
    obtain⟨⟨k2,ys,pu⟩,h2,rfl,rfl,rfl⟩:=h
    exact LZ h2
  ·cases h
 | [],_::_,k,k1,xs,ids,h=>by simp[ll]at h
 |c::_,[],k,k1,xs,ids,h=>by simp[ll]at h
 | .p _::_,.o _::_,k,k1,xs,ids,h=>by simp[ll]at h
 | .n::_,.s::_,k,k1,xs,ids,h=>by simp[ll]at h
 | .d::_,.s::_,k,k1,xs,ids,h=>by simp[ll]at h
 | .d::_,.o _::_,k,k1,xs,ids,h=>by simp[ll]at h
 | .o _ _::_,.s::_,k,k1,xs,ids,h=>by simp[ll]at h
 | .o _ (_::_)::_,.o _::_,k,k1,xs,ids,h=>by simp[ll]at h
theorem EU:∀{vs:List SV} {rs:List (Bool×List Ck)} {k k1:Wk} {xs:List Lf} {ids:List Nat},kZ k vs rs=some (k1,xs,ids)->k.dL k1
 | [],[],k,k1,xs,ids,h=>by
  simp only[kZ,aH,Prod.mk.injEq]at h
  obtain⟨rfl,rfl,rfl⟩:=h
  exact .refl _
 | .v ag cs::vs,(tR,ks)::rs,k,k1,xs,ids,h=>by
  simp only[kZ]at h
  cases mL:(ag==tR)with
  |false=>simp[mL]at h
  |true=>
   simp only[mL,cond_true,bU,aH,Prod.mk.injEq]at h
   obtain⟨⟨k2,ys,pu⟩,h2,⟨k3,zs,L0⟩,h3,rfl,rfl,rfl⟩:=h
   exact(EU h2).trans (LZ h3)
 | [],_::_,k,k1,xs,ids,h=>by simp[kZ]at h
 |v::_,[],k,k1,xs,ids,h=>by cases v<;>simp[kZ]at h
 | .un::_,_::_,k,k1,xs,ids,h=>by simp[kZ]at h
 | .pt _ _::_,_::_,k,k1,xs,ids,h=>by simp[kZ]at h
 | .ep _ _ _ _ _::_,_::_,k,k1,xs,ids,h=>by simp[kZ]at h
 | .fp _ _ _ _::_,_::_,k,k1,xs,ids,h=>by simp[kZ]at h
 | .tp _::_,_::_,k,k1,xs,ids,h=>by simp[kZ]at h
 | .cl _ _::_,_::_,k,k1,xs,ids,h=>by simp[kZ]at h
 | .ob _ _::_,_::_,k,k1,xs,ids,h=>by simp[kZ]at h
 | .fz _ _::_,_::_,k,k1,xs,ids,h=>by simp[kZ]at h
 | .tk _ _::_,_::_,k,k1,xs,ids,h=>by simp[kZ]at h
 | .fl _::_,_::_,k,k1,xs,ids,h=>by simp[kZ]at h
 | .fr _::_,_::_,k,k1,xs,ids,h=>by simp[kZ]at h
theorem L1:∀{vs:List SV} {rs:List (Bool×List Ck)} {k k1:Wk} {xs:List Lf} {ids:List Nat} {us:List Value},kZ k vs rs=some (k1,xs,ids)->(∀id,cb G w ρ id (k.get (.o id)))->cA G w ρ vs us->k1.aO S ρ->
  k.aO S ρ∧k.dL k1∧∃is,gK G w rs us (xs.map (Lf.ev ρ)) is∧is.filterMap id=ids∧∀j,some j∈is->j%4≠2
 | [],[],k,k1,xs,ids,us,h,hk,hr,hd=>by
  simp only[kZ,aH,Prod.mk.injEq]at h
  obtain⟨rfl,rfl,rfl⟩:=h
  cases us with
  |nil=>exact⟨hd,.refl _,[],trivial,rfl,λj hj=>by cases hj⟩
  |cons _ _=>exact hr.elim
 | .v ag cs::vs,(tR,ks)::rs,k,k1,xs,ids,[],h,hk,hr,hd=>hr.elim
 | .v ag cs::vs,(tR,ks)::rs,k,k1,xs,ids,u::us,h,hk,hr,hd=>by
  simp only[kZ]at h
  cases mL:(ag==tR)with
  |false=>simp[mL]at h
  |true=>
   simp only[mL,cond_true,bU,aH,Prod.mk.injEq]at h
   simp only[beq_iff_eq]at mL
   subst mL
   obtain⟨⟨k2,ys,pu⟩,h2,⟨k3,zs,L0⟩,h3,rfl,rfl,rfl⟩:=h
   have h0:=hr.1
   have key:∀ws:List Value,aE G w ρ cs ws->(∀is,bz G w ks ws (zs.map (Lf.ev ρ)) is->Ky G w (ag,ks) u (zs.map (Lf.ev ρ)) is)->
     k.aO S ρ∧k.dL k3∧∃is,gK G w ((ag,ks)::rs) (u::us) ((zs++ys).map (Lf.ev ρ)) is∧is.filterMap id=L0++pu∧∀j,some j∈is->j%4≠2:=by
    intro ws Vx Vy
    have rD:∀{k':Wk},k.dL k'->∀id,cb G w ρ id (k'.get (.o id)):=λhs id=>by rw[hs.get];exact hk id
    have pre:k.dL k2:=EU h2
    obtain⟨g1,g2,is,g3,g4,g5⟩:=LY h3 (rD pre) Vx hd
    obtain⟨f1,f2,is2,f3,f4,f5⟩:=L1 h2 hk hr.2 g1
    exact⟨f1,f2.trans g2,is++is2,⟨_,_,is,is2,List.map_append,rfl,Vy is g3,f3⟩,by rw[List.filterMap_append,g4,f4],λj hj=>(List.mem_append.1 hj).elim (g5 j) (f5 j)⟩
   cases ag with
   |true=>obtain⟨ws,rfl,Vx⟩:=h0;exact key ws Vx λis ho=>⟨ws,rfl,ho⟩
   |false=>obtain⟨c,rfl,hc,z5⟩:=h0;exact key [u] ⟨hc,trivial⟩ λis ho=>⟨ho,z5⟩
 | [],_::_,k,k1,xs,ids,us,h,_,_,_=>by simp[kZ]at h
 |v::_,[],k,k1,xs,ids,us,h,_,_,_=>by cases v<;>simp[kZ]at h
 | .un::_,_::_,k,k1,xs,ids,us,h,_,_,_=>by simp[kZ]at h
 | .pt _ _::_,_::_,k,k1,xs,ids,us,h,_,_,_=>by simp[kZ]at h
 | .ep _ _ _ _ _::_,_::_,k,k1,xs,ids,us,h,_,_,_=>by simp[kZ]at h
 | .fp _ _ _ _::_,_::_,k,k1,xs,ids,us,h,_,_,_=>by simp[kZ]at h
 | .tp _::_,_::_,k,k1,xs,ids,us,h,_,_,_=>by simp[kZ]at h
 | .cl _ _::_,_::_,k,k1,xs,ids,us,h,_,_,_=>by simp[kZ]at h
 | .ob _ _::_,_::_,k,k1,xs,ids,us,h,_,_,_=>by simp[kZ]at h
 | .fz _ _::_,_::_,k,k1,xs,ids,us,h,_,_,_=>by simp[kZ]at h
 | .tk _ _::_,_::_,k,k1,xs,ids,us,h,_,_,_=>by simp[kZ]at h
 | .fl _::_,_::_,k,k1,xs,ids,us,h,_,_,_=>by simp[kZ]at h
 | .fr _::_,_::_,k,k1,xs,ids,us,h,_,_,_=>by simp[kZ]at h
end
section
variable {ρ:List T} {w:World} {S:Nat->ai} {P:Program} {cx:Cx} {R:Nat} {out:List T}
def Gh.CJ(ω:Nat->Option Lb)(bl:Nat->Option Nat):Gh where
 ω:=ω
 β:=λi=>(bl i).getD 0
 H:=λ_ _=>.slice none 0 0
 hs:=λ_ _=>⟨_,_,_,rfl⟩
theorem EV{mJ:Nat->Option Lb}{bl:Nat->Option Nat}:∀{ps:List PS} {args:List Value} {ts:List T} {i a:Nat},u6 mJ w bl i ps args ts->(∀j t,ts[j]?=some t->ρ[a+j]?=some t)->
  (sn a i ps).1=a+ts.length∧args.length=ps.length∧(∀n,(∃m,ps[n]?=some (.x m))->bl (i+n)≠none)∧
  ∀r v,(r,v)∈(sn a i ps).2->(∃n c,r=.t 0 (i+n)∧n<ps.length∧args[n]?=some c∧ca (Gh.CJ mJ bl) w ρ v c∧∀j∈cD v,j<i+ps.length)∨
   (∃b,r=.x b∧b<i+ps.length∧eX (Gh.CJ mJ bl) w ρ b v∧cD v=[])
 | [],args,ts,i,a,h,mg=>by
  obtain⟨rfl,rfl⟩:=h
  exact⟨rfl,rfl,λn ⟨m,hm⟩=>by simp at hm,λr v hm=>by simp[sn]at hm⟩
 | .v ag n::ps,args,ts,i,a,h,mg=>by
  obtain⟨c,dQ,vs,t1,t2,rfl,rfl,hl,mL,hd,h⟩:=h
  obtain⟨g1,g2,g3,g4⟩:=EV (i:=i+1) (a:=a+n) h (λj t hj=>by
   have:=mg (n+j) t (by rw[List.getElem?_append_right (by omega),hl];simpa using hj)
   rw[<-this];congr 1;omega)
  obtain⟨r1,r2⟩:=Q' (a:=a) (G:=Gh.CJ mJ bl) hl (hd.aF (Nat.le_refl _) λb _ hb=>⟨uN hb,rfl⟩) (λj t hj=>mg j t (by rw[List.getElem?_append_left (List.getElem?_eq_some_iff.1 hj).1];exact hj))
  refine⟨by simp only[sn,List.length_append];omega,by simp[g2],λn' ⟨m,hm⟩=>?_,λr v hm=>?_⟩
  ·cases n' with
   |zero=>simp at hm
   |succ n'=>have:=g3 n' ⟨m,by simpa using hm⟩;rwa[show i+1+n'=i+(n'+1) by omega]at this
  ·simp only[sn,List.mem_cons,Prod.mk.injEq]at hm
   simp only[List.length_cons]
   rcases hm with⟨rfl,rfl⟩|hm
   ·left
    refine⟨0,c,by simp,by omega,rfl,?_,λj hj=>by rw[show cD (.v ag (yw a n))=cT (yw a n) from rfl,r2]at hj;cases hj⟩
    cases ag with
    |true=>exact⟨vs,mL,r1⟩
    |false=>
     obtain⟨rfl,z5⟩:=mL
     match h0:yw a n,r1 with
     | [x],r1=>exact⟨x,h0.symm▸h0,r1.1,z5⟩
   ·rcases g4 r v hm with⟨n',c',e1,e2,e3,e4,e5⟩|⟨b,e1,e2,e3,e4⟩
    ·exact .inl ⟨n'+1,c',by rw[e1];congr 1;omega,by omega,by simpa using e3,e4,λj hj=>by have:=e5 j hj;omega⟩
    ·exact .inr ⟨b,e1,by omega,e3,e4⟩
 | .x n::ps,args,ts,i,a,h,mg=>by
  obtain⟨c,dQ,b,aN,elem,t1,t2,rfl,hc,hb,fA,hh,rfl,hl,hd,h⟩:=h
  obtain⟨g1,g2,g3,g4⟩:=EV (i:=i+1) (a:=a+n) h (λj t hj=>by
   have:=mg (n+j) t (by rw[List.getElem?_append_right (by omega),hl];simpa using hj)
   rw[<-this];congr 1;omega)
  obtain⟨r1,r2⟩:=Q' (a:=a) (G:=Gh.CJ mJ bl) hl (hd.aF (Nat.le_refl _) λb _ hb=>⟨uN hb,rfl⟩) (λj t hj=>mg j t (by rw[List.getElem?_append_left (List.getElem?_eq_some_iff.1 hj).1];exact hj))
  have zU:(Gh.CJ mJ bl).β i=b:=by simp[Gh.CJ,hb]
  refine⟨by simp only[sn,List.length_append];omega,by simp[g2],λn' ⟨m,hm⟩=>?_,λr v hm=>?_⟩
  ·cases n' with
   |zero=>rw[Nat.add_zero,hb];simp
   |succ n'=>have:=g3 n' ⟨m,by simpa using hm⟩;rwa[show i+1+n'=i+(n'+1) by omega]at this
  ·simp only[sn,List.mem_cons,Prod.mk.injEq]at hm
   simp only[List.length_cons]
   rcases hm with⟨rfl,rfl⟩|⟨rfl,rfl⟩|hm
   ·exact .inl ⟨0,c,by simp,by omega,rfl,by rw[ca,zU];exact hc,λj hj=>by simp[cD]at hj;omega⟩
   ·exact .inr ⟨i,rfl,by omega,⟨by rw[zU];exact fA,aN,elem,by rw[zU];exact hh,r1⟩,r2⟩
   ·rcases g4 r v hm with⟨n',c',e1,e2,e3,e4,e5⟩|⟨b,e1,e2,e3,e4⟩
    ·exact .inl ⟨n'+1,c',by rw[e1];congr 1;omega,by omega,by simpa using e3,e4,λj hj=>by have:=e5 j hj;omega⟩
    ·exact .inr ⟨b,e1,by omega,e3,e4⟩
theorem EW{G:Gh}{bl:Nat->Option Nat}{k:Wk}(hk:∀id,cb G w ρ id (k.get (.o id)))(hx:∀b,eX G w ρ b (k.get (.x b)))(vU:∀i b,bl i=some b->G.β i=b):
  ∀{ps:List PS} {i:Nat} {xs:List Lf},uM k i ps=some xs->(∀n,(∃m,ps[n]?=some (.x m))->bl (i+n)≠none)->gg G w bl i ps (xs.map (Lf.ev ρ))
 | [],i,xs,h,_=>by simp[uM]at h;subst h;rfl
 | .v _ _::ps,i,xs,h,hn=>EW (ps:=ps) (i:=i+1) hk hx vU h λn ⟨m,hm⟩=>by have:=hn (n+1) ⟨m,by simpa using hm⟩;rwa[show i+1+n=i+(n+1) by omega]
 | .x n::ps,i,xs,h,hn=>by
  simp only[uM]at h
  split at h
  ·rename_i ag cs jy
   cases hb:Nat.beq cs.length n with
   |false=>simp[hb]at h
   |true=>
    simp only[hb,cond_true,bU,aH]at h
    obtain⟨x1,h1,x2,h2,rfl⟩:=h
    have oN:=hx i
    rw[jy]at oN
    obtain⟨g1,aN,elem,g2,g3⟩:=oN
    obtain⟨f1,f2⟩:=LX hk h1 g3
    cases Vz:bl i with
    |none=>exact absurd Vz (by have:=hn 0 ⟨n,rfl⟩;simpa using this)
    |some b=>
     have zU:=vU i b Vz
     rw[zU]at g1 g2
     exact⟨b,aN,elem,_,_,Vz,g1,g2,List.map_append,by rw[List.length_map,f2];exact cO hb,f1,
      EW hk hx vU h2 λn ⟨m,hm⟩=>by have:=hn (n+1) ⟨m,by simpa using hm⟩;rwa[show i+1+n=i+(n+1) by omega]⟩
  ·cases h
theorem gK.len{G':Gh}{w':World}:∀{rs:List (Bool×List Ck)} {vs:List Value} {ts:List T} {is:List (Option Nat)},gK G' w' rs vs ts is->rs.length=vs.length
 | [],[],[],[],_=>rfl
 |r::rs,v::vs,ts,is,h=>by
  obtain⟨t1,t2,i1,i2,rfl,rfl,h1,h2⟩:=h
  simp[gK.len h2]
 | [],[],_::_,_,h=>h.elim
 | [],[],[],_::_,h=>h.elim
 | [],_::_,_,_,h=>h.elim
 |_::_,[],_,_,h=>h.elim
theorem L3{G':Gh}{w':World}{rs:List (Bool×List Ck)}{vs:List Value}{ts:List T}{is:List (Option Nat)}(h:gK G' w' rs vs ts is):Eh G' w' rs (mC vs) ts is:=by
 have hl:=h.len
 match rs,vs,h,hl with
 | [],[],h,_=>
  cases ts with
  |nil=>cases is with
   |nil=>exact⟨rfl,rfl⟩
   |cons _ _=>exact h.elim
  |cons _ _=>exact h.elim
 | [r],[v],h,_=>exact h
 |r::r'::rs,v::v'::vs,h,_=>
  refine⟨v::v'::vs,?_,h⟩
  unfold mC
  rw[dif_neg (by simp)]
theorem cA.ext{G:Gh}{e:List T}:∀{vs:List SV} {us:List Value},cA G w ρ vs us->cA G w (ρ++e) vs us
 | [],[],_=>trivial
 |_::_,_::_,h=>⟨h.1.ext,cA.ext h.2⟩
 | [],_::_,h=>h.elim
 |_::_,[],h=>h.elim
def Gh.ft(G:Gh):Gh:={G with ω:=G.q}
theorem Gh.mD(G:Gh):G.ft.q=G.q:=by
 funext b
 show qf (qf G.ω) b=qf G.ω b
 unfold qf
 cases hb:G.ω b with
 |none=>rfl
 |some l=>cases hq:qt l<;>simp[hq]
theorem VA{sg:mR}(h:zN sg=true)(hp:ou sg=true):∀r∈sg.rs,∀k∈r.2,k≠.o true:=by
 intro r hr k hk e
 subst e
 simp only[zN,hp,Bool.true_and,Bool.not_eq_true']at h
 have h1:=List.any_eq_false.1 h r hr
 exact absurd (List.any_eq_true.2 ⟨Ck.o true,hk,rfl⟩) h1
theorem bz.ft{G:Gh}:∀{ks:List Ck} {vs:List Value} {ts:List T} {is:List (Option Nat)},bz G w ks vs ts is->(∀k∈ks,k≠.o true)->(∀j,some j∈is->j%4≠2)->bz G.ft w ks vs ts is
 | [],[],[],[],_,_,_=>trivial
 | .s::ks,v::vs,t::ts,x::is,h,hk,h2=>⟨h.1,by rw[Gh.mD];exact h.2.1,h.2.2.1,bz.ft h.2.2.2 (λk hm=>hk k (by simp[hm])) λj hj=>h2 j (by simp[hj])⟩
 | .p::ks,v::vs,t::ts,x::is,h,hk,h2=>⟨h.1,by rw[Gh.mD];exact h.2.1,bz.ft h.2.2 (λk hm=>hk k (by simp[hm])) λj hj=>h2 j (by simp[hj])⟩
 | .o dp::ks,v::vs,t::ts,none::is,h,hk,h2=>⟨h.1,h.2.1,bz.ft h.2.2 (λk hm=>hk k (by simp[hm])) λj hj=>h2 j (by simp[hj])⟩
 | .o true::ks,v::vs,t::ts,some id::is,h,hk,h2=>absurd rfl (hk _ (by simp))
 | .o false::ks,v::vs,t::ts,some id::is,h,hk,h2=>
  ⟨h.1,h.2.1.oO (λc hc=>wK hc (zQ (h2 id (by simp)))) rfl (λb hb=>by rw[Gh.mD];exact hb),bz.ft h.2.2 (λk hm=>hk k (by simp[hm])) λj hj=>h2 j (by simp[hj])⟩
 | [],[],[],_::_,h,_,_=>h.elim
 | [],[],_::_,_,h,_,_=>h.elim
 | [],_::_,_,_,h,_,_=>h.elim
 |k::_,[],_,_,h,_,_=>by cases k<;>exact h.elim
 |k::_,_::_,[],_,h,_,_=>by cases k<;>exact h.elim
 |k::_,_::_,_::_,[],h,_,_=>by cases k<;>exact h.elim
theorem gK.ft{G:Gh}:∀{rs:List (Bool×List Ck)} {vs:List Value} {ts:List T} {is:List (Option Nat)},gK G w rs vs ts is->(∀r∈rs,∀k∈r.2,k≠.o true)->(∀j,some j∈is->j%4≠2)->gK G.ft w rs vs ts is
 | [],[],[],[],_,_,_=>trivial
 |(ag,ks)::rs,v::vs,ts,is,h,hk,h2=>by
  obtain⟨t1,t2,i1,i2,rfl,rfl,h1,h3⟩:=h
  refine⟨t1,t2,i1,i2,rfl,rfl,?_,gK.ft h3 (λr hr=>hk r (by simp[hr])) λj hj=>h2 j (by simp[hj])⟩
  have h20:∀j,some j∈i1->j%4≠2:=λj hj=>h2 j (by simp[hj])
  have h0:=hk (ag,ks) (by simp)
  cases ag with
  |true=>obtain⟨us,e,h3⟩:=h1;exact⟨us,e,h3.ft h0 h20⟩
  |false=>exact⟨h1.1.ft h0 h20,h1.2⟩
 | [],[],_::_,_,h,_,_=>h.elim
 | [],[],[],_::_,h,_,_=>h.elim
 | [],_::_,_,_,h,_,_=>h.elim
 |_::_,[],_,_,h,_,_=>h.elim
theorem gg.ft{G:Gh}{bl:Nat->Option Nat}:∀{ps:List PS} {i:Nat} {ts:List T},gg G w bl i ps ts->gg G.ft w bl i ps ts
 | [],i,ts,h=>h
 | .v _ _::ps,i,ts,h=>gg.ft (ps:=ps) (i:=i+1) h
 | .x n::ps,i,ts,h=>by
  obtain⟨b,aN,elem,t1,t2,h1,h2,h3,h4,h5,h6,h7⟩:=h
  exact⟨b,aN,elem,t1,t2,h1,wK h2 rfl,h3,h4,h5,by rw[Gh.mD];exact h6,gg.ft h7⟩
theorem L4{n bY:Nat}{fn:Func}{sg:mR}{pl:PL}(E:Env P cx S)(rO:P.follows .mixedOrders=true)(hf:P.funcs[bY]?=some fn)(h:zO cx n bY fn sg=some pl):
  Av P sg bY λts=>pl.den S R [] ts:=by
 intro w mJ bl args ts outs hF cM pN
 unfold zO at h
 simp only[bU]at h
 obtain⟨c,hc,h⟩:=h
 cases hb:(tS fn.ntmps c&&Nat.ble sg.ps.length fn.ntmps&&zN sg)with
 |false=>simp[hb]at h
 |true=>
  simp only[hb,cond_true]at h
  simp only[bd]at hb
  obtain⟨hb,VB⟩:=hb
  have mN:=Nat.le_of_ble_eq_true hb.2
  obtain⟨g1,g2,g3,g4⟩:=EV (ρ:=ts) (i:=0) (a:=0) pN (λj t hj=>by rw[Nat.zero_add];exact hj)
  simp only[Nat.zero_add]at g1 g3 g4
  have pU:∀r,(sn 0 0 sg.ps).2.get r=.un∨(r,(sn 0 0 sg.ps).2.get r)∈(sn 0 0 sg.ps).2:=by
   intro r
   rw[St.rq]
   cases hl:(sn 0 0 sg.ps).2.look r with
   |none=>exact .inl rfl
   |some v=>exact .inr (Aw hl)
  refine calls_of_wp hf hc ?_
  have fF:(args.toArray++Array.replicate (fn.ntmps-args.toArray.size) undef:Array Value).size=fn.ntmps:=by simp;omega
  have iF:Rel (λi=>i<sg.ps.length+1) ⟨w,mJ,bl⟩ 0 (λ_ _=>undef) (sn 0 0 sg.ps).2 ts (Gh.CJ mJ bl) {tmps:=args.toArray++Array.replicate (fn.ntmps-args.toArray.size) undef,defers:=[]} w:=by
   refine⟨λe m he=>?_,λb=>?_,λi=>?_,λr i hi=>?_,λi hi=>?_,λb l hb=>?_,rfl,⟨rfl,rfl,rfl,Nat.le_refl _,λb _ hb=>⟨hb,rfl⟩,λb hb=>⟨hb,rfl⟩,cM.gl⟩,λi b hb=>⟨by have:=(cM.bl i b hb).1;omega,by show(bl i).getD 0=b;rw[show bl i=some b from hb];rfl⟩⟩
   ·obtain rfl:e=0:=by omega
    rcases pU (.t 0 m)with hu|hm
    ·rw[hu];trivial
    ·rcases g4 _ _ hm with⟨k,c',e1,e2,e3,e4,_⟩|⟨b,e1,_⟩
     ·cases e1
      simp only[nE,if_true]
      rw[Array.getD_eq_getD_getElem?,Array.getElem?_append_left (by simp;omega),List.getElem?_toArray,e3]
      exact e4
     ·cases e1
   ·rcases pU (.x b)with hu|hm
    ·rw[hu];trivial
    ·rcases g4 _ _ hm with⟨k,c',e1,_⟩|⟨b',e1,_,e2,_⟩
     ·cases e1
     ·cases e1;exact e2
   ·rcases pU (.o i)with hu|hm
    ·rw[hu];trivial
    ·rcases g4 _ _ hm with⟨k,c',e1,_⟩|⟨b',e1,_⟩<;>cases e1
   ·rcases pU r with hu|hm
    ·rw[hu]at hi;simp[cD]at hi
    ·rcases g4 _ _ hm with⟨k,c',_,_,_,_,e5⟩|⟨b',_,_,_,e4⟩
     ·have:=e5 i hi;omega
     ·rw[e4]at hi;cases hi
   ·rcases hi with hi|hi
    ·rcases pU (.x i)with hu|hm
     ·exact absurd hu hi
     ·rcases g4 _ _ hm with⟨k,c',e1,_⟩|⟨b',e1,e2,_⟩
      ·cases e1
      ·cases e1;omega
    ·rcases pU (.o i)with hu|hm
     ·exact absurd hu hi
     ·rcases g4 _ _ hm with⟨k,c',e1,_⟩|⟨b',e1,_⟩<;>cases e1
   ·obtain⟨q1,q2⟩:=cM.fE b l hb
    refine⟨?_,q1⟩
    rcases q2 with rfl|⟨i,rfl,hi⟩
    ·show 0<sg.ps.length+1;omega
    ·have:=(cM.bl i b hi).1;show i<_;omega
  refine LQ (f:=⟨0,λ_ _=>undef,fn.ntmps⟩) (R:=R) (out:=outs) (B:=⟨w,mJ,bl⟩) E (LV E rO n) rO c 0 0 _ ⟨(sn 0 0 sg.ps).1,sg.ps.length+1⟩ [] _ pl _ w ⟨[],ts⟩ _ hb.1 h
   ⟨[],ts,Gh.CJ mJ bl,hF,rfl,⟨[],rfl⟩,⟨[],by simp⟩,g1.symm,λn b hn=>by simp[fact]at hn,iF,fF,trivial⟩ λe=>?_
  have fin:∀(o8:Nat) (s':St) (fK:Ct) (ig:iQ) (p':PL) (a2:Act) (w2:World),Ds cx fn sg o8 s' fK ig=some p'->At S R outs ⟨w,mJ,bl⟩ ⟨0,λ_ _=>undef,fn.ntmps⟩ ⟨[],ts⟩ XT p' o8 s' fK ig a2 w2->
    a2.defers=[]∧∃v,(Go.results fn a2.tmps).run P w2=.ok v w2∧∃v' G is o1 o2,Ending.returned v=.returned v'∧mA sg w mJ bl outs v' w2 G is o1 o2:=by
   rintro o8 s' fK ig p' a2 w2 hk ⟨K2,AM,G2,d1,d2,d3,d4,d5,d6,d7,d8,_⟩
   unfold Ds at hk
   rw[bU]at hk
   obtain⟨vs,nM,hk⟩:=hk
   obtain⟨us,u1,u2,u3⟩:=AO E.cQ d7 nM
   refine⟨d7.dn,mC us,LS u1,?_⟩
   simp only at hk
   split at hk
   ·cases hk;cases d1
   ·rename_i k xs ids D7
    split at hk
    ·cases hk;cases d1
    ·rename_i ys Kl
     cases yQ:C' ids with
     |false=>rw[yQ]at hk;simp only[cond_false,aH]at hk;subst hk;cases d1
     |true=>
      rw[yQ]at hk
      simp only[cond_true]at hk
      cases L5:(Nat.beq k.ct.a (fK.a+oZ k.is)&&zu k.ct.a k.is)with
      |false=>rw[L5]at hk;cases hk
      |true=>
       rw[L5]at hk
       simp only[cond_true,aH]at hk
       subst hk
       simp only[bd]at L5
       have Q4:=cO L5.1
       obtain⟨tz,w1,w3,w4⟩:=Az (S:=S) (R:=R) (K:=K2) (out:=outs) (ρ:=AM) (by rw[d5,<-Q4];exact L5.2) d1
       have L6:k.aO S (AM++tz):=by
        have:=w4 []
        rw[List.append_nil,d5,<-Q4]at this
        exact this
       obtain⟨G3,d9,L7⟩:=(d7.ext (e:=tz)).xB (l:=zM vs sg.rs++wJ s' 0 sg.ps)
       have L8:cA G3 w2 (AM++tz) vs us:=cA.aF (L7.aF w2) (cA.ext u2)
       have hg:∀r,k.get r=(B8 s' (zM vs sg.rs++wJ s' 0 sg.ps)).get r:=λr=>(EU D7).get r
       obtain⟨_,_,is,v3,v4,v5⟩:=L1 D7 (λid=>d9.ob id) L8 L6
       simp only[PL.den,aH,List.map_append]at w3
       have hbo:=EW (k:=k) (λid=>by rw[hg];exact d9.ob id) (λb=>by rw[hg];exact d9.bx b) (λi b hb=>(d9.bt i b hb).2) Kl λn hn=>by rw[Nat.zero_add];exact g3 n hn
       have L9:(is.filterMap id).Nodup:=by rw[v4];exact El yQ
       cases hp:ou sg with
       |false=>exact⟨mC us,G3,is,_,_,rfl,⟨⟨d9.base.os,d9.base.tape,d9.base.output⟩,d9.base.size,d9.base.free,d9.base.yz,λb l hb=>(d9.fE b l hb).2,λhq=>absurd (hp.symm.trans hq) (by simp),w3.symm,L9,L3 v3,hbo⟩⟩
       |true=>
        refine⟨mC us,G3.ft,is,_,_,rfl,⟨⟨d9.base.os,d9.base.tape,d9.base.output⟩,d9.base.size,λb hb h0=>⟨uN (d9.base.free b hb h0).1,(d9.base.free b hb h0).2⟩,λb hb=>⟨wK (d9.base.yz b hb).1 rfl,(d9.base.yz b hb).2⟩,
         λb l hb=>(d9.fE b l (Du hb)).2,λ_ b hb=>by rw[Gh.mD]at hb;exact hb,w3.symm,L9,L3 (v3.ft (VA VB hp) v5),hbo.ft⟩⟩
  cases e with
  |normal=>intro o8 s' fK ig p' a2 w2 dG j4;exact fin o8 s' fK ig p' a2 w2 dG j4
  |ret=>intro o8 s' fK ig p' a2 w2 dG j4;exact fin o8 s' fK ig p' a2 w2 dG j4
  |exit id=>intro o8 s' fK ig p' a2 w2 dG j4;cases dG
end
def pick(l:List (Nat×ai))(g:Nat):ai:=
 match l with
 | []=>λ_=>none
 |e::l=>bif Nat.beq e.1 g then e.2 else pick l g
def Q(p:Prim)(l:List Lf)(r:PL):PL:=.ins (.pr p l) r
def I(n:Int):Lf:=.k (.int .i64 n)
instance Lfn {n:Nat}:OfNat Lf n:=⟨.a n⟩
def Qc(w i:Nat)(l:List Lf)(r:PL):PL:=.ins (.pr (.cell w i) l) r
def Qz(l:List Lf)(r:PL):PL:=.ins (.pr (.iP) l) r
def Qa(l:List Lf)(r:PL):PL:=.ins (.pr (.bin .add) l) r
def Qb(l:List Lf)(r:PL):PL:=.ins (.pr (.ic) l) r
def Ql(l:List Lf)(r:PL):PL:=.ins (.pr (.bin .lss) l) r
def Qe(l:List Lf)(r:PL):PL:=.ins (.pr (.bin .eql) l) r
def Qn(l:List Lf)(r:PL):PL:=.ins (.pr (.len) l) r
def Qt(l:List Lf)(r:PL):PL:=.ins (.pr (.un .not) l) r
def Qp(l:List Lf)(r:PL):PL:=.ins (.pr (.app true 1) l) r
def Qu(l:List Lf)(r:PL):PL:=.ins (.pr (.bin .neq) l) r
def Qg(l:List Lf)(r:PL):PL:=.ins (.pr (.bin .gtr) l) r
def Qm(l:List Lf)(r:PL):PL:=.ins (.pr (.bin .leq) l) r
def Qh(l:List Lf)(r:PL):PL:=.ins (.pr (.bin .geq) l) r
def Qs(l:List Lf)(r:PL):PL:=.ins (.pr (.bin .sub) l) r
def Qx(l:List Lf)(r:PL):PL:=.ins (.pr (.lit 1 [true]) l) r
def Qy(l:List Lf)(r:PL):PL:=.ins (.pr (.app false 8) l) r
def Q1(l:List Lf)(r:PL):PL:=.ins (.pr .ic l)<| .ins (.pr (.cell 1 0) l)<|r
def Q2(l:List Lf)(r:PL):PL:=.ins (.pr .ic l)<| .ins (.pr (.cell 2 0) l)<| .ins (.pr (.cell 2 1) l)<|r
def Q8(l:List Lf)(r:PL):PL:=.ins (.pr .ic l)<| .ins (.pr (.cell 8 0) l)<| .ins (.pr (.cell 8 1) l)<| .ins (.pr (.cell 8 2) l)<| .ins (.pr (.cell 8 3) l)<| .ins (.pr (.cell 8 4) l)<| .ins (.pr (.cell 8 5) l)<| .ins (.pr (.cell 8 6) l)<| .ins (.pr (.cell 8 7) l)<|r
def Qi(g:Nat)(l:List Lf)(m:Nat)(r:PL):PL:=.ins (.cl g l m) r
def Fs(p:PL)(l:List (Nat×ai)):ai:=λts=>p.den (pick l) rounds [] ts
inductive Ty where
 |i (k:IntKind)
 |b
 |s
 |sl (fs:List Ty)
mutual
def WT:Ty->T->Prop
 | .i k,t=>∃n,t=.c (.int k n)∧(Lit.int k n).wf=true
 | .b,t=>∃b,t=.c (.bool b)
 | .s,t=>∃s:ByteArray,t=.c (.string s)∧s.size<=maxLen
 | .sl fs,t=>∃xs,t=.l xs∧xs.length<=maxLen∧∀r∈xs,gu fs r
def gu:List Ty->List T->Prop
 | [],ts=>ts=[]
 |f::fs,ts=>∃t oe,ts=t::oe∧WT f t∧gu fs oe
end
def L_:List Ty->List T->Prop
 | [],ts=>ts=[]
 |f::fs,ts=>∃t oe,ts=t::oe∧(match f with
  | .i k=>∃n,t=.c (.int k n)∧(Lit.int k n).wf=true
  | .b=>∃b,t=.c (.bool b)
  | .s=>∃s:ByteArray,t=.c (.string s)∧s.size<=maxLen
  | .sl gs=>WT (.sl gs) t)∧L_ fs oe
theorem EX:∀{fs:List Ty} {ts:List T},gu fs ts->L_ fs ts
 | [],ts,h=>by unfold gu at h;exact h
 |f::fs,ts,h=>by
  unfold gu at h
  obtain⟨t,oe,rfl,h1,h2⟩:=h
  refine⟨t,oe,rfl,?_,EX h2⟩
  cases f with
  |i k=>unfold WT at h1;exact h1
  |b=>unfold WT at h1;exact h1
  |s=>unfold WT at h1;exact h1
  |sl gs=>exact h1
theorem gu.append:∀{fs gs:List Ty} {ts us:List T},gu fs ts->gu gs us->gu (fs++gs) (ts++us)
 | [],gs,ts,us,h,h'=>by
  unfold gu at h
  subst h
  exact h'
 |f::fs,gs,ts,us,h,h'=>by
  unfold gu at h
  obtain⟨t,oe,rfl,h1,h2⟩:=h
  show gu (f::(fs++gs)) (t::(oe++us))
  unfold gu
  exact⟨t,_,rfl,h1,h2.append h'⟩
theorem gu.length:∀{fs:List Ty} {ts:List T},gu fs ts->ts.length=fs.length
 | [],ts,h=>by
  unfold gu at h
  subst h
  rfl
 |f::fs,ts,h=>by
  unfold gu at h
  obtain⟨t,oe,rfl,h1,h2⟩:=h
  simp[h2.length]
mutual
def bulk:T->Nat
 | .c (.string s)=>s.size
 | .c _=>0
 | .l xs=>lC xs
def uh:List T->Nat
 | []=>0
 |t::ts=>bulk t+uh ts
def lC:List (List T)->Nat
 | []=>0
 |r::rs=>1+(uh r+lC rs)
end
theorem L':∀(xs:List (List T)),xs.length<=lC xs
 | []=>by simp[lC]
 |r::rs=>by have:=L' rs;simp[lC];omega
theorem Ma:∀{xs:List (List T)} {i:Nat} {r:List T},xs[i]?=some r->uh r+1<=lC xs
 | [],_,_,h=>by simp at h
 |r'::rs,0,r,h=>by simp at h;subst h;simp[lC];omega
 |r'::rs,i+1,r,h=>by
  have:=Ma (xs:=rs) (i:=i) (r:=r) (by simpa using h)
  simp[lC];omega
theorem j0_:∀{xs:List (List T)} {i:Nat} {r:List T},xs[i]?=some r->lC (xs.take (i+1))=lC (xs.take i)+(uh r+1)
 | [],_,_,h=>by simp at h
 |r'::rs,0,r,h=>by simp at h;subst h;simp[lC];omega
 |r'::rs,i+1,r,h=>by
  have:=j0_ (xs:=rs) (i:=i) (r:=r) (by simpa using h)
  simp only[List.take_succ_cons,lC,this];omega
theorem VC(xs ys:List (List T)):lC (xs++ys)=lC xs+lC ys:=by
 induction xs with
 |nil=>simp[lC]
 |cons r rs ih=>simp[lC,ih];omega
theorem xD(xs:List (List T)):bulk (.l xs)=lC xs:=by simp only[bulk]
theorem Mb(k:IntKind)(n:Int):bulk (.c (.int k n))=0:=by simp only[bulk]
theorem Mc(b:Bool):bulk (.c (.bool b))=0:=by simp only[bulk]
theorem Md(t:T)(ts:List T):uh (t::ts)=bulk t+uh ts:=by simp only[uh]
theorem ra{α β:Type}(a:α)(f:α->Option β):(some a).bind f=f a:=rfl
theorem yS{n:Int}(h:-9223372036854775808<=n)(h':n<9223372036854775808):IntKind.i64.wrap n=n:=by
 simp[IntKind.wrap,IntKind.bits,IntKind.signed]
 omega
theorem AR(xs:List (List T)):Prim.ev .len [.l xs]=some (.c (.int .i64 xs.length)):=rfl
theorem Me(s:ByteArray):Prim.ev .lens [.c (.string s)]=some (.c (.int .i64 s.size)):=rfl
theorem Mf(k:IntKind)(n:Int):Prim.ev .iP [.c (.int k n)]=some (.c (.int k n)):=rfl
theorem Mg(b:Bool):Prim.ev .iP [.c (.bool b)]=some (.c (.bool b)):=rfl
theorem Mh(s:ByteArray):Prim.ev .iP [.c (.string s)]=some (.c (.string s)):=rfl
theorem AS(k:IntKind)(a b:Int):Prim.ev (.bin .lss) [.c (.int k a),.c (.int k b)]=some (.c (.bool (decide (a<b)))):=by simp[Prim.ev,T.val,fh]
theorem Mi(k:IntKind)(a b:Int):Prim.ev (.bin .leq) [.c (.int k a),.c (.int k b)]=some (.c (.bool (decide (a<=b)))):=by simp[Prim.ev,T.val,fh]
theorem Mk(k:IntKind)(a b:Int):Prim.ev (.bin .gtr) [.c (.int k a),.c (.int k b)]=some (.c (.bool (decide (a>b)))):=by simp[Prim.ev,T.val,fh]
theorem Ml(k:IntKind)(a b:Int):Prim.ev (.bin .geq) [.c (.int k a),.c (.int k b)]=some (.c (.bool (decide (a>=b)))):=by simp[Prim.ev,T.val,fh]
theorem EY(k:IntKind)(a b:Int):Prim.ev (.bin .eql) [.c (.int k a),.c (.int k b)]=some (.c (.bool (a==b))):=by simp[Prim.ev,T.val,fh]
theorem Mm(k:IntKind)(a b:Int):Prim.ev (.bin .neq) [.c (.int k a),.c (.int k b)]=some (.c (.bool (a !=b))):=by simp[Prim.ev,T.val,fh]
theorem CK(k:IntKind)(a b:Int):Prim.ev (.bin .add) [.c (.int k a),.c (.int k b)]=some (.c (.int k (k.wrap (a+b)))):=by simp[Prim.ev,T.val,fh]
theorem Mo(k:IntKind)(a b:Int):Prim.ev (.bin .sub) [.c (.int k a),.c (.int k b)]=some (.c (.int k (k.wrap (a-b)))):=by simp[Prim.ev,T.val,fh]
theorem EZ(k:IntKind)(a b:Int):Prim.ev (.bin .mul) [.c (.int k a),.c (.int k b)]=some (.c (.int k (k.wrap (a*b)))):=by simp[Prim.ev,T.val,fh]
theorem Mp(a b:ByteArray):Prim.ev (.bin .eql) [.c (.string a),.c (.string b)]=some (.c (.bool (a.toList==b.toList))):=by simp[Prim.ev,T.val,fh]
theorem Mq(a b:ByteArray):Prim.ev (.bin .neq) [.c (.string a),.c (.string b)]=some (.c (.bool !(a.toList==b.toList))):=by simp[Prim.ev,T.val,fh]
theorem Mr(a b:Bool):Prim.ev (.bb .neq) [.c (.bool a),.c (.bool b)]=some (.c (.bool (a !=b))):=by cases a<;>cases b<;>rfl
theorem Ms(a b:Bool):Prim.ev (.bb .eql) [.c (.bool a),.c (.bool b)]=some (.c (.bool (a==b))):=by cases a<;>cases b<;>rfl
theorem Mu(a:Bool):Prim.ev (.un .not) [.c (.bool a)]=some (.c (.bool !a)):=by cases a<;>rfl
theorem AU{xs:List (List T)}{i:Nat}{r:List T}{k:IntKind}(h:xs[i]?=some r):sE (.l xs) (.c (.int k (i:Int)))=some r:=by
 simp[sE,T.rows,T.int,h]
theorem Mw{xs:List (List T)}{i:Nat}{r:List T}{k:IntKind}(h:xs[i]?=some r):Prim.ev .ic [.l xs,.c (.int k (i:Int))]=some (.c (.bool true)):=by
 simp[Prim.ev,AU h]
theorem Mx{sc:Bool}{xs:List (List T)}{i w off n:Nat}{r vs:List T}{k:IntKind}(h:xs[i]?=some r)(hw:r.length=w)(ho:off+n<=w)(hv:vs.length=n)(hs:(!sc||vs.all cF)=true):
  Prim.ev (.put sc w off n) (.l xs:: .c (.int k (i:Int))::vs)=some (.l (setRow xs i off vs)):=by
 simp only[Prim.ev,AU h,hw,ho,hv,hs,T.rows,T.int,Option.bind_some,if_true,Int.toNat_natCast]
theorem VD{S:Nat->ai}{R:Nat}{K:List ai}{ρ:List T}(xs:List Lf):PL.den S R K ρ (.ret xs)=some (xs.map (Lf.ev ρ)):=by simp only[PL.den]
theorem tc{S:Nat->ai}{R:Nat}{K:List ai}{ρ:List T}(p:Prim)(xs:List Lf)(k:PL):PL.den S R K ρ (.ins (.pr p xs) k)=(p.ev (xs.map (Lf.ev ρ))).bind λt=>k.den S R K (ρ++[t]):=by simp only[PL.den]
theorem VE{S:Nat->ai}{R:Nat}{K:List ai}{ρ:List T}(g:Nat)(xs:List Lf)(m:Nat)(k:PL):PL.den S R K ρ (.ins (.cl g xs m) k)=(S g (xs.map (Lf.ev ρ))).bind λts=>k.den S R K (ρ++pZ ts 0 m):=by simp only[PL.den]
def aC(t:T)(x y:Option (List T)):Option (List T):=match t with
 | .c (.bool b)=>bif b then x else y
 |_=>none
theorem E0(b:Bool)(x y:Option (List T)):aC (.c (.bool b)) x y=bif b then x else y:=rfl
theorem AV{S:Nat->ai}{R:Nat}{K:List ai}{ρ:List T}(c:Nat)(x y:PL):PL.den S R K ρ (.ite c x y)=aC (ρ.getD c T.bp) (x.den S R K ρ) (y.den S R K ρ):=by
 simp only[PL.den,aC]
 generalize ρ.getD c T.bp=t
 cases t with
 |c v=>cases v<;>rfl
 |l xs=>rfl
theorem VF{S:Nat->ai}{R:Nat}{K:List ai}{ρ:List T}(xs:List Lf)(b:PL):PL.den S R K ρ (.loop xs b)=iter (λself ts=>b.den S R (self::K) (ρ++ts)) R (xs.map (Lf.ev ρ)):=by simp only[PL.den]
theorem My{S:Nat->ai}{R:Nat}{f:ai}{K:List ai}{ρ:List T}(xs:List Lf):PL.den S R (f::K) ρ (.go 0 xs)=f (xs.map (Lf.ev ρ)):=by simp[PL.den]
theorem Mz{S:Nat->ai}{R j:Nat}{f:ai}{K:List ai}{ρ:List T}(xs:List Lf):PL.den S R (f::K) ρ (.go (j+1) xs)=PL.den S R K ρ (.go j xs):=by simp[PL.den]
theorem td(ρ:List T)(v:Value):Lf.ev ρ (.k v)=.c v:=rfl
theorem VG(ρ:List T):Lf.ev ρ .e=.l []:=rfl
theorem jN(ρ:List T)(n:Nat):Lf.ev ρ (.a n)=ρ.getD n T.bp:=rfl
set_option linter.unusedSimpArgs false
theorem gu.one{f:Ty}{ts:List T}(h:gu [f] ts):∃t,ts=[t]∧WT f t:=by
 unfold gu at h
 obtain⟨t,oe,rfl,h1,h2⟩:=h
 unfold gu at h2
 subst h2
 exact⟨t,rfl,h1⟩
theorem VH{α:Type}{xs:List α}{i:Nat}{r:α}(h:xs[i]?=some r):r∈xs:=List.mem_of_getElem? h
theorem VI{α:Type}{xs:List α}{i:Nat}(h:i<xs.length):∃r,xs[i]?=some r:=⟨xs[i],List.getElem?_eq_getElem h⟩
def VJ:Nat->Nat->List Lf
 |_,0=>[]
 |b,n+1=>.a b::VJ (b+1) n
theorem xp{ρ B:List T}{n:Nat}(h:n<ρ.length):Lf.ev (ρ++B) (.a n)=Lf.ev ρ (.a n):=by
 simp[Lf.ev,List.getD,List.getElem?_append_left h]
set_option linter.unusedSimpArgs false
theorem VK{α:Type}{xs:List α}{i:Nat}{r:α}(h:xs[i]?=some r):xs.take (i+1)=xs.take i++[r]:=by
 rw[List.take_add_one,h];rfl
set_option linter.unusedSimpArgs false
theorem VL{α β:Type}{F:(α->Option β)->α->Option β}{n:Nat}(Inv:Nat->α->Prop){Q:Option β->Prop}
  (step:∀i x,i<n->Inv i x->∀s,(∃x',Inv (i+1) x'∧F s x=s x')∨Q (F s x))(fin:∀x,Inv n x->∀s,Q (F s x)){x:α}(hx:Inv 0 x){R:Nat}(hR:n<R):Q (iter F R x):=by
 have:∀d i x,i+d=n->Inv i x->∀R,d<R->Q (iter F R x):=by
  intro d
  induction d with
  |zero=>
   intro i x hi hx R hR
   cases R with
   |zero=>omega
   |succ R=>rw[Nat.add_zero]at hi;subst hi;exact fin x hx _
  |succ d ih=>
   intro i x hi hx R hR
   cases R with
   |zero=>omega
   |succ R=>
    unfold iter
    rcases step i x (by omega) hx (iter F R)with⟨x',h1,h2⟩|h
    ·rw[h2];exact ih (i+1) x' (by omega) h1 R (by omega)
    ·exact h
 exact this n 0 x (by omega) hx R hR
def ais(o o':Option (List T)):Prop:=∃b,o=some [.c (.bool b)]∧o'=some [.c (.bool b)]
theorem VM(a b c d:Int):Prim.ev (.oY [1,1]) [.c (.int .i64 a),.c (.int .i64 b),.c (.int .i64 c),.c (.int .i64 d)]=some (.c (.bool (a==c&&(b==d)))):=by
 simp[Prim.ev,sF,C7]
set_option linter.unusedSimpArgs false
def fu(g:Nat->List T->Nat×List T):Nat->List (List T)->Nat×List (List T)
 |n,[]=>(n,[])
 |n,r::rs=>((fu g (g n r).1 rs).1,(g n r).2::(fu g (g n r).1 rs).2)
mutual
def oR:Ty->Nat->T->Nat×T
 | .i k,n,_=>(n+1,.c (.int k (n:Int)))
 | .b,n,_=>(n+1,.c (.bool (n%3==0)))
 | .s,n,t=>(n,t)
 | .sl fs,n,t=>match t with
  | .l xs=>((fu (fJ fs) n xs).1,.l (fu (fJ fs) n xs).2)
  |t=>(n,t)
def fJ:List Ty->Nat->List T->Nat×List T
 | [],n,_=>(n,[])
 |f::fs,n,ts=>match ts with
  |t::ts=>((fJ fs (oR f n t).1 ts).1,(oR f n t).2::(fJ fs (oR f n t).1 ts).2)
  | []=>(n,[])
end
theorem AW(n:Nat)(ts:List T):fJ [] n ts=(n,[]):=by simp only[fJ]
theorem AX(f:Ty)(fs:List Ty)(n:Nat)(t:T)(ts:List T):fJ (f::fs) n (t::ts)=((fJ fs (oR f n t).1 ts).1,(oR f n t).2::(fJ fs (oR f n t).1 ts).2):=by simp only[fJ]
theorem E1(k:IntKind)(n:Nat)(t:T):oR (.i k) n t=(n+1,.c (.int k (n:Int))):=by simp only[oR]
theorem E2(n:Nat)(t:T):oR .b n t=(n+1,.c (.bool (n%3==0))):=by simp only[oR]
theorem E3(fs:List Ty)(n:Nat)(xs:List (List T)):oR (.sl fs) n (.l xs)=((fu (fJ fs) n xs).1,.l (fu (fJ fs) n xs).2):=by simp only[oR]
theorem MA{g:Nat->List T->Nat×List T}:∀(xs:List (List T)) (n:Nat) (r:List T),fu g n (xs++[r])=((g (fu g n xs).1 r).1,(fu g n xs).2++[(g (fu g n xs).1 r).2])
 | [],n,r=>rfl
 |x::xs,n,r=>by
  show((fu g (g n x).1 (xs++[r])).1,(g n x).2::(fu g (g n x).1 (xs++[r])).2)=_
  rw[MA xs]
  rfl
theorem Rq{g:Nat->List T->Nat×List T}:∀(xs:List (List T)) (n:Nat),(fu g n xs).2.length=xs.length
 | [],n=>rfl
 |x::xs,n=>by simp[fu,Rq xs]
theorem VN{g:Nat->List T->Nat×List T}{xs:List (List T)}{i:Nat}{r:List T}(h:xs[i]?=some r)(n:Nat):fu g n (xs.take (i+1))=((g (fu g n (xs.take i)).1 r).1,(fu g n (xs.take i)).2++[(g (fu g n (xs.take i)).1 r).2]):=by
 rw[VK h,MA]
mutual
def vW:Ty->Bool
 | .i .i64=>true
 | .i _=>false
 | .b=>true
 | .s=>false
 | .sl fs=>Nat.ble fs.length 64&&nO fs
def nO:List Ty->Bool
 | []=>true
 |f::fs=>vW f&&nO fs
end
theorem E4{f:Ty}{fs:List Ty}(h:nO (f::fs)=true):vW f=true∧nO fs=true:=by
 unfold nO at h
 simpa using h
theorem xE{fs:List Ty}(h:vW (.sl fs)=true):fs.length<=64∧nO fs=true:=by
 unfold vW at h
 simp only[bd]at h
 exact⟨Nat.le_of_ble_eq_true h.1,h.2⟩
theorem MB{g:Nat->List T->Nat×List T}{xs:List (List T)}(hg:∀n,∀r∈xs,n<=(g n r).1∧(g n r).1<=n+64*(1+uh r)):∀(n:Nat),n<=(fu g n xs).1∧(fu g n xs).1<=n+64*lC xs:=by
 induction xs with
 |nil=>intro n;simp[fu,lC]
 |cons x xs ih=>
  intro n
  have h1:=hg n x (.head _)
  have h2:=ih (λn r hr=>hg n r (.tail _ hr)) (g n x).1
  simp only[fu,lC]
  omega
mutual
theorem E5:∀(f:Ty) (n:Nat) (t:T),vW f=true->WT f t->n<=(oR f n t).1∧(oR f n t).1<=n+1+64*bulk t
 | .i k,n,t,_,_=>by simp only[E1];omega
 | .b,n,t,_,_=>by simp only[E2];omega
 | .s,n,t,h,_=>by simp[vW]at h
 | .sl fs,n,t,h,ht=>by
  unfold WT at ht
  obtain⟨xs,rfl,_,hx⟩:=ht
  have hm:=xE h
  rw[E3,xD]
  have:=MB (g:=fJ fs) (xs:=xs) (λn r hr=>by
   have:=AY fs n r hm.2 (hx r hr)
   omega) n
  simp only
  omega
theorem AY:∀(fs:List Ty) (n:Nat) (ts:List T),nO fs=true->gu fs ts->n<=(fJ fs n ts).1∧(fJ fs n ts).1<=n+fs.length+64*uh ts
 | [],n,ts,_,_=>by simp only[AW,List.length_nil];omega
 |f::fs,n,ts,h,ht=>by
  unfold gu at ht
  obtain⟨t,oe,rfl,h1,h2⟩:=ht
  have hm:=E4 h
  have g1:=E5 f n t hm.1 h1
  have g2:=AY fs (oR f n t).1 oe hm.2 h2
  rw[AX,Md]
  simp only[List.length_cons]
  omega
end
mutual
theorem VO:∀(f:Ty) (n:Nat) (t:T),vW f=true->WT f t->n+1+64*bulk t<4611686018427387904->WT f (oR f n t).2∧bulk (oR f n t).2=bulk t
 | .i k,n,t,hk,ht,hn=>by
  unfold WT at ht
  obtain⟨m,rfl,_⟩:=ht
  rw[E1,Mb,Mb]
  refine⟨?_,rfl⟩
  unfold WT
  cases k with
  |i64=>exact⟨n,rfl,by simp[Lit.wf,IntKind.min,IntKind.max,IntKind.signed,IntKind.bits];omega⟩
  |_=>simp[vW]at hk
 | .b,n,t,_,ht,_=>by
  unfold WT at ht
  obtain⟨m,rfl⟩:=ht
  rw[E2,Mc,Mc]
  refine⟨?_,rfl⟩
  unfold WT
  exact⟨_,rfl⟩
 | .s,n,t,h,_,_=>by simp[vW]at h
 | .sl fs,n,t,h,ht,hn=>by
  unfold WT at ht
  obtain⟨xs,rfl,hl,hx⟩:=ht
  have hm:=xE h
  rw[E3,xD,xD]
  rw[xD]at hn
  have:∀(xs:List (List T)) (n:Nat),(∀r∈xs,gu fs r)->n+1+64*lC xs<4611686018427387904->(∀r∈(fu (fJ fs) n xs).2,gu fs r)∧lC (fu (fJ fs) n xs).2=lC xs:=by
   intro xs
   induction xs with
   |nil=>intro n _ _;simp[fu]
   |cons x xs ih=>
    intro n hx hn
    simp only[lC]at hn
    have g0:=AY fs n x hm.2 (hx x (.head _))
    have g1:=MC fs n x hm.2 (hx x (.head _)) (by omega)
    have g2:=ih (fJ fs n x).1 (λr hr=>hx r (.tail _ hr)) (by omega)
    simp only[fu,lC,List.mem_cons]
    refine⟨?_,by rw[g1.2,g2.2]⟩
    rintro r (rfl|hr)
    ·exact g1.1
    ·exact g2.1 r hr
  have:=this xs n hx hn
  refine⟨?_,this.2⟩
  unfold WT
  exact⟨_,rfl,by rw[Rq];exact hl,this.1⟩
theorem MC:∀(fs:List Ty) (n:Nat) (ts:List T),nO fs=true->gu fs ts->n+fs.length+64*uh ts<4611686018427387904->gu fs (fJ fs n ts).2∧uh (fJ fs n ts).2=uh ts
 | [],n,ts,_,ht,_=>by
  unfold gu at ht
  subst ht
  rw[AW]
  refine⟨?_,rfl⟩
  unfold gu
  rfl
 |f::fs,n,ts,h,ht,hn=>by
  unfold gu at ht
  obtain⟨t,oe,rfl,h1,h2⟩:=ht
  have hm:=E4 h
  simp only[Md,List.length_cons]at hn
  have g0:=E5 f n t hm.1 h1
  have g1:=VO f n t hm.1 h1 (by omega)
  have g2:=MC fs (oR f n t).1 oe hm.2 h2 (by omega)
  rw[AX,Md,Md,g1.2,g2.2]
  refine⟨?_,rfl⟩
  unfold gu
  exact⟨_,_,rfl,g1.1,g2.1⟩
end
theorem og{ρ:List T}{n:Nat}{t:T}(h:ρ.getD n T.bp=t)(hn:n<ρ.length)(B:List T):(ρ++B).getD n T.bp=t:=by
 rw[<-h]
 simp[List.getD,List.getElem?_append_left hn]
theorem CL{ρ B:List T}{t:T}:(ρ++t::B).getD ρ.length T.bp=t:=by
 simp[List.getD]
theorem VP(n:Nat):Prim.ev (.bin .rem) [.c (.int .i64 (n:Int)),.c (.int .i64 3)]=some (.c (.int .i64 ((n%3:Nat):Int))):=by
 simp only[Prim.ev,T.val,fh,Option.bind_some,if_true]
 rw[if_neg (by decide)]
 simp only[Option.bind_some]
 congr 3
theorem VQ(a b:Nat):(((a:Int))==(b:Int))=(a==b):=by
 rw[Bool.eq_iff_iff]
 simp only[beq_iff_eq]
 omega
set_option linter.unusedSimpArgs false
theorem sB{ρ:List T}{p:Nat}(hp:ρ.length=p)(m:Nat)(B:List T):(ρ++B).getD (p+m) T.bp=B.getD m T.bp:=by
 subst hp
 simp only[List.getD,List.getElem?_append_right (Nat.le_add_right _ _),Nat.add_sub_cancel_left]
end Go.Proofs.YtbhplkilhknciaaC

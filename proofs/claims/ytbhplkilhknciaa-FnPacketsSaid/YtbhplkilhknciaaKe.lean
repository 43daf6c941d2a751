/- The walk by reflection: a part of its laws, for any function. Conditions: none. -/
import Derived.Test.YtbhplkilhknciaaKd
import Derived.ChangeSame
import Derived.JoinedOf
import Derived.JoinedAt
import Derived.RowKit3
import Derived.Carry
namespace Go.Proofs.YtbhplkilhknciaaC
set_option linter.unusedVariables false
set_option linter.unusedSimpArgs false
abbrev Pt:=List (Nat×Nat×Nat)
def et:Pt->T->Option T
 | [],t=>some t
 |(i,w,j)::P,.l xs=>(xs[i]?).bind λr=>if r.length=w then(r[j]?).bind λt=>t.rows.bind λys=>et P (.l ys)else none
 |_::_,.c _=>none
def cE:Pt->T->T->T
 | [],_,v=>v
 |(i,w,j)::P,.l xs,v=>.l (setRow xs i j [cE P (((xs[i]?).bind (·[j]?)).getD T.bp) v])
 |_::_,t,_=>t
theorem E6{i w j:Nat}{P:Pt}{t d:T}(h:et ((i,w,j)::P) t=some d):∃xs r ys,t=.l xs∧xs[i]?=some r∧r.length=w∧r[j]?=some (.l ys)∧et P (.l ys)=some d:=by
 cases t with
 |c v=>simp[et]at h
 |l xs=>
  simp only[et,bU]at h
  obtain⟨r,hr,h⟩:=h
  split at h
  ·rename_i hw
   rw[bU]at h
   obtain⟨u,hu,h⟩:=h
   cases u with
   |c v=>simp[T.rows]at h
   |l ys=>exact⟨xs,r,ys,rfl,hr,hw,hu,by simpa[T.rows]using h⟩
  ·cases h
theorem E7{i w j:Nat}{P:Pt}{xs:List (List T)}{r:List T}{ys:List (List T)}{d:T}(h1:xs[i]?=some r)(h2:r.length=w)(h3:r[j]?=some (.l ys))(h4:et P (.l ys)=some d):et ((i,w,j)::P) (.l xs)=some d:=by
 simp[et,h1,h2,h3,T.rows,h4]
theorem AZ{xs:List (List T)}{i:Nat}{a b:List T}{t v:T}{j:Nat}(h:xs[i]?=some (a++t::b))(hj:a.length=j):setRow xs i j [v]=xs.set i (a++v::b):=by
 subst hj
 unfold setRow
 apply List.ext_getElem?
 intro k
 rw[List.getElem?_modify,List.getElem?_set]
 by_cases hk:i=k
 ·subst hk
  have hi:i<xs.length:=(List.getElem?_eq_some_iff.1 h).1
  rw[h]
  simp[hi]
 ·simp[hk]
theorem E8{r:List T}{j:Nat}{t:T}(h:r[j]?=some t):∃a b,r=a++t::b∧a.length=j:=by
 obtain⟨hj,he⟩:=List.getElem?_eq_some_iff.1 h
 refine⟨r.take j,r.drop (j+1),?_,by simp;omega⟩
 rw[<-he,<-List.drop_eq_getElem_cons hj,List.take_append_drop]
theorem VR{xs:List (List T)}{i:Nat}{r:List T}{t v:T}{j:Nat}(h:xs[i]?=some r)(hj:r[j]?=some t):∃r',(setRow xs i j [v])[i]?=some r'∧r'.length=r.length∧r'[j]?=some v:=by
 obtain⟨a,b,rfl,ha⟩:=E8 hj
 have hi:i<xs.length:=(List.getElem?_eq_some_iff.1 h).1
 rw[AZ h ha]
 refine⟨a++v::b,by simp[hi],by simp,?_⟩
 subst ha
 simp
theorem ME:∀{P:Pt} {t d:T} {v:List (List T)},et P t=some d->et P (cE P t (.l v))=some (.l v)
 | [],t,d,v,_=>rfl
 |(i,w,j)::P,t,d,v,h=>by
  obtain⟨xs,r,ys,rfl,h1,h2,h3,h4⟩:=E6 h
  have ih:=ME (v:=v) h4
  have e:((xs[i]?).bind (·[j]?)).getD T.bp=.l ys:=by simp[h1,h3]
  simp only[cE,e]
  cases hs:cE P (.l ys) (.l v)with
  |c u=>rw[hs]at ih;cases P with
   |nil=>simp[et]at ih
   |cons q P=>obtain⟨q1,q2,q3⟩:=q;simp[et]at ih
  |l zs=>
   obtain⟨r',g1,g2,g3⟩:=VR (v:=.l zs) h1 h3
   rw[hs]at ih
   exact E7 g1 (by rw[g2,h2]) g3 ih
theorem E9:∀{P:Pt} {t d:T} {v:List (List T)} {v':T},et P t=some d->cE P (cE P t (.l v)) v'=cE P t v'
 | [],t,d,v,v',_=>rfl
 |(i,w,j)::P,t,d,v,v',h=>by
  obtain⟨xs,r,ys,rfl,h1,h2,h3,h4⟩:=E6 h
  have ih:=E9 (v:=v) (v':=v') h4
  have e:((xs[i]?).bind (·[j]?)).getD T.bp=.l ys:=by simp[h1,h3]
  obtain⟨a,b,rfl,ha⟩:=E8 h3
  have hi:i<xs.length:=(List.getElem?_eq_some_iff.1 h1).1
  have e2:∀u:T,(((setRow xs i j [u])[i]?).bind (·[j]?)).getD T.bp=u:=by
   intro u
   rw[AZ h1 ha]
   subst ha
   simp[hi]
  simp only[cE,e,e2,ih]
  congr 1
  have g1:(xs.set i (a++cE P (.l ys) (.l v)::b))[i]?=some (a++cE P (.l ys) (.l v)::b):=by simp[hi]
  rw[AZ h1 ha,AZ h1 ha,AZ g1 ha,List.set_set]
theorem MF{xs:List (List T)}{i:Nat}{r:List T}(h:xs[i]?=some r):xs.set i r=xs:=by
 apply List.ext_getElem?
 intro k
 rw[List.getElem?_set]
 by_cases hk:i=k
 ·subst hk
  have hi:i<xs.length:=(List.getElem?_eq_some_iff.1 h).1
  simp[hi,h.symm]
 ·simp[hk]
theorem E_:∀{P:Pt} {t d:T},et P t=some d->cE P t d=t
 | [],t,d,h=>by simp only[et,aH]at h;exact h.symm
 |(i,w,j)::P,t,d,h=>by
  obtain⟨xs,r,ys,rfl,h1,h2,h3,h4⟩:=E6 h
  have ih:=E_ h4
  have e:((xs[i]?).bind (·[j]?)).getD T.bp=.l ys:=by simp[h1,h3]
  obtain⟨a,b,rfl,ha⟩:=E8 h3
  simp only[cE,e,ih]
  rw[AZ h1 ha,MF h1]
theorem MG:∀{P Q:Pt} {t:T},et (P++Q) t=(et P t).bind (et Q)
 | [],Q,t=>rfl
 |(i,w,j)::P,Q,.c v=>by simp[et]
 |(i,w,j)::P,Q,.l xs=>by
  simp only[List.cons_append,et]
  cases xs[i]? with
  |none=>rfl
  |some r=>
   simp only[Option.bind_some]
   split
   ·cases r[j]? with
    |none=>rfl
    |some u=>
     simp only[Option.bind_some]
     cases u with
     |c v=>rfl
     |l ys=>simp only[T.rows,Option.bind_some];exact MG
   ·rfl
theorem MH:∀{P Q:Pt} {t d v:T},et P t=some d->cE (P++Q) t v=cE P t (cE Q d v)
 | [],Q,t,d,v,h=>by simp only[et,aH]at h;subst h;rfl
 |(i,w,j)::P,Q,t,d,v,h=>by
  obtain⟨xs,r,ys,rfl,h1,h2,h3,h4⟩:=E6 h
  have e:((xs[i]?).bind (·[j]?)).getD T.bp=.l ys:=by simp[h1,h3]
  simp only[List.cons_append,cE,e,MH h4]
def cn(ρ:List T):Pt->Pt->Prop
 | [],[]=>True
 |(a,w,j)::P,(i,w',j')::Q=>w=w'∧j=j'∧a<ρ.length∧ρ.getD a T.bp=.c (.int .i64 (i:Int))∧cn ρ P Q
 |_,_=>False
theorem cn.ext{ρ:List T}(B:List T):∀{P Q:Pt},cn ρ P Q->cn (ρ++B) P Q
 | [],[],_=>trivial
 |(a,w,j)::P,(i,w',j')::Q,⟨h1,h2,h3,h4,h5⟩=>⟨h1,h2,by simp;omega,og h4 h3 B,cn.ext B h5⟩
 | [],_::_,h=>h.elim
 |(_,_,_)::_,[],h=>h.elim
theorem cn.snoc{ρ:List T}{a i w j:Nat}(h1:a<ρ.length)(h2:ρ.getD a T.bp=.c (.int .i64 (i:Int))):∀{P Q:Pt},cn ρ P Q->cn ρ (P++[(a,w,j)]) (Q++[(i,w,j)])
 | [],[],_=>⟨rfl,rfl,h1,h2,trivial⟩
 |(a',w',j')::P,(i',Sz,j'')::Q,⟨g1,g2,g3,g4,g5⟩=>⟨g1,g2,g3,g4,cn.snoc h1 h2 g5⟩
 | [],_::_,h=>h.elim
 |(_,_,_)::_,[],h=>h.elim
def yT:Pt->Nat->Nat->(Nat->Nat->PL)->PL
 | [],s,p,k=>k s p
 |(a,w,j)::P,s,p,k=>.ins (.pr (.nC w j) [.a s,.a a]) (yT P p (p+1) k)
def HF:Pt->Nat->Nat->Nat->Nat->(Nat->Nat->PL)->PL
 | [],_,_,v,p,k=>k v p
 |(a,w,j)::P,e,e',v,p,k=>HF P e' (e'+1) v p λv' p'=>.ins (.pr (.uz w j) [.a e,.a a,.a v']) (k p' (p'+1))
theorem MI{xs:List (List T)}{i w j:Nat}{r:List T}{ys:List (List T)}(h:xs[i]?=some r)(hw:r.length=w)(hj:r[j]?=some (.l ys)):Prim.ev (.nC w j) [.l xs,.c (.int .i64 (i:Int))]=some (.l ys):=by
 simp[Prim.ev,AU h,hw,hj,T.rows]
theorem VS{xs:List (List T)}{i w j:Nat}{r:List T}{v:T}(h:xs[i]?=some r)(hw:r.length=w)(hj:j<w):Prim.ev (.uz w j) [.l xs,.c (.int .i64 (i:Int)),v]=some (.l (setRow xs i j [v])):=by
 simp[Prim.ev,AU h,hw,hj,T.rows,T.int]
def jC:Pt->T->List T
 | [],_=>[]
 |(i,w,j)::P,t=>match et [(i,w,j)] t with
  |some u=>u::jC P u
  |none=>[]
theorem E'{i w j:Nat}{P:Pt}{xs:List (List T)}{r:List T}{ys:List (List T)}(h1:xs[i]?=some r)(h2:r.length=w)(h3:r[j]?=some (.l ys)):jC ((i,w,j)::P) (.l xs)=.l ys::jC P (.l ys):=by
 simp only[jC,E7 h1 h2 h3 (P:=[]) rfl]
section
variable {S:Nat->ai} {R:Nat} {K:List ai} {out:Option (List T)}
theorem CM:∀{P Q:Pt} {s p:Nat} {k:Nat->Nat->PL} {ρ:List T} {t d:T},cn ρ P Q->et Q t=some d->ρ.length=p->s<p->ρ.getD s T.bp=t->
  (∀e,(jC Q t).length=P.length->e<p+P.length->(ρ++jC Q t).getD e T.bp=d->PL.den S R K (ρ++jC Q t) (k e (p+P.length))=out)->PL.den S R K ρ (yT P s p k)=out
 | [],[],s,p,k,ρ,t,d,_,hg,hp,hs,ht,hk=>by
  simp only[et,aH]at hg
  subst hg
  have:=hk s rfl (by simpa using hs) (by simpa[jC]using ht)
  simpa[jC,yT]using this
 |(a,w,j)::P,(i,w',j')::Q,s,p,k,ρ,t,d,⟨z1,z2,h3,h4,h5⟩,hg,hp,hs,ht,hk=>by
  subst z1 z2
  obtain⟨xs,r,ys,rfl,g1,g2,g3,g4⟩:=E6 hg
  rw[E' g1 g2 g3]at hk
  simp only[yT,tc,List.map_cons,List.map_nil,jN,ht,h4,MI g1 g2 g3,ra]
  refine CM (cn.ext _ h5) g4 (by simp[hp]) (by omega) (by rw[<-hp];exact CL) λe SO he2 he3=>?_
  rw[List.append_assoc]at he3⊢
  have:=hk e (by simp[SO]) (by simp;omega) he3
  simpa[Nat.add_assoc,Nat.add_comm 1]using this
 | [],_::_,_,_,_,_,_,_,h,_,_,_,_,_=>h.elim
 |(_,_,_)::_,[],_,_,_,_,_,_,h,_,_,_,_,_=>h.elim
theorem MJ:∀{P Q:Pt} {e e' v p:Nat} {k:Nat->Nat->PL} {ρ:List T} {t d vv:T},cn ρ P Q->et Q t=some d->ρ.length=p->e<p->ρ.getD e T.bp=t->(∀m x,(jC Q t)[m]?=some x->e'+m<p∧ρ.getD (e'+m) T.bp=x)->v<p->ρ.getD v T.bp=vv->
  (∀(B:List T) (v' p':Nat),(ρ++B).length=p'->v'<p'->(ρ++B).getD v' T.bp=cE Q t vv->PL.den S R K (ρ++B) (k v' p')=out)->PL.den S R K ρ (HF P e e' v p k)=out
 | [],[],e,e',v,p,k,ρ,t,d,vv,_,hg,hp,he,ht,hc,hv,qS,hk=>by
  have:=hk [] v p (by simpa using hp) hv (by simpa[cE]using qS)
  simpa[HF]using this
 |(a,w,j)::P,(i,w',j')::Q,e,e',v,p,k,ρ,t,d,vv,⟨z1,z2,h3,h4,h5⟩,hg,hp,he,ht,hc,hv,qS,hk=>by
  subst z1 z2
  obtain⟨xs,r,ys,rfl,g1,g2,g3,g4⟩:=E6 hg
  rw[E' g1 g2 g3]at hc
  have c0:=hc 0 _ rfl
  have hjw:j<w:=by rw[<-g2];exact(List.getElem?_eq_some_iff.1 g3).1
  rw[show HF ((a,w,j)::P) e e' v p k=HF P e' (e'+1) v p (λv' p'=>.ins (.pr (.uz w j) [.a e,.a a,.a v']) (k p' (p'+1))) from rfl]
  refine MJ h5 g4 hp c0.1 c0.2 (λm x hm=>?_) hv qS λB v' p' q1 q2 q3=>?_
  ·have:=hc (m+1) x (by simpa using hm)
   rw[show e'+1+m=e'+(m+1) by omega]
   exact this
  ·have x1:=og ht (by omega) B
   have x2:=og h4 h3 B
   simp only[tc,List.map_cons,List.map_nil,jN,x1,x2,q3,VS g1 g2 hjw,ra]
   rw[List.append_assoc]
   have e0:((xs[i]?).bind (·[j]?)).getD T.bp=.l ys:=by simp[g1,g3]
   refine hk _ p' (p'+1) (by simp at q1⊢;omega) (by omega) ?_
   rw[<-List.append_assoc,<-q1,CL]
   simp only[cE,e0]
 | [],_::_,_,_,_,_,_,_,_,_,_,h,_,_,_,_,_,_,_,_=>h.elim
 |(_,_,_)::_,[],_,_,_,_,_,_,_,_,_,h,_,_,_,_,_,_,_,_=>h.elim
def A0(P:Pt)(k w j s v p:Nat)(cont:Nat->Nat->PL):PL:=
 yT P s p λd p1=>.ins (.pr .ic [.a d,.a k])<|yT P s (p1+1) λd2 p2=>.ins (.pr (.put true w j 1) [.a d2,.a k,.a v])<|
  match P with
  | []=>cont p2 (p2+1)
  |_::_=>yT P s (p2+1) λ_ p3=>HF P s (p2+1) p2 p3 cont
theorem MK{P Q:Pt}{k w j s v p kv:Nat}{cont:Nat->Nat->PL}{ρ:List T}{t vv:T}{xs:List (List T)}{r:List T}(hP:cn ρ P Q)(hg:et Q t=some (.l xs))(hp:ρ.length=p)(hs:s<p)(ht:ρ.getD s T.bp=t)
  (hkp:k<p)(hk:ρ.getD k T.bp=.c (.int .i64 (kv:Int)))(hv:v<p)(qS:ρ.getD v T.bp=vv)(lA:cF vv=true)(hr:xs[kv]?=some r)(hw:r.length=w)(hj:j<w)
  (hc:∀(B:List T) (s' p':Nat),(ρ++B).length=p'->s'<p'->(ρ++B).getD s' T.bp=cE Q t (.l (setRow xs kv j [vv]))->PL.den S R K (ρ++B) (cont s' p')=out):PL.den S R K ρ (A0 P k w j s v p cont)=out:=by
 have mu:=Mx (sc:=true) (k:=.i64) (off:=j) (n:=1) (vs:=[vv]) hr hw (by omega) rfl (by simp[lA])
 unfold A0
 refine CM hP hg hp hs ht λe a1 a2 a3=>?_
 have l1:(ρ++jC Q t).length=p+P.length:=by simp[hp,a1]
 simp only[tc,List.map_cons,List.map_nil,jN,a3,og hk (by omega) _,Mw hr,ra,List.append_assoc]
 refine CM (cn.ext _ hP) hg (by simp[hp,a1];omega) (by omega) (og ht (by omega) _) λe2 b1 b2 b3=>?_
 simp only[List.append_assoc]at b3⊢
 simp only[tc,List.map_cons,List.map_nil,jN,b3,og hk (by omega) _,og qS (by omega) _,mu,ra,List.append_assoc]
 cases P with
 |nil=>
  cases Q with
  |cons _ _=>exact hP.elim
  |nil=>
   simp only[et,aH]at hg
   refine hc _ _ _ (by simp[hp,jC]) (by simp) ?_
   simp only[jC,List.nil_append,List.length_nil,Nat.add_zero,List.cons_append]
   rw[show p+1=p+1 from rfl,sB hp]
   rfl
 |cons q P=>
  simp only
  refine CM (cn.ext _ hP) hg (by simp[hp,a1];omega) (by omega) (og ht (by omega) _) λe3 c1 c2 c3=>?_
  simp only[List.append_assoc]at c3⊢
  have l3:(ρ++(jC Q t++([T.c (.bool true)]++(jC Q t++([T.l (setRow xs kv j [vv])]++jC Q t))))).length=p+(q::P).length+1+(q::P).length+1+(q::P).length:=by simp[hp,a1];omega
  refine MJ (cn.ext _ hP) hg l3 (by omega) (og ht (by omega) _) (λm x hm=>?_) (by omega) (vv:=.l (setRow xs kv j [vv])) ?_ λB s' p' d1 d2 d3=>?_
  ·have hml:m<(jC Q t).length:=(List.getElem?_eq_some_iff.1 hm).1
   refine⟨by omega,?_⟩
   have:=sB (ρ:=ρ++(jC Q t++([T.c (.bool true)]++(jC Q t++[T.l (setRow xs kv j [vv])])))) (p:=p+(q::P).length+1+(q::P).length+1) (by simp[hp,a1];omega) m (jC Q t)
   simp only[List.append_assoc]at this
   rw[this]
   simp[List.getD,hm]
  ·have:=sB (ρ:=ρ++(jC Q t++([T.c (.bool true)]++jC Q t))) (p:=p+(q::P).length+1+(q::P).length) (by simp[hp,a1];omega) 0 ([T.l (setRow xs kv j [vv])]++jC Q t)
   simp only[List.append_assoc,Nat.add_zero]at this
   rw[this]
   rfl
  ·rw[List.append_assoc]at d1 d3⊢
   exact hc _ s' p' d1 d2 d3
end
set_option linter.unusedSimpArgs false
abbrev vg:=Pt->Nat->Nat->Nat->Nat->Nat->(Nat->Nat->Nat->Nat->PL)->PL
def Rr(qG:vg)(P:Pt)(cl:Lf)(s p:Nat)(cont:Nat->Nat->Nat->PL):PL:=
 .loop [cl,.k (.int .i64 0),.a s] (yT P (p+2) (p+3) λd p1=>.ins (.pr .len [.a d])<| .ins (.pr (.bin .lss) [.a (p+1),.a p1])<|
  .ite (p1+1) (qG P (p+1) (p+2) p (p1+2) 0 λs c p' q=>.ins (.pr (.bin .add) [.a (p+1),.k (.int .i64 1)])<| .go q [.a c,.a p',.a s]) (cont p (p+2) (p1+2)))
mutual
def xF:Ty->Nat->Nat->vg
 | .i _,w,j,P,k,s,c,p,q,cont=>A0 P k w j s c p λs' p'=>.ins (.pr (.bin .add) [.a c,.k (.int .i64 1)]) (cont s' p' (p'+1) q)
 | .b,w,j,P,k,s,c,p,q,cont=>.ins (.pr (.bin .rem) [.a c,.k (.int .i64 3)])<| .ins (.pr (.bin .eql) [.a p,.k (.int .i64 0)])<|
   A0 P k w j s (p+1) (p+2) λs' p'=>.ins (.pr (.bin .add) [.a c,.k (.int .i64 1)]) (cont s' p' (p'+1) q)
 | .s,w,j,P,k,s,c,p,q,cont=>cont s c p q
 | .sl es,w,j,P,k,s,c,p,q,cont=>yT P s p λd p1=>.ins (.pr .ic [.a d,.a k])<|yT P s (p1+1) λd2 p2=>.ins (.pr (.nC w j) [.a d2,.a k])<|
   Rr (vh es es.length 0) (P++[(k,w,j)]) (.a c) s (p2+1) λc' s' p'=>cont s' c' p' (q+1)
def vh:List Ty->Nat->Nat->vg
 | [],w,j,P,k,s,c,p,q,cont=>cont s c p q
 |f::fs,w,j,P,k,s,c,p,q,cont=>xF f w j P k s c p q λs' c' p' q'=>vh fs w (j+1) P k s' c' p' q' cont
end
def Rs(S:Nat->ai)(w:Nat)(fs:List Ty)(j:Nat)(qG:vg):Prop:=
 ∀(out:Option (List T)) (K:List ai) (P Q:Pt) (k s c p q kv n:Nat) (cont:Nat->Nat->Nat->Nat->PL) (ρ:List T) (t:T) (xs:List (List T)) (dn ts:List T),cn ρ P Q->et Q t=some (.l xs)->ρ.length=p->s<p->ρ.getD s T.bp=t->
  k<p->ρ.getD k T.bp=.c (.int .i64 (kv:Int))->c<p->ρ.getD c T.bp=.c (.int .i64 (n:Int))->xs[kv]?=some (dn++ts)->dn.length=j->(dn++ts).length=w->gu fs ts->uh ts<=1048576->n+fs.length+64*uh ts<=1099511627776->
  (∀(Ks:List ai) (B:List T) (s' c' p':Nat),(ρ++B).length=p'->s'<p'->c'<p'->(ρ++B).getD c' T.bp=.c (.int .i64 ((fJ fs n ts).1:Int))->(ρ++B).getD s' T.bp=cE Q t (.l (xs.set kv (dn++(fJ fs n ts).2)))->
   PL.den S rounds (Ks++K) (ρ++B) (cont s' c' p' (q+Ks.length))=out)->PL.den S rounds K ρ (qG P k s c p q cont)=out
theorem ML{S:Nat->ai}{R:Nat}{f:ai}{K:List ai}{ρ:List T}(xs:List Lf):∀Ks:List ai,PL.den S R (Ks++f::K) ρ (.go Ks.length xs)=f (xs.map (Lf.ev ρ))
 | []=>by simp only[List.nil_append,List.length_nil,My]
 |g::Ks=>by simp only[List.cons_append,List.length_cons,Mz];exact ML xs Ks
theorem VT{S:Nat->ai}{out:Option (List T)}{K:List ai}{es:List Ty}{qG:vg}(hF:Rs S es.length es 0 qG)(hl:es.length<=64)(hm:nO es=true){P Q:Pt}{cl:Lf}{s p n:Nat}{cont:Nat->Nat->Nat->PL}{ρ:List T}{t:T}{xs:List (List T)}
  (hP:cn ρ P Q)(hg:et Q t=some (.l xs))(hp:ρ.length=p)(hs:s<p)(ht:ρ.getD s T.bp=t)(hc:Lf.ev ρ cl=.c (.int .i64 (n:Int)))(hw:∀r∈xs,gu es r)(hb:lC xs<=1048576)(hn:n+64*lC xs<=1099511627776)
  (hk:∀f:ai,PL.den S rounds (f::K) (ρ++([T.c (.int .i64 ((fu (fJ es) n xs).1:Int)),T.c (.int .i64 (xs.length:Int)),cE Q t (.l (fu (fJ es) n xs).2)]++(jC Q (cE Q t (.l (fu (fJ es) n xs).2))++[T.c (.int .i64 (xs.length:Int)),T.c (.bool false)])))
   (cont p (p+2) (p+3+P.length+2))=out):PL.den S rounds K ρ (Rr qG P cl s p cont)=out:=by
 have hlen:=L' xs
 have ta:∀i,lC (xs.take i)<=lC xs:=by
  intro i
  have:=VC (xs.take i) (xs.drop i)
  rw[List.take_append_drop]at this
  omega
 have xG:=λi=>MB (g:=fJ es) (xs:=xs.take i) (λm r hr=>by
  have:=AY es m r hm (hw r (List.mem_of_mem_take hr))
  omega) n
 unfold Rr
 rw[VF]
 simp only[List.map_cons,List.map_nil,hc,td,jN,ht]
 have ui:∀i,(fu (fJ es) n (xs.take i)).2.length=(xs.take i).length:=λi=>Rq _ _
 refine VL (n:=xs.length) (Inv:=λi x=>x=[T.c (.int .i64 ((fu (fJ es) n (xs.take i)).1:Int)),T.c (.int .i64 (i:Int)),cE Q t (.l ((fu (fJ es) n (xs.take i)).2++xs.drop i))]) (Q:=λo=>o=out) ?_ ?_ ?_ (by unfold rounds;omega)
 ·rintro i x hi rfl self
  left
  refine⟨_,rfl,?_⟩
  obtain⟨r,hr⟩:=VI hi
  have hwr:=hw r (VH hr)
  have hbr:=Ma hr
  have po:=ta (i+1)
  have mq:=j0_ hr
  have hm1:=xG i
  have Ao:=VN (g:=fJ es) hr n
  have Dz:=ui i
  have hil:(xs.take i).length=i:=by simp;omega
  have bI:(i:Int)<xs.length:=by omega
  have e3:IntKind.i64.wrap ((i:Int)+1)=((i+1:Nat):Int):=by rw[yS (by omega) (by omega)];simp
  generalize hN:(fu (fJ es) n (xs.take i)).1=N at*
  generalize hA:(fu (fJ es) n (xs.take i)).2=A at*
  have hdr:xs.drop i=r::xs.drop (i+1):=by
   rw[List.drop_eq_getElem_cons hi]
   rw[List.getElem?_eq_getElem hi]at hr
   cases hr
   rfl
  have Rt:=ME (v:=A++xs.drop i) hg
  have LN:(A++xs.drop i)[i]?=some r:=by
   rw[List.getElem?_append_right (by omega),hdr,Dz,hil,Nat.sub_self]
   rfl
  have vi:(A++xs.drop i).length=xs.length:=by simp;omega
  refine CM (cn.ext _ hP) Rt (s:=p+2) (p:=p+3) (by simp[hp]) (by omega) (by rw[sB hp];rfl) λd a1 a2 a3=>?_
  have HG:(ρ++[T.c (.int .i64 (N:Int)),T.c (.int .i64 (i:Int)),cE Q t (.l (A++xs.drop i))]++jC Q (cE Q t (.l (A++xs.drop i)))).length=p+3+P.length:=by simp[hp,a1];omega
  have x1:∀B,(ρ++[T.c (.int .i64 (N:Int)),T.c (.int .i64 (i:Int)),cE Q t (.l (A++xs.drop i))]++jC Q (cE Q t (.l (A++xs.drop i)))++B).getD (p+1) T.bp=.c (.int .i64 (i:Int)):=λB=>by
   rw[List.append_assoc,List.append_assoc,sB hp];rfl
  have x0:∀B,(ρ++[T.c (.int .i64 (N:Int)),T.c (.int .i64 (i:Int)),cE Q t (.l (A++xs.drop i))]++jC Q (cE Q t (.l (A++xs.drop i)))++B).getD p T.bp=.c (.int .i64 (N:Int)):=λB=>by
   have:=sB hp 0 ([T.c (.int .i64 (N:Int)),T.c (.int .i64 (i:Int)),cE Q t (.l (A++xs.drop i))]++(jC Q (cE Q t (.l (A++xs.drop i)))++B))
   rw[List.append_assoc,List.append_assoc];exact this
  have x2:∀B,(ρ++[T.c (.int .i64 (N:Int)),T.c (.int .i64 (i:Int)),cE Q t (.l (A++xs.drop i))]++jC Q (cE Q t (.l (A++xs.drop i)))++B).getD (p+2) T.bp=cE Q t (.l (A++xs.drop i)):=λB=>by
   rw[List.append_assoc,List.append_assoc,sB hp];rfl
  have hPx:∀B,cn (ρ++[T.c (.int .i64 (N:Int)),T.c (.int .i64 (i:Int)),cE Q t (.l (A++xs.drop i))]++jC Q (cE Q t (.l (A++xs.drop i)))++B) P Q:=λB=>by
   rw[List.append_assoc,List.append_assoc];exact cn.ext _ hP
  generalize mg:ρ++[T.c (.int .i64 (N:Int)),T.c (.int .i64 (i:Int)),cE Q t (.l (A++xs.drop i))]++jC Q (cE Q t (.l (A++xs.drop i)))=Ru at*
  have y1:=x1 [T.c (.int .i64 (xs.length:Int))]
  have y2:(Ru++[T.c (.int .i64 (xs.length:Int))]).getD (p+3+P.length) T.bp=.c (.int .i64 (xs.length:Int)):=by rw[<-HG];exact CL
  have y3:(Ru++[T.c (.int .i64 (xs.length:Int)),T.c (.bool true)]).getD (p+3+P.length+1) T.bp=.c (.bool true):=by rw[sB HG];rfl
  simp only[tc,AV,List.map_cons,List.map_nil,jN,a3,AR,vi,ra,y1,y2,AS,bI,decide_true,List.append_assoc,List.cons_append,List.nil_append,y3,E0,cond_true]
  refine hF _ (self::K) P Q (p+1) (p+2) p (p+3+P.length+2) 0 i N _ _ _ (A++xs.drop i) [] r (hPx _) Rt (by simp only[List.length_append,HG,List.length_cons,List.length_nil]) (by omega) (x2 _) (by omega) (x1 _) (by omega) (x0 _) LN rfl hwr.length hwr (by omega) (by omega) ?_
  intro Ks B s' c' p' q1 q2 q3 q4 q5
  have z1:(Ru++([T.c (.int .i64 (xs.length:Int)),T.c (.bool true)]++B)).getD (p+1) T.bp=.c (.int .i64 (i:Int)):=x1 _
  rw[List.append_assoc]at q1 q4 q5⊢
  have z2:((Ru++([T.c (.int .i64 (xs.length:Int)),T.c (.bool true)]++B))++[T.c (.int .i64 ((i+1:Nat):Int))]).getD p' T.bp=.c (.int .i64 ((i+1:Nat):Int)):=by rw[<-q1];exact CL
  have z3:=og q4 (by rw[q1];exact q3) [T.c (.int .i64 ((i+1:Nat):Int))]
  have z4:=og q5 (by rw[q1];exact q2) [T.c (.int .i64 ((i+1:Nat):Int))]
  rw[tc]
  simp only[List.map_cons,List.map_nil,jN,td,z1,CK,e3,ra,Nat.zero_add]
  rw[ML]
  simp only[List.map_cons,List.map_nil,jN,z2,z3,z4]
  rw[Ao]
  congr 4
  rw[E9 hg]
  congr 2
  rw[hdr,List.set_append_right _ _ (by omega),Dz,hil,Nat.sub_self]
  simp
 ·rintro x rfl self
  rw[show xs.take xs.length=xs from List.take_length,show xs.drop xs.length=[] from List.drop_length,List.append_nil]
  have Rt:=ME (v:=(fu (fJ es) n xs).2) hg
  refine CM (cn.ext _ hP) Rt (s:=p+2) (p:=p+3) (by simp[hp]) (by omega) (by rw[sB hp];rfl) λd a1 a2 a3=>?_
  have HG:(ρ++[T.c (.int .i64 ((fu (fJ es) n xs).1:Int)),T.c (.int .i64 (xs.length:Int)),cE Q t (.l (fu (fJ es) n xs).2)]++jC Q (cE Q t (.l (fu (fJ es) n xs).2))).length=p+3+P.length:=by simp[hp,a1];omega
  have x1:∀B,(ρ++[T.c (.int .i64 ((fu (fJ es) n xs).1:Int)),T.c (.int .i64 (xs.length:Int)),cE Q t (.l (fu (fJ es) n xs).2)]++jC Q (cE Q t (.l (fu (fJ es) n xs).2))++B).getD (p+1) T.bp=.c (.int .i64 (xs.length:Int)):=λB=>by
   rw[List.append_assoc,List.append_assoc,sB hp];rfl
  have x0:∀B,(ρ++([T.c (.int .i64 ((fu (fJ es) n xs).1:Int)),T.c (.int .i64 (xs.length:Int)),cE Q t (.l (fu (fJ es) n xs).2)]++(jC Q (cE Q t (.l (fu (fJ es) n xs).2))++B))).getD p T.bp=.c (.int .i64 ((fu (fJ es) n xs).1:Int)):=λB=>sB hp 0 _
  have x2:∀B,(ρ++([T.c (.int .i64 ((fu (fJ es) n xs).1:Int)),T.c (.int .i64 (xs.length:Int)),cE Q t (.l (fu (fJ es) n xs).2)]++(jC Q (cE Q t (.l (fu (fJ es) n xs).2))++B))).getD (p+2) T.bp=cE Q t (.l (fu (fJ es) n xs).2):=λB=>by
   rw[sB hp];rfl
  have y1:=x1 [T.c (.int .i64 (xs.length:Int))]
  have y2:(ρ++[T.c (.int .i64 ((fu (fJ es) n xs).1:Int)),T.c (.int .i64 (xs.length:Int)),cE Q t (.l (fu (fJ es) n xs).2)]++jC Q (cE Q t (.l (fu (fJ es) n xs).2))++[T.c (.int .i64 (xs.length:Int))]).getD (p+3+P.length) T.bp=.c (.int .i64 (xs.length:Int)):=by rw[<-HG];exact CL
  have y3:(ρ++[T.c (.int .i64 ((fu (fJ es) n xs).1:Int)),T.c (.int .i64 (xs.length:Int)),cE Q t (.l (fu (fJ es) n xs).2)]++jC Q (cE Q t (.l (fu (fJ es) n xs).2))++[T.c (.int .i64 (xs.length:Int)),T.c (.bool false)]).getD (p+3+P.length+1) T.bp=.c (.bool false):=by rw[sB HG];rfl
  rw[tc]
  simp only[List.map_cons,List.map_nil,jN,a3,AR,Rq,ra]
  rw[tc]
  simp only[List.map_cons,List.map_nil,jN,y1,y2,AS,Int.lt_irrefl,decide_false,ra]
  rw[AV,List.append_assoc _ [_] [_]]
  simp only[List.cons_append,List.nil_append]at y3⊢
  rw[y3]
  simp only[E0,cond_false]
  have:=hk self
  simpa using this
 ·rw[List.take_zero,List.drop_zero]
  simp only[fu,List.nil_append,E_ hg]
  rfl
theorem VU{S:Nat->ai}{out:Option (List T)}{K:List ai}{es:List Ty}{qG:vg}(hF:Rs S es.length es 0 qG)(hl:es.length<=64)(hm:nO es=true){P Q:Pt}{cl:Lf}{s p n:Nat}{cont:Nat->Nat->Nat->PL}{ρ:List T}{t:T}{xs:List (List T)}
  (hP:cn ρ P Q)(hg:et Q t=some (.l xs))(hp:ρ.length=p)(hs:s<p)(ht:ρ.getD s T.bp=t)(hc:Lf.ev ρ cl=.c (.int .i64 (n:Int)))(hw:∀r∈xs,gu es r)(hb:lC xs<=1048576)(hn:n+64*lC xs<=1099511627776)
  (hk:∀(f:ai) (B:List T) (c' s' p':Nat),(ρ++B).length=p'->c'<p'->s'<p'->(ρ++B).getD c' T.bp=.c (.int .i64 ((fu (fJ es) n xs).1:Int))->(ρ++B).getD s' T.bp=cE Q t (.l (fu (fJ es) n xs).2)->
   PL.den S rounds (f::K) (ρ++B) (cont c' s' p')=out):PL.den S rounds K ρ (Rr qG P cl s p cont)=out:=by
 refine VT hF hl hm hP hg hp hs ht hc hw hb hn λf=>?_
 have hPQ:∀{P Q:Pt} {t d:T},cn ρ P Q->et Q t=some d->(jC Q t).length=P.length:=by
  intro P
  induction P with
  |nil=>intro Q t d hP hg;cases Q with
   |nil=>rfl
   |cons _ _=>exact hP.elim
  |cons q P ih=>
   intro Q t d hP hg
   obtain⟨a,w,j⟩:=q
   cases Q with
   |nil=>exact hP.elim
   |cons q Q=>
    obtain⟨i,w',j'⟩:=q
    obtain⟨_,_,_,_,h5⟩:=hP
    obtain⟨xs,r,ys,rfl,g1,g2,g3,g4⟩:=E6 hg
    rw[E' g1 g2 g3,List.length_cons,List.length_cons,ih h5 g4]
 have rJ:=hPQ hP (ME (v:=(fu (fJ es) n xs).2) hg)
 refine hk f _ _ _ _ (by simp[hp,rJ];omega) (by omega) (by omega) ?_ ?_
 ·exact sB hp 0 _
 ·rw[sB hp];rfl
set_option linter.unusedSimpArgs false
def Rv(S:Nat->ai)(f:Ty):Prop:=
 ∀(w j:Nat) (out:Option (List T)) (K:List ai) (P Q:Pt) (k s c p q kv n:Nat) (cont:Nat->Nat->Nat->Nat->PL) (ρ:List T) (t:T) (xs:List (List T)) (dn ts:List T) (u:T),cn ρ P Q->et Q t=some (.l xs)->ρ.length=p->s<p->ρ.getD s T.bp=t->
  k<p->ρ.getD k T.bp=.c (.int .i64 (kv:Int))->c<p->ρ.getD c T.bp=.c (.int .i64 (n:Int))->xs[kv]?=some (dn++u::ts)->dn.length=j->(dn++u::ts).length=w->WT f u->bulk u<=1048576->n+1+64*bulk u<=1099511627776->
  (∀(Ks:List ai) (B:List T) (s' c' p':Nat),(ρ++B).length=p'->s'<p'->c'<p'->(ρ++B).getD c' T.bp=.c (.int .i64 ((oR f n u).1:Int))->(ρ++B).getD s' T.bp=cE Q t (.l (xs.set kv (dn++(oR f n u).2::ts)))->
   PL.den S rounds (Ks++K) (ρ++B) (cont s' c' p' (q+Ks.length))=out)->PL.den S rounds K ρ (xF f w j P k s c p q cont)=out
theorem VV{S:Nat->ai}:Rv S (.i .i64):=by
 intro w j out K P Q k s c p q kv n cont ρ t xs dn ts u hP hg hp hs ht hk u5 hc hn hr hj hw hu hb HH iy
 rw[E1]at iy
 have e3:IntKind.i64.wrap ((n:Int)+1)=((n+1:Nat):Int):=by rw[yS (by omega) (by omega)];simp
 simp only[xF]
 refine MK hP hg hp hs ht hk u5 hc hn rfl hr hw (by simp at hw;omega) λB s' p' q1 q2 q3=>?_
 have x:=og hn (by omega) B
 rw[tc]
 simp only[List.map_cons,List.map_nil,jN,td,x,CK,e3,ra,List.append_assoc]
 rw[AZ hr hj]at q3
 refine iy [] _ s' p' (p'+1) (by simp at q1⊢;omega) (by omega) (by omega) ?_ ?_
 ·rw[<-List.append_assoc,<-q1];exact CL
 ·rw[<-List.append_assoc];exact og q3 (by rw[q1];exact q2) _
theorem VW{S:Nat->ai}:Rv S .b:=by
 intro w j out K P Q k s c p q kv n cont ρ t xs dn ts u hP hg hp hs ht hk u5 hc hn hr hj hw hu hb HH iy
 rw[E2]at iy
 have e3:IntKind.i64.wrap ((n:Int)+1)=((n+1:Nat):Int):=by rw[yS (by omega) (by omega)];simp
 have VX:(((n%3:Nat):Int)==(0:Int))=(n%3==0):=VQ (n%3) 0
 have y1:(ρ++[T.c (.int .i64 ((n%3:Nat):Int))]).getD p T.bp=.c (.int .i64 ((n%3:Nat):Int)):=by rw[<-hp];exact CL
 simp only[xF]
 rw[tc]
 simp only[List.map_cons,List.map_nil,jN,td,hn,VP,ra]
 rw[tc]
 simp only[List.map_cons,List.map_nil,jN,td,y1,EY,VX,ra,List.append_assoc,List.cons_append,List.nil_append]
 have y2:(ρ++[T.c (.int .i64 ((n%3:Nat):Int)),T.c (.bool (n%3==0))]).getD (p+1) T.bp=T.c (.bool (n%3==0)):=by rw[sB hp];rfl
 refine MK (cn.ext _ hP) hg (by simp[hp]) (by omega) (og ht (by omega) _) (by omega) (og u5 (by omega) _) (by omega) y2 rfl hr hw (by simp at hw;omega) λB s' p' q1 q2 q3=>?_
 simp only[List.append_assoc]at q1 q3⊢
 have x:=og hn (by omega) ([T.c (.int .i64 ((n%3:Nat):Int)),T.c (.bool (n%3==0))]++B)
 rw[tc]
 simp only[List.map_cons,List.map_nil,jN,td,x,CK,e3,ra]
 rw[AZ hr hj]at q3
 rw[List.append_assoc]
 refine iy [] _ s' p' (p'+1) (by simp at q1⊢;omega) (by omega) (by omega) ?_ ?_
 ·rw[<-List.append_assoc,<-q1];exact CL
 ·rw[<-List.append_assoc];exact og q3 (by rw[q1];exact q2) _
theorem VY{S:Nat->ai}{es:List Ty}(hF:Rs S es.length es 0 (vh es es.length 0))(hl:es.length<=64)(hm:nO es=true):Rv S (.sl es):=by
 intro w j out K P Q k s c p q kv n cont ρ t xs dn ts u hP hg hp hs ht hk u5 hc hn hr hj hw hu hb HH iy
 unfold WT at hu
 obtain⟨ys,rfl,_,hy⟩:=hu
 rw[E3]at iy
 rw[xD]at hb HH
 have Cn:(dn++T.l ys::ts)[j]?=some (.l ys):=by subst hj;simp
 have Jp:et (Q++[(kv,w,j)]) t=some (.l ys):=by rw[MG,hg];exact E7 hr hw Cn rfl
 simp only[xF]
 refine CM hP hg hp hs ht λe a1 a2 a3=>?_
 rw[tc]
 simp only[List.map_cons,List.map_nil,jN,a3,og u5 (by omega) _,Mw hr,ra,List.append_assoc]
 refine CM (cn.ext _ hP) hg (by simp[hp,a1];omega) (by omega) (og ht (by omega) _) λe2 b1 b2 b3=>?_
 simp only[List.append_assoc]at b3⊢
 rw[tc]
 simp only[List.map_cons,List.map_nil,jN,b3,og u5 (by omega) _,MI hr hw Cn,ra,List.append_assoc]
 refine VU hF hl hm (cn.snoc (by simp;omega) (og u5 (by omega) _) (cn.ext _ hP)) Jp (by simp[hp,a1];omega) (by omega) (og ht (by omega) _) (n:=n) (by rw[jN];exact og hn (by omega) _) hy hb (by omega) λf B c' s' p' q1 q2 q3 q4 q5=>?_
 rw[List.append_assoc]at q1 q4 q5⊢
 refine iy [f] _ s' c' p' q1 q3 q2 q4 ?_
 rw[q5,MH hg]
 congr 1
 have e0:((xs[kv]?).bind (·[j]?)).getD T.bp=.l ys:=by rw[hr];simp[Cn]
 simp only[cE,e0]
 rw[AZ hr hj]
mutual
theorem VZ{S:Nat->ai}:∀(f:Ty),vW f=true->Rv S f
 | .i k,h=>by
  cases k with
  |i64=>exact VV
  |_=>simp[vW]at h
 | .b,h=>VW
 | .s,h=>by simp[vW]at h
 | .sl es,h=>VY (MM es 0 (xE h).2 es.length) (xE h).1 (xE h).2
theorem MM{S:Nat->ai}:∀(fs:List Ty) (j:Nat),nO fs=true->∀w,Rs S w fs j (vh fs w j)
 | [],j,h,w=>by
  intro out K P Q k s c p q kv n cont ρ t xs dn ts hP hg hp hs ht hk u5 hc hn hr hj hw hu hb HH iy
  unfold gu at hu
  subst hu
  simp only[vh]
  have:=iy [] [] s c p (by simpa using hp) hs hc (by simpa[AW]using hn) (by
   rw[AW,MF hr,E_ hg];simpa using ht)
  simpa using this
 |f::fs,j,h,w=>by
  intro out K P Q k s c p q kv n cont ρ t xs dn ts hP hg hp hs ht hk u5 hc hn hr hj hw hu hb HH iy
  unfold gu at hu
  obtain⟨u,oe,rfl,h1,h2⟩:=hu
  have hm:=E4 h
  have hle:=E5 f n u hm.1 h1
  simp only[Md,List.length_cons]at hb HH
  simp only[vh]
  refine VZ f hm.1 w j out K P Q k s c p q kv n _ ρ t xs dn oe u hP hg hp hs ht hk u5 hc hn hr hj hw h1 (by omega) (by omega) λKs B s' c' p' q1 q2 q3 q4 q5=>?_
  have AH:kv<xs.length:=(List.getElem?_eq_some_iff.1 hr).1
  refine MM fs (j+1) hm.2 w out (Ks++K) P Q k s' c' p' (q+Ks.length) kv (oR f n u).1 cont (ρ++B) _ (xs.set kv (dn++(oR f n u).2::oe)) (dn++[(oR f n u).2]) oe (cn.ext _ hP) (ME hg) q1 q2 q5 (by simp at q1;omega) (og u5 (by omega) _) q3 q4
   (by simp[AH]) (by simp[hj]) (by simp at hw⊢;omega) h2 (by omega) (by omega) λV0 B2 s2 c2 p2 r1 r2 r3 r4 r5=>?_
  rw[List.append_assoc]at r1 r4 r5⊢
  have:=iy (V0++Ks) (B++B2) s2 c2 p2 r1 r2 r3 (by rw[r4,AX]) (by
   rw[r5,E9 hg,List.set_set,AX,List.append_assoc]
   rfl)
  rw[List.append_assoc,List.length_append]at this
  rw[show q+Ks.length+V0.length=q+(V0.length+Ks.length) by omega]
  exact this
end
set_option linter.defProp false in
def pb:=(af (af (af (af (af (@VD) (@tc)) (af (@VE) (af (@AV) (@My)))) (af (af (@Mz) (af (@List.map_cons.{0,0}) (@List.map_nil.{0,0}))) (af (@td) (af (@VG) (@jN))))) (af (af (af (@List.cons_append.{0}) (@List.nil_append.{0})) (af (@List.append_assoc.{0}) (af (@List.getD_cons_zero.{0}) (@List.getD_cons_succ.{0})))) (af (af (@ra) (af (@E0) (@cond_true.{1}))) (af (@cond_false.{1}) (af (@decide_true) (@decide_false)))))) (af (af (af (af (@AR) (@Me)) (af (@Mf) (af (@Mg) (@Mh)))) (af (af (@AS) (af (@Mi) (@Mk))) (af (@Ml) (af (@EY) (@Mm))))) (af (af (af (@CK) (@Mo)) (af (@Mp) (af (@Mq) (@Mr)))) (af (af (@Ms) (af (@Mu) (@Bool.not_true))) (af (@Bool.not_false) (af (@bne_self_eq_false.{0}) (@beq_self_eq_true.{0})))))))
set_option linter.unusedSimpArgs false
theorem V1{sc:Bool}{w:Nat}{xs ys:List (List T)}(h:xs.length+ys.length<tQ)(hs:(!sc||ys.all (·.all cF))=true)(h1:okW w xs=true)(h2:okW w ys=true):Prim.ev (.app sc w) [.l xs,.l ys]=some (.l (xs++ys)):=by
 simp only[Prim.ev,h,hs,h1,h2,if_true]
theorem CN{w:Nat}{ms:List Bool}{ts:List T}(hw:0<w)(hm:mQ ms ts=true)(hl:ts.length=w):Prim.ev (.lit w ms) ts=some (.l [ts]):=by
 have h1:ts.length/w=1:=by rw[hl];exact Nat.div_self hw
 have h2:ts.take w=ts:=by rw[<-hl];exact List.take_length
 simp only[Prim.ev,hw,hm,h1,if_true,kY,h2]
set_option linter.unusedSimpArgs false
def vj:List (Nat×mR)->Nat->Option mR
 | [],_=>none
 |e::l,g=>bif Nat.beq e.1 g then some e.2 else vj l g
theorem MN:∀{l:List (Nat×mR)} {g:Nat} {sg:mR},vj l g=some sg->(g,sg)∈l
 | [],_,_,h=>by cases h
 |e::l,g,sg,h=>by
  unfold vj at h
  cases hb:Nat.beq e.1 g with
  |true=>
   rw[hb]at h
   simp only[cond_true,aH]at h
   have:=cO hb
   subst this;subst h
   exact .head _
  |false=>
   rw[hb]at h
   exact .tail _ (MN h)
def Cx.on(cx:Cx)(l:List (Nat×mR)):Cx:={cx with sg:=vj l}
def Fa(P:Program)(sg:mR)(g:Nat)(F:ai):Prop:=mB P g∧Av P sg g F
structure Fb (P:Program) (cx:Cx):Prop where
 cQ:dg P cx
 cC:∀g fn,cx.fn g=some fn->P.funcs[g]?=some fn∧mB P g
 mx:P.follows .mixedOrders=true
def MO:List ((Nat×Nat×Nat)×Js)->Nat->Nat->Nat->Option Js
 | [],_,_,_=>none
 |e::l,f,k,j=>bif Nat.beq e.1.1 f&&(Nat.beq e.1.2.1 k&&Nat.beq e.1.2.2 j)then some e.2 else MO l f k j
def MP:List (Nat×Nat×Nat)->Nat->Nat->Nat->Bool
 | [],_,_,_=>false
 |e::l,f,k,j=>(Nat.beq e.1 f&&(Nat.beq e.2.1 k&&Nat.beq e.2.2 j))||MP l f k j
def MQ:List Nat->Nat->Bool
 | [],_=>false
 |e::l,f=>Nat.beq e f||MQ l f
theorem Fa.mk{P:Program}{cx:Cx}(Z:Fb P cx){R n g:Nat}{fn:Func}{sg:mR}{pl:PL}{l:List (Nat×mR)}{S:Nat->ai}(pN:mB P g)(hf:P.funcs[g]?=some fn)
  (hl:∀x∈l,Fa P x.2 x.1 (S x.1))(h:zO (cx.on l) n g fn sg=some pl):Fa P sg g λts=>pl.den S R [] ts:=
 ⟨pN,L4 (cx:=cx.on l) ⟨⟨Z.cQ.ty⟩,λg' sg' h'=>hl _ (MN h'),Z.cC⟩ Z.mx hf h⟩
theorem mB.mk{P:Program}{g:Nat}{fn:Func}(h:P.funcs[g]?=some fn)(h1:(fn.name== "runtime.NumGoroutine")=false)(h2:fn.body.isNone=false):mB P g:=⟨fn,h,h1,h2⟩
structure dB (P:Program) where
 g:Nat
 sg:mR
 F:ai
 ok:Fa P sg g F
def Rw{P:Program}(l:List (dB P)):List (Nat×mR):=l.map λk=>(k.g,k.sg)
def kS{P:Program}(l:List (dB P)):List (Nat×ai):=l.map λk=>(k.g,k.F)
theorem MR{P:Program}:∀{ks:List (dB P)} {g:Nat} {sg:mR},vj (Rw ks) g=some sg->Fa P sg g (pick (kS ks) g)
 | [],g,sg,h=>by cases h
 |k::ks,g,sg,h=>by
  simp only[Rw,List.map_cons,vj]at h
  simp only[kS,List.map_cons,pick]
  cases hb:Nat.beq k.g g with
  |true=>
   rw[hb,cond_true]at h
   cases h
   rw[cond_true,<-cO hb]
   exact k.ok
  |false=>
   rw[hb,cond_false]at h
   rw[cond_false]
   exact MR h
def dB.cd{P:Program}{cx:Cx}(Z:Fb P cx)(g:Nat){fn:Func}(sg:mR)(pl:PL)(F:ai)(ks:List (dB P))(hf:P.funcs[g]?=some fn)(h:zO (cx.on (Rw ks)) 8 g fn sg=some pl)
  (h1:((fn.name== "runtime.NumGoroutine")||fn.body.isNone)=false)(hF:F=Fs pl (kS ks)):dB P:=
 ⟨g,sg,F,⟨fn,hf,(Bool.or_eq_false_iff.1 h1).1,(Bool.or_eq_false_iff.1 h1).2⟩,by
  rw[hF]
  exact L4 (cx:=cx.on (Rw ks)) ⟨⟨Z.cQ.ty⟩,λg' sg' h'=>MR h',Z.cC⟩ Z.mx hf h⟩
def V2(P:Program)(l:List (Nat×TI)):Bool:=l.all λx=>SD P x.1 x.2
def xH:List (Nat×TI)->Nat->Option TI
 | [],_=>none
 |e::l,g=>bif Nat.beq e.1 g then some e.2 else xH l g
theorem MS:∀{l:List (Nat×TI)} {g:Nat} {sg:TI},xH l g=some sg->(g,sg)∈l
 | [],_,_,h=>by cases h
 |e::l,g,sg,h=>by
  unfold xH at h
  cases hb:Nat.beq e.1 g with
  |true=>
   rw[hb]at h
   simp only[cond_true,aH]at h
   have:=cO hb
   subst this;subst h
   exact .head _
  |false=>
   rw[hb]at h
   exact .tail _ (MS h)
theorem V3{P:Program}{cx:Cx}{l:List (Nat×TI)}(h:V2 P l=true)(he:cx.ty=xH l):dg P cx:=by
 refine⟨λt ti ht=>?_⟩
 rw[he]at ht
 exact SF (List.all_eq_true.1 h _ (MS ht))
def A1:List (Nat×Func)->Nat->Option Func
 | [],_=>none
 |e::l,g=>bif Nat.beq e.1 g then some e.2 else A1 l g
theorem V4{P:Program}{cx:Cx}{l:List (Nat×Func)}(h:∀x∈l,P.funcs[x.1]?=some x.2∧mB P x.1)(he:cx.fn=A1 l):∀g fn,cx.fn g=some fn->P.funcs[g]?=some fn∧mB P g:=by
 intro g fn hg
 rw[he]at hg
 clear he
 induction l with
 |nil=>cases hg
 |cons e l ih=>
  unfold A1 at hg
  cases hb:Nat.beq e.1 g with
  |true=>
   rw[hb]at hg
   simp only[cond_true,aH]at hg
   have:=cO hb
   subst this;subst hg
   exact h _ (.head _)
  |false=>
   rw[hb]at hg
   exact ih (λx hx=>h x (.tail _ hx)) hg
open Go.ChangeShapes Go.WideShapes Go.ChangeAt Go.RowKit
section
variable {P:Program}
def xI(P:Program)(r:TypeId->Option (List Ty)):Nat->List Field->Option (List Ty)
 |_,[]=>some []
 |o,f::fs=>bif Nat.beq f.offset o then(r f.type).bind λa=>bif Nat.beq (P.cellsOf f.type) a.length then(xI P r (o+a.length) fs).bind λb=>some (a++b)else none else none
def vk(P:Program):Nat->TypeId->Option (List Ty)
 |0,_=>none
 |n+1,t=>
  match P.underlying t with
  |some (.int k)=>some [.i k]
  |some .bool=>some [.b]
  |some .string=>some [.s]
  |some (.slice e)=>(vk P n e).bind λfs=>bif fs.isEmpty then none else some [.sl fs]
  |some (.struct fs)=>(xI P (vk P n) 0 fs.toList).bind λts=>bif Nat.beq ts.length (P.cellsOf t)then some ts else none
  |_=>none
variable {H:Type} {enc:TypeId×Value->H} {w:World} {base:Nat} {spare:Nat->Bool} {held:Bool} {ω:Nat->Option Lb}
theorem dy.append{ω:Nat->Option Lb}:∀{ts oe:List T} {vs rR:List Value},dy ω w ts vs->dy ω w oe rR->dy ω w (ts++oe) (vs++rR)
 | [],oe,[],rR,_,h'=>h'
 |t::ts,oe,v::vs,rR,h,h'=>⟨h.1,dy.append h.2 h'⟩
 | [],_,_::_,_,h,_=>h.elim
 |_::_,_,[],_,h,_=>h.elim
theorem MT{r:TypeId->Option (List Ty)}{cs:List Value}:∀{fl:List Field} {o:Nat} {ys:List Ty},xI P r o fl=some ys->
  (∀f∈fl,∀a,r f.type=some a->∃ts,dy ω w ts ((cs.drop f.offset).take (P.cellsOf f.type))∧gu a ts)->∃ts,dy ω w ts ((cs.drop o).take ys.length)∧gu ys ts
 | [],o,ys,h,_=>by
  simp only[xI,aH]at h
  subst h
  exact⟨[],by simp[dy],rfl⟩
 |f::fl,o,ys,h,hr=>by
  unfold xI at h
  cases h1:Nat.beq f.offset o with
  |false=>simp[h1]at h
  |true=>
   simp only[h1,cond_true,bU]at h
   obtain⟨a,ha,h⟩:=h
   cases h2:Nat.beq (P.cellsOf f.type) a.length with
   |false=>simp[h2]at h
   |true=>
    simp only[h2,cond_true,bU,aH]at h
    obtain⟨b,hb,rfl⟩:=h
    have e1:=cO h1
    have e2:=cO h2
    obtain⟨t1,g1,g2⟩:=hr f (.head _) a ha
    obtain⟨t2,g3,g4⟩:=MT hb λf hf=>hr f (.tail _ hf)
    refine⟨t1++t2,?_,g2.append g4⟩
    rw[e1,e2]at g1
    rw[List.length_append,List.take_add,List.drop_drop]
    exact g1.append g3
theorem V5:∀(n m:Nat) {t:TypeId} {cs:List Value} {x:DataW H×List MemPlace} {fs:List Ty},DataW.trod enc P w 0 spare held n t cs=some x->vk P m t=some fs->
  (∀b,ω b=none)->∃ts,dy ω w ts cs∧gu fs ts:=by
 intro n
 induction n with
 |zero=>intro m t cs x fs h;simp[DataW.trod]at h
 |succ n ih=>
  intro m t cs x fs h ht fA
  cases m with
  |zero=>cases ht
  |succ m=>
   unfold vk at ht
   cases hu:P.underlying t with
   |none=>rw[hu]at ht;cases ht
   |some u=>
    rw[hu]at ht
    cases u with
    |int k=>
     simp only[aH]at ht
     subst ht
     obtain⟨a,e0,e1,wa⟩:=DataW.trod_int hu h
     subst e0 e1
     exact⟨[.c (.int k a)],⟨.c rfl,trivial⟩,_,_,rfl,⟨_,rfl,wa⟩,rfl⟩
    |bool=>
     simp only[aH]at ht
     subst ht
     obtain⟨b,rfl,_⟩:=DataW.trod_bool hu h
     exact⟨[.c (.bool b)],⟨.c rfl,trivial⟩,_,_,rfl,⟨_,rfl⟩,rfl⟩
    |string=>
     simp only[aH]at ht
     subst ht
     obtain⟨s,rfl,_,hs⟩:=DataW.trod_string hu h
     exact⟨[.c (.string s)],⟨.c rfl,trivial⟩,_,_,rfl,⟨_,rfl,hs⟩,rfl⟩
    |slice e=>
     simp only[bU]at ht
     obtain⟨gs,hg,ht⟩:=ht
     cases hz:gs.isEmpty with
     |true=>simp[hz]at ht
     |false=>
      simp only[hz,cond_false,aH]at ht
      subst ht
      rcases DataW.trod_slice hu h with⟨rfl,_⟩|⟨a,len,cap,elems,rest,n',e1,rfl,_,_,hlc,hcm,Af,aS,_⟩
      ·exact⟨[.l []],⟨.nil,trivial⟩,_,_,rfl,⟨[],rfl,Nat.zero_le _,by simp⟩,rfl⟩
      ·cases e1
       have each:∀i,i<len->∃vs ts,w.cells? 0 (a.add (i*P.cellsOf e)) (P.cellsOf e)=some vs∧dy ω w ts vs∧gu gs ts:=by
        intro i hi
        have h1:=aS i hi
        rw[<-Af]at hi
        rw[List.getElem?_eq_getElem hi,bU]at h1
        obtain⟨vs,g1,g2⟩:=h1
        obtain⟨ts,g3,g4⟩:=ih m g2 hg fA
        exact⟨vs,ts,g1,g3,g4⟩
       by_cases h0:len=0
       ·subst h0
        exact⟨[.l []],⟨.nil,trivial⟩,_,_,rfl,⟨[],rfl,Nat.zero_le _,by simp⟩,rfl⟩
       ·have hc:=λi=>λhi:i<len=>Classical.choose_spec (each i hi)
        let vf:Nat->List Value:=λi=>if hi:i<len then Classical.choose (each i hi)else []
        have hv:∀i,i<len->∃ts,w.cells? 0 (a.add (i*P.cellsOf e)) (P.cellsOf e)=some (vf i)∧dy ω w ts (vf i)∧gu gs ts:=by
         intro i hi
         have:vf i=Classical.choose (each i hi):=by simp[vf,hi]
         rw[this]
         exact hc i hi
        have ht:∃tf:Nat->List T,∀i,i<len->w.cells? 0 (a.add (i*P.cellsOf e)) (P.cellsOf e)=some (vf i)∧dy ω w (tf i) (vf i)∧gu gs (tf i):=by
         refine⟨λi=>if hi:i<len then Classical.choose (hv i hi)else [],λi hi=>?_⟩
         have:=Classical.choose_spec (hv i hi)
         simpa[hi]using this
        obtain⟨tf,yU⟩:=ht
        have mf:∀i,i<len->(vf i).length=P.cellsOf e:=λi hi=>(World.cells?_some (yU i hi).1).2.1
        have V6:∀i,i<len->(tf i).length=gs.length:=λi hi=>(yU i hi).2.2.length
        have V7:0<P.cellsOf e:=by
         have h1:=mf 0 (by omega)
         have h2:=V6 0 (by omega)
         have h3:=(yU 0 (by omega)).2.1.length
         cases gs with
         |nil=>simp at hz
         |cons _ _=>simp at h2;omega
        obtain⟨b,off,spot⟩:=a
        have oG:∀i j,i<len->j<P.cellsOf e->w.cell? ((⟨b,off,spot⟩:Addr).add (i*P.cellsOf e) |>.add j)=(vf i)[j]?:=λi j hi hj=>(World.cells?_some (yU i hi).1).2.2 j hj
        have MU:spot=none:=by
         have:=oG 0 0 (by omega) V7
         simp only[Nat.zero_mul,Addr.add,if_true]at this
         have hl:0<(vf 0).length:=by rw[mf 0 (by omega)];exact V7
         rw[List.getElem?_eq_getElem hl]at this
         unfold World.cell? at this
         split at this
         ·split at this
          ·cases this
          ·rename_i h;simpa using h
         ·cases this
        subst MU
        have nc:∀i j,((⟨b,off,none⟩:Addr).add (i*P.cellsOf e) |>.add j)=⟨b,off+(i*P.cellsOf e+j),none⟩:=by
         intro i j
         have e1:∀k,(⟨b,off,none⟩:Addr).add k=⟨b,off+k,none⟩:=by
          intro k
          unfold Addr.add
          split
          ·rename_i h;subst h;rfl
          ·rfl
         have e2:∀o k,(⟨b,o,none⟩:Addr).add k=⟨b,o+k,none⟩:=by
          intro o k
          unfold Addr.add
          split
          ·rename_i h;subst h;rfl
          ·rfl
         rw[e1,e2,Nat.add_assoc]
        have bI:b<w.heap.size:=by
         have:=World.cells?_block (yU 0 (by omega)).1 V7
         rw[Nat.zero_mul]at this
         exact this
        have j4:∀i j t,cP ((List.range len).map tf) i j=some t->i<len∧(tf i)[j]?=some t:=by
         intro i j t h
         unfold cP at h
         rw[bU]at h
         obtain⟨r,h1,h2⟩:=h
         rw[List.getElem?_map,Option.map_eq_some_iff]at h1
         obtain⟨i',h3,rfl⟩:=h1
         have hi:i<len:=by
          rcases Nat.lt_or_ge i len with h|h
          ·exact h
          ·rw[List.getElem?_eq_none (by simpa using h)]at h3;cases h3
         rw[List.getElem?_range hi]at h3
         cases h3
         exact⟨hi,h2⟩
        refine⟨[.l ((List.range len).map tf)],⟨?_,trivial⟩,_,_,rfl,⟨_,rfl,by simp;omega,?_⟩,rfl⟩
        ·have:=dF.l (ω:=ω) (w:=w) (xs:=(List.range len).map tf) (b:=b) (off:=off) (wd:=P.cellsOf e) (cap:=cap) (cv:=λi j=>((vf i)[j]?).getD default)
          (by
           intro r hr
           rw[List.mem_map]at hr
           obtain⟨i,hi,rfl⟩:=hr
           have hi:=List.mem_range.1 hi
           rw[(yU i hi).2.1.length,mf i hi])
          (by simpa using hlc) (fA b) bI
          (by
           intro i j t h
           obtain⟨hi,hj⟩:=j4 i j t h
           have ss:j<(vf i).length:=by rw[<-(yU i hi).2.1.length];exact(List.getElem?_eq_some_iff.1 hj).1
           have:=oG i j hi (by rw[<-mf i hi];exact ss)
           rw[nc]at this
           rw[this,List.getElem?_eq_getElem ss]
           rfl)
          (by
           intro i j t h
           obtain⟨hi,hj⟩:=j4 i j t h
           have ss:j<(vf i).length:=by rw[<-(yU i hi).2.1.length];exact(List.getElem?_eq_some_iff.1 hj).1
           refine(yU i hi).2.1.get j t _ hj ?_
           rw[List.getElem?_eq_getElem ss]
           rfl)
         simpa using this
        ·intro r hr
         rw[List.mem_map]at hr
         obtain⟨i,hi,rfl⟩:=hr
         exact(yU i (List.mem_range.1 hi)).2.2
    |struct fl=>
     simp only[bU]at ht
     obtain⟨ys,hy,ht⟩:=ht
     cases hz:Nat.beq ys.length (P.cellsOf t)with
     |false=>simp[hz]at ht
     |true=>
      simp only[hz,cond_true,aH]at ht
      subst ht
      obtain⟨xs,n',e1,_,hl,u0,aS⟩:=DataW.trod_struct hu h
      cases e1
      obtain⟨ts,h1,h2⟩:=MT (ω:=ω) (w:=w) (cs:=cs) hy λf hf a ha=>by
       obtain⟨i,hi,hfi⟩:=List.getElem_of_mem hf
       have h1:=aS i f (by rw[<-hfi,<-Array.getElem?_toList];exact List.getElem?_eq_getElem hi)
       have bw:i<xs.length:=by rw[u0];simpa using hi
       rw[List.getElem?_eq_getElem bw]at h1
       exact ih m h1 ha fA
      refine⟨ts,?_,h2⟩
      rw[List.drop_zero,cO hz,<-hl,List.take_length]at h1
      exact h1
    |_=>cases ht
def Fc(P:Program)(t:TypeId):Bool:=
 match P.underlying t with
 |some (.struct _)=>true
 |_=>false
def A2(P:Program):List TypeId->List PS->Option (List Ty)
 | [],[]=>some []
 |t::ts,.v ag n::ps=>(vk P 16 t).bind λfs=>bif Nat.beq fs.length n&&(Fc P t==ag)then(A2 P ts ps).bind λgs=>some (fs++gs)else none
 |_,_=>none
theorem MV{bl:Nat->Option Nat}(fA:∀b,ω b=none){r:Reach}{b0:Nat}:∀{ts:List TypeId} {vs:List Value} {ds:List (DataW H)} {pl:List MemPlace} {ps:List PS} {ys:List Ty} {i:Nat},DataW.TrodAll enc P w 0 spare held ts vs ds pl->
  (∀(j:Nat) t v,ts[j]?=some t->vs[j]?=some v->Value.okWide P w r b0 t v)->A2 P ts ps=some ys->∃us,u6 ω w bl i ps vs us∧gu ys us
 | [],[],[],pl,ps,ys,i,h,hv,hp=>by
  cases ps with
  |nil=>simp only[A2,aH]at hp;subst hp;exact⟨[],⟨rfl,rfl⟩,rfl⟩
  |cons _ _=>simp[A2]at hp
 |t::ts,v::vs,d::ds,pl,ps,ys,i,⟨p,q,h1,h2,e⟩,hv,hp=>by
  cases ps with
  |nil=>simp[A2]at hp
  |cons p0 ps=>
   cases p0 with
   |x n=>simp[A2]at hp
   |v ag n=>
    simp only[A2,bU]at hp
    obtain⟨fs,yA,hp⟩:=hp
    cases hc:(Nat.beq fs.length n&&(Fc P t==ag))with
    |false=>simp[hc]at hp
    |true=>
     simp only[hc,cond_true,bU,aH]at hp
     obtain⟨gs,A3,rfl⟩:=hp
     simp only[bd,beq_iff_eq]at hc
     obtain⟨us,g1,g2⟩:=MV (bl:=bl) (i:=i+1) fA h2 (λj t v hj ss=>hv (j+1) t v hj ss) A3
     obtain⟨f,h1⟩:=h1
     obtain⟨t1,g3,g4⟩:=V5 f 16 h1 yA fA
     have dP:=hv 0 t v rfl rfl
     refine⟨t1++us,⟨v,vs,v.cells.toList,t1,us,rfl,rfl,by rw[g4.length];exact cO hc.1,?_,g3,g1⟩,g4.append g2⟩
     have hs:=hc.2
     unfold Fc at hs
     unfold vk at yA
     cases hu:P.underlying t with
     |none=>rw[hu]at yA;cases yA
     |some u=>
      rw[hu]at yA hs
      cases u with
      |int k=>obtain⟨a,rfl⟩:=okWide_int hu dP;subst hs;exact⟨rfl,λx h=>by cases h⟩
      |bool=>obtain⟨a,rfl⟩:=okWide_bool hu dP;subst hs;exact⟨rfl,λx h=>by cases h⟩
      |string=>obtain⟨a,rfl⟩:=okWide_string hu dP;subst hs;exact⟨rfl,λx h=>by cases h⟩
      |slice e=>obtain⟨a,l,c,rfl⟩:=okWide_slice hu dP;subst hs;exact⟨rfl,λx h=>by cases h⟩
      |struct fl=>
       obtain⟨cs,rfl,_⟩:=okWide_struct hu dP
       subst hs
       simp[Value.cells]
      |_=>cases yA
 | [],_::_,_,_,_,_,_,h,_,_=>by simp[DataW.TrodAll]at h
 | [],[],_::_,_,_,_,_,h,_,_=>by simp[DataW.TrodAll]at h
 |_::_,[],_,_,_,_,_,h,_,_=>by simp[DataW.TrodAll]at h
 |_::_,_::_,[],_,_,_,_,h,_,_=>by simp[DataW.TrodAll]at h
theorem MW(hl:laidOutB P=true){W W':World}{V8:Nat->Bool}:∀{ts:List TypeId} {vs:List Value} {ds:List (DataW H)} {ps:List MemPlace},(∀t∈ts,P.readableRec t=true∧t<P.types.size)->
  DataW.TrodAll enc P W base (λ_=>true) true ts vs ds ps->(∀p∈ps,W.sameAt W' p)->(∀p∈ps,V8 p.block=true)->DataW.TrodAll enc P W' base V8 true ts vs ds ps
 | [],[],[],_,_,h,_,_=>h
 |t::ts,_::_,_::_,_,hT,⟨p,q,h1,h2,e⟩,hs,hb=>⟨p,q,WideElems.Trod_stays hl (hT t (.head _)).1 (hT t (.head _)).2 h1 (λx hx=>hs x (by rw[e];exact List.mem_append_left _ hx)) (λx hx=>hb x (by rw[e];exact List.mem_append_left _ hx)),
   MW hl (λt ht=>hT t (.tail _ ht)) h2 (λx hx=>hs x (by rw[e];exact List.mem_append_right _ hx)) (λx hx=>hb x (by rw[e];exact List.mem_append_right _ hx)),e⟩
 | [],_::_,_,_,_,h,_,_=>by simp[DataW.TrodAll]at h
 | [],[],_::_,_,_,h,_,_=>by simp[DataW.TrodAll]at h
 |_::_,[],_,_,_,h,_,_=>by simp[DataW.TrodAll]at h
 |_::_,_::_,[],_,_,h,_,_=>by simp[DataW.TrodAll]at h
end
theorem V9{H:Type}{enc:TypeId×Value->H}{C:Checked}{f:FuncId}{fn:Func}{s:ChangeSpec}{apart fresh handsOn again:Bool}{sg:mR}{F:ai}{ys:List Ty}{rt:TypeId}
  (rV:s.vars=[])(xJ:∀ds:List (DataW H),ds.length=fn.params.size->s.fn H ds={results:=[.lit (.bool true)],args:=ds})
  (hl:laidOutB C.prog=true)(oQ:(fn.params.toList.all λt=>C.prog.readableRec t&&Nat.blt t C.prog.types.size)=true)
  (Rx:fn.resultTypes=#[rt])(uj:C.prog.underlying rt=some .bool)(Er:sg.rs=[(false,[.s])])
  (dP:Fa C.prog sg f F)(z9:A2 C.prog fn.params.toList sg.ps=some ys)(hF:∀ts,gu ys ts->F ts=some [.c (.bool true)])
  (W:World)(b0:Nat)(args:Array Value)(ds gs:List (DataW H))(before:List MemPlace)
  (dM:∀(j:Nat) t v,fn.params[j]?=some t->args[j]?=some v->Value.okWide C.prog W .any b0 t v)
  (hW:DataW.Whole enc C.prog fn.params.toList s.vars apart W args.toList ds gs before)(MX:zV (λ_=>none) W):
  Calls C.prog f args W λe W'=>∃v,e=.returned v∧s.post enc C.prog fn apart fresh handsOn again W args v W':=by
 have V_:=hW
 obtain⟨p,q,hA,hV,rfl,_,_⟩:=hW
 rw[rV]at hV
 obtain⟨rfl,rfl⟩:gs=[]∧q=[]:=by
  cases gs with
  |nil=>exact⟨rfl,hV⟩
  |cons _ _=>exact hV.elim
 have hlen:ds.length=fn.params.size:=by
  have:∀{ts:List TypeId} {vs:List Value} {ds:List (DataW H)} {ps:List MemPlace},DataW.TrodAll enc C.prog W 0 (λ_=>true) true ts vs ds ps->ds.length=ts.length:=by
   intro ts
   induction ts with
   |nil=>intro vs ds ps h;cases vs<;>cases ds<;>simp_all[DataW.TrodAll]
   |cons t ts ih=>
    intro vs ds ps h
    cases vs with
    |nil=>simp[DataW.TrodAll]at h
    |cons v vs=>
     cases ds with
     |nil=>simp[DataW.TrodAll]at h
     |cons d ds=>obtain⟨_,_,_,h2,_⟩:=h;simp[ih h2]
  rw[this hA];simp
 have hT:∀t∈fn.params.toList,C.prog.readableRec t=true∧t<C.prog.types.size:=by
  intro t ht
  have:=List.all_eq_true.1 oQ t ht
  simp only[bd]at this
  exact⟨this.1,Nat.blt_eq▸this.2⟩
 obtain⟨us,pN,hwt⟩:=MV (ω:=λ_=>none) (bl:=λ_=>none) (i:=0) (λ_=>rfl) hA (λj t v h1 h2=>dM j t v (by simpa using h1) (by simpa using h2)) z9
 have hc:=dP.2 W (λ_=>none) (λ_=>none) args.toList us _ (hF us hwt) ⟨λb l h=>by(cases h),λi b h=>by(cases h),MX⟩ pN
 rw[Array.toArray_toList]at hc
 refine hc.mono λe W' h=>?_
 obtain⟨v,G,is,o1,o2,rfl,hp⟩:=h
 refine⟨v,rfl,?_⟩
 have hold:∀x∈p++[],MemPlace.block x<W.heap.size:=V_.lt
 have rC:∀b,b<W.heap.size->W'.heap[b]?=W.heap[b]?:=λb hb=>(hp.free b hb rfl).2
 have rD:∀x∈p,W.sameAt W' x:=by
  intro x hx
  have hb:=hold x (by simpa using hx)
  cases x with
  |cell b o=>show W'.cell? _=W.cell? _;unfold World.cell?;rw[rC b hb]
  |map b=>exact rC b hb
 have hv:v=.bool true:=by
  have h1:=hp.ret
  rw[Er]at h1
  obtain⟨t1,t2,i1,i2,e1,e2,h1,h2⟩:=h1
  obtain⟨h1,_⟩:=h1
  have h3:=hp.outs
  rw[e1]at h3
  cases t1 with
  |nil=>simp[bz]at h1
  |cons t t1=>
   cases i1 with
   |nil=>simp[bz]at h1
   |cons i i1=>
    simp only[List.cons_append,List.cons.injEq]at h3
    rw[<-h3.1]at h1
    obtain⟨_,hd,_⟩:=h1
    cases hd
    rfl
 subst hv
 have dH:=λsp DS=>MW (enc:=enc) (base:=0) (V8:=sp) hl hT hA rD DS
 have DS:=xJ ds hlen
 have D9:∀(j:Nat) (t:TypeId) (r:Value),fn.resultTypes[j]?=some t->((Value.bool true).resultList fn.resultTypes.size)[j]?=some r->Value.okWide C.prog W' .any 0 t r:=by
  intro j t r hj hr
  rw[Rx]at hj hr
  have hj0:j=0:=by
   rcases Nat.eq_zero_or_pos j with h|h
   ·exact h
   ·have:(#[rt]:Array TypeId)[j]?=none:=by simp;omega
    rw[this]at hj;cases hj
  subst hj0
  cases hj;cases hr
  simp[Value.okWide,uj,Cell.okWide,Cell.ok]
 have MY:∀(b:Nat) (sp:Nat->Bool) (hd:Bool),DataW.TrodAll enc C.prog W' b sp hd fn.resultTypes.toList ((Value.bool true).resultList fn.resultTypes.size) (s.fn H (ds++[])).results []:=by
  intro b sp hd
  rw[List.append_nil,DS,Rx]
  exact⟨[],[],⟨1,by simp[DataW.trod,uj,Value.cells]⟩,rfl,rfl⟩
 have MZ:∀sp:Nat->Bool,(∀x∈p,sp x.block=true)->DataW.TrodAll enc C.prog W' 0 sp true fn.params.toList args.toList (s.fn H (ds++[])).args p:=by
  intro sp hs
  rw[List.append_nil,DS]
  exact dH sp hs
 have V':∀sp:Nat->Bool,DataW.TrodVars enc C.prog W' sp s.vars (s.fn H (ds++[])).vars []:=by
  intro sp
  rw[List.append_nil,DS,rV]
  rfl
 have hW2:=V_
 obtain⟨_,_,_,_,_,hz,hn⟩:=hW2
 refine⟨ds,[],p++[],[],p,[],V_,MY _ _ _,MZ _ (λx hx=>decide_eq_true (hold x (by simpa using hx))),V' _,⟨hp.so.os,hp.so.output,λi hi=>?_⟩,λ_=>⟨D9,_,[],p++[],⟨[]++p,[],trodAll_append (MZ _ λ_ _=>rfl) (MY _ _ _),by rw[rV];rfl,rfl,?_,hn⟩,?_⟩⟩
 ·rw[rC i hi]
  cases W.heap[i]? with
  |none=>trivial
  |some o=>cases o<;>simp
 ·intro b off hm
  have h1:=hz b off hm
  have hb:=hold _ hm
  unfold World.frozen? at h1⊢
  rw[show W'.heap[(⟨b,off,none⟩:Addr).block]?=W.heap[(⟨b,off,none⟩:Addr).block]? from rC b hb]
  exact h1
 ·intro x hx _
  exact hx
theorem Wa{H:Type}{enc:TypeId×Value->H}{C:Checked}{os:Os}{f:FuncId}{fn:Func}{s:ChangeSpec}{conds:List PathCond}{apart fresh handsOn again:Bool}{sg:mR}{F:ai}{ys:List Ty}{rt:TypeId}
  (own:ownKnob C.prog.godebug=none)(started:os.Started)(Fe:C.prog.inits.idxOf? f=none)(KY:C.prog.funcs[f]?=some fn)
  (witness:∃(w:World) (tape:Tape) (i:Input),w.os=os∧(w.forCall tape i).Shaped C.prog∧i.vars=[]∧Input.okWide C.prog (w.forCall tape i) .any w.heap.size f i∧
   s.pre6 enc C.prog fn conds apart (w.forCall tape i).memory i.args∧({}:Assume).holds C.prog (lone (Frame.enter C.prog f i.args .normal) [] (w.forCall tape i)))
  (rV:s.vars=[])(xJ:∀ds:List (DataW H),ds.length=fn.params.size->s.fn H ds={results:=[.lit (.bool true)],args:=ds})
  (hl:laidOutB C.prog=true)(oQ:(fn.params.toList.all λt=>C.prog.readableRec t&&Nat.blt t C.prog.types.size)=true)
  (Rx:fn.resultTypes=#[rt])(uj:C.prog.underlying rt=some .bool)(Er:sg.rs=[(false,[.s])])
  (dP:Fa C.prog sg f F)(z9:A2 C.prog fn.params.toList sg.ps=some ys)(hF:∀ts,gu ys ts->F ts=some [.c (.bool true)])(V6:I_=[]:=by rfl):
  ReturnsInHanded {} C os f .any (s.pre6 enc C.prog fn conds apart) (s.post enc C.prog fn apart fresh handsOn again):=by
 refine returnsInHanded_of_change own started Fe KY witness ?_
 intro W b0 args ds gs before dM hW _ _
 exact V9 rV xJ hl oQ Rx uj Er dP z9 hF W b0 args ds gs before dM hW (λx hx=>by rw[V6]at hx;cases hx)
def pv(p:Prim)(l:List T)(k:T->Option (List T)):Option (List T):=(Prim.ev p l).bind k
theorem Wb(p:Prim)(l:List T)(k:T->Option (List T)):pv p l k=(Prim.ev p l).bind k:=rfl
def Yz(x:T)(k:T->Option (List T)):Option (List T):=(Prim.ev (.iP) [x]).bind k
theorem M0(x:T)(k:T->Option (List T)):Yz x k=(Prim.ev (.iP) [x]).bind k:=rfl
def Ya(x y:T)(k:T->Option (List T)):Option (List T):=(Prim.ev (.bin .add) [x,y]).bind k
theorem Wc(x y:T)(k:T->Option (List T)):Ya x y k=(Prim.ev (.bin .add) [x,y]).bind k:=rfl
def Yb(x y:T)(k:T->Option (List T)):Option (List T):=(Prim.ev (.ic) [x,y]).bind k
theorem Wd(x y:T)(k:T->Option (List T)):Yb x y k=(Prim.ev (.ic) [x,y]).bind k:=rfl
def Yl(x y:T)(k:T->Option (List T)):Option (List T):=(Prim.ev (.bin .lss) [x,y]).bind k
theorem We(x y:T)(k:T->Option (List T)):Yl x y k=(Prim.ev (.bin .lss) [x,y]).bind k:=rfl
def Ye(x y:T)(k:T->Option (List T)):Option (List T):=(Prim.ev (.bin .eql) [x,y]).bind k
theorem Wf(x y:T)(k:T->Option (List T)):Ye x y k=(Prim.ev (.bin .eql) [x,y]).bind k:=rfl
def Yn(x:T)(k:T->Option (List T)):Option (List T):=(Prim.ev (.len) [x]).bind k
theorem Wg(x:T)(k:T->Option (List T)):Yn x k=(Prim.ev (.len) [x]).bind k:=rfl
def Yt(x:T)(k:T->Option (List T)):Option (List T):=(Prim.ev (.un .not) [x]).bind k
theorem Wh(x:T)(k:T->Option (List T)):Yt x k=(Prim.ev (.un .not) [x]).bind k:=rfl
def Yp(x y:T)(k:T->Option (List T)):Option (List T):=(Prim.ev (.app true 1) [x,y]).bind k
theorem Wi(x y:T)(k:T->Option (List T)):Yp x y k=(Prim.ev (.app true 1) [x,y]).bind k:=rfl
def Yo(x y:T)(k:T->Option (List T)):Option (List T):=(Prim.ev (.app false 3) [x,y]).bind k
theorem Wj(x y:T)(k:T->Option (List T)):Yo x y k=(Prim.ev (.app false 3) [x,y]).bind k:=rfl
def Yu(x y:T)(k:T->Option (List T)):Option (List T):=(Prim.ev (.bin .neq) [x,y]).bind k
theorem Wl(x y:T)(k:T->Option (List T)):Yu x y k=(Prim.ev (.bin .neq) [x,y]).bind k:=rfl
def Yg(x y:T)(k:T->Option (List T)):Option (List T):=(Prim.ev (.bin .gtr) [x,y]).bind k
theorem Wm(x y:T)(k:T->Option (List T)):Yg x y k=(Prim.ev (.bin .gtr) [x,y]).bind k:=rfl
def Ym(x y:T)(k:T->Option (List T)):Option (List T):=(Prim.ev (.bin .leq) [x,y]).bind k
theorem Wn(x y:T)(k:T->Option (List T)):Ym x y k=(Prim.ev (.bin .leq) [x,y]).bind k:=rfl
def Yh(x y:T)(k:T->Option (List T)):Option (List T):=(Prim.ev (.bin .geq) [x,y]).bind k
theorem Wo(x y:T)(k:T->Option (List T)):Yh x y k=(Prim.ev (.bin .geq) [x,y]).bind k:=rfl
def Ys(x y:T)(k:T->Option (List T)):Option (List T):=(Prim.ev (.bin .sub) [x,y]).bind k
theorem Wp(x y:T)(k:T->Option (List T)):Ys x y k=(Prim.ev (.bin .sub) [x,y]).bind k:=rfl
def Yv(x y:T)(k:T->Option (List T)):Option (List T):=(Prim.ev (.sub 1 true false) [x,y]).bind k
theorem Wq(x y:T)(k:T->Option (List T)):Yv x y k=(Prim.ev (.sub 1 true false) [x,y]).bind k:=rfl
def Yw(x y:T)(k:T->Option (List T)):Option (List T):=(Prim.ev (.sub 1 false true) [x,y]).bind k
theorem Wr(x y:T)(k:T->Option (List T)):Yw x y k=(Prim.ev (.sub 1 false true) [x,y]).bind k:=rfl
def Yx(x:T)(k:T->Option (List T)):Option (List T):=(Prim.ev (.lit 1 [true]) [x]).bind k
theorem Ws(x:T)(k:T->Option (List T)):Yx x k=(Prim.ev (.lit 1 [true]) [x]).bind k:=rfl
def Yy(x y:T)(k:T->Option (List T)):Option (List T):=(Prim.ev (.app false 8) [x,y]).bind k
theorem Wt(x y:T)(k:T->Option (List T)):Yy x y k=(Prim.ev (.app false 8) [x,y]).bind k:=rfl
def Yc(w j:Nat)(x y:T)(k:T->Option (List T)):Option (List T):=(Prim.ev (.cell w j) [x,y]).bind k
theorem Wu(w j:Nat)(x y:T)(k:T->Option (List T)):Yc w j x y k=(Prim.ev (.cell w j) [x,y]).bind k:=rfl
def Yq(x y:T)(k:T->Option (List T)):Option (List T):=(Prim.ev .ic [x,y]).bind λ_=>(Prim.ev (.de 1 0) [x,y]).bind k
theorem Wv(x y:T)(k:T->Option (List T)):Yq x y k=(Prim.ev .ic [x,y]).bind λ_=>(Prim.ev (.de 1 0) [x,y]).bind k:=rfl
def Y1(x y:T)(k:T->Option (List T)):Option (List T):=(Prim.ev .ic [x,y]).bind λ_=>(Prim.ev (.cell 1 0) [x,y]).bind λa0=>k a0
theorem Ww(x y:T)(k:T->Option (List T)):Y1 x y k=(Prim.ev .ic [x,y]).bind λ_=>(Prim.ev (.cell 1 0) [x,y]).bind λa0=>k a0:=rfl
def Y2(x y:T)(k:T->T->Option (List T)):Option (List T):=(Prim.ev .ic [x,y]).bind λ_=>(Prim.ev (.cell 2 0) [x,y]).bind λa0=>(Prim.ev (.cell 2 1) [x,y]).bind λa1=>k a0 a1
theorem Wx(x y:T)(k:T->T->Option (List T)):Y2 x y k=(Prim.ev .ic [x,y]).bind λ_=>(Prim.ev (.cell 2 0) [x,y]).bind λa0=>(Prim.ev (.cell 2 1) [x,y]).bind λa1=>k a0 a1:=rfl
def Y3(x y:T)(k:T->T->T->Option (List T)):Option (List T):=(Prim.ev .ic [x,y]).bind λ_=>(Prim.ev (.cell 3 0) [x,y]).bind λa0=>(Prim.ev (.cell 3 1) [x,y]).bind λa1=>(Prim.ev (.cell 3 2) [x,y]).bind λa2=>k a0 a1 a2
theorem Wy(x y:T)(k:T->T->T->Option (List T)):Y3 x y k=(Prim.ev .ic [x,y]).bind λ_=>(Prim.ev (.cell 3 0) [x,y]).bind λa0=>(Prim.ev (.cell 3 1) [x,y]).bind λa1=>(Prim.ev (.cell 3 2) [x,y]).bind λa2=>k a0 a1 a2:=rfl
def Y4(x y:T)(k:T->T->T->T->Option (List T)):Option (List T):=(Prim.ev .ic [x,y]).bind λ_=>(Prim.ev (.cell 4 0) [x,y]).bind λa0=>(Prim.ev (.cell 4 1) [x,y]).bind λa1=>(Prim.ev (.cell 4 2) [x,y]).bind λa2=>(Prim.ev (.cell 4 3) [x,y]).bind λa3=>k a0 a1 a2 a3
theorem Wz(x y:T)(k:T->T->T->T->Option (List T)):Y4 x y k=(Prim.ev .ic [x,y]).bind λ_=>(Prim.ev (.cell 4 0) [x,y]).bind λa0=>(Prim.ev (.cell 4 1) [x,y]).bind λa1=>(Prim.ev (.cell 4 2) [x,y]).bind λa2=>(Prim.ev (.cell 4 3) [x,y]).bind λa3=>k a0 a1 a2 a3:=rfl
def Y6(x y:T)(k:T->T->T->T->T->T->Option (List T)):Option (List T):=(Prim.ev .ic [x,y]).bind λ_=>(Prim.ev (.cell 6 0) [x,y]).bind λa0=>(Prim.ev (.cell 6 1) [x,y]).bind λa1=>(Prim.ev (.cell 6 2) [x,y]).bind λa2=>(Prim.ev (.cell 6 3) [x,y]).bind λa3=>(Prim.ev (.cell 6 4) [x,y]).bind λa4=>(Prim.ev (.cell 6 5) [x,y]).bind λa5=>k a0 a1 a2 a3 a4 a5
theorem WC(x y:T)(k:T->T->T->T->T->T->Option (List T)):Y6 x y k=(Prim.ev .ic [x,y]).bind λ_=>(Prim.ev (.cell 6 0) [x,y]).bind λa0=>(Prim.ev (.cell 6 1) [x,y]).bind λa1=>(Prim.ev (.cell 6 2) [x,y]).bind λa2=>(Prim.ev (.cell 6 3) [x,y]).bind λa3=>(Prim.ev (.cell 6 4) [x,y]).bind λa4=>(Prim.ev (.cell 6 5) [x,y]).bind λa5=>k a0 a1 a2 a3 a4 a5:=rfl
def Y8(x y:T)(k:T->T->T->T->T->T->T->T->Option (List T)):Option (List T):=(Prim.ev .ic [x,y]).bind λ_=>(Prim.ev (.cell 8 0) [x,y]).bind λa0=>(Prim.ev (.cell 8 1) [x,y]).bind λa1=>(Prim.ev (.cell 8 2) [x,y]).bind λa2=>(Prim.ev (.cell 8 3) [x,y]).bind λa3=>(Prim.ev (.cell 8 4) [x,y]).bind λa4=>(Prim.ev (.cell 8 5) [x,y]).bind λa5=>(Prim.ev (.cell 8 6) [x,y]).bind λa6=>(Prim.ev (.cell 8 7) [x,y]).bind λa7=>k a0 a1 a2 a3 a4 a5 a6 a7
theorem WD(x y:T)(k:T->T->T->T->T->T->T->T->Option (List T)):Y8 x y k=(Prim.ev .ic [x,y]).bind λ_=>(Prim.ev (.cell 8 0) [x,y]).bind λa0=>(Prim.ev (.cell 8 1) [x,y]).bind λa1=>(Prim.ev (.cell 8 2) [x,y]).bind λa2=>(Prim.ev (.cell 8 3) [x,y]).bind λa3=>(Prim.ev (.cell 8 4) [x,y]).bind λa4=>(Prim.ev (.cell 8 5) [x,y]).bind λa5=>(Prim.ev (.cell 8 6) [x,y]).bind λa6=>(Prim.ev (.cell 8 7) [x,y]).bind λa7=>k a0 a1 a2 a3 a4 a5 a6 a7:=rfl
def jn(k:ai)(b:ai->Option (List T)):Option (List T):=b k
def cL(o:Option (List T))(k:T->Option (List T)):Option (List T):=o.bind λts=>k (ts.getD 0 T.bp)
theorem M1(x0:T)(k:T->Option (List T)):cL (some [x0]) k=k x0:=rfl
def lK(k:T->Option (List T)):ai:=λts=>k (ts.getD 0 T.bp)
theorem M2(x0:T)(k:T->Option (List T)):lK k [x0]=k x0:=rfl
def mE(o:Option (List T))(k:T->T->Option (List T)):Option (List T):=o.bind λts=>k (ts.getD 0 T.bp) (ts.getD 1 T.bp)
theorem WE(x0 x1:T)(k:T->T->Option (List T)):mE (some [x0,x1]) k=k x0 x1:=rfl
def jD(k:T->T->Option (List T)):ai:=λts=>k (ts.getD 0 T.bp) (ts.getD 1 T.bp)
theorem M3(x0 x1:T)(k:T->T->Option (List T)):jD k [x0,x1]=k x0 x1:=rfl
def Ff(o:Option (List T))(k:T->T->T->Option (List T)):Option (List T):=o.bind λts=>k (ts.getD 0 T.bp) (ts.getD 1 T.bp) (ts.getD 2 T.bp)
theorem WG(x0 x1 x2:T)(k:T->T->T->Option (List T)):Ff (some [x0,x1,x2]) k=k x0 x1 x2:=rfl
def cY(o:Option (List T))(k:T->T->T->T->Option (List T)):Option (List T):=o.bind λts=>k (ts.getD 0 T.bp) (ts.getD 1 T.bp) (ts.getD 2 T.bp) (ts.getD 3 T.bp)
theorem WH(x0 x1 x2 x3:T)(k:T->T->T->T->Option (List T)):cY (some [x0,x1,x2,x3]) k=k x0 x1 x2 x3:=rfl
def xK(k:T->T->T->T->Option (List T)):ai:=λts=>k (ts.getD 0 T.bp) (ts.getD 1 T.bp) (ts.getD 2 T.bp) (ts.getD 3 T.bp)
theorem M4(x0 x1 x2 x3:T)(k:T->T->T->T->Option (List T)):xK k [x0,x1,x2,x3]=k x0 x1 x2 x3:=rfl
def rW(k:T->T->T->T->T->Option (List T)):ai:=λts=>k (ts.getD 0 T.bp) (ts.getD 1 T.bp) (ts.getD 2 T.bp) (ts.getD 3 T.bp) (ts.getD 4 T.bp)
theorem CO(x0 x1 x2 x3 x4:T)(k:T->T->T->T->T->Option (List T)):rW k [x0,x1,x2,x3,x4]=k x0 x1 x2 x3 x4:=rfl
def M5(o:Option (List T))(k:T->T->T->T->T->T->Option (List T)):Option (List T):=o.bind λts=>k (ts.getD 0 T.bp) (ts.getD 1 T.bp) (ts.getD 2 T.bp) (ts.getD 3 T.bp) (ts.getD 4 T.bp) (ts.getD 5 T.bp)
theorem WI(x0 x1 x2 x3 x4 x5:T)(k:T->T->T->T->T->T->Option (List T)):M5 (some [x0,x1,x2,x3,x4,x5]) k=k x0 x1 x2 x3 x4 x5:=rfl
def Fg(k:T->T->T->T->T->T->Option (List T)):ai:=λts=>k (ts.getD 0 T.bp) (ts.getD 1 T.bp) (ts.getD 2 T.bp) (ts.getD 3 T.bp) (ts.getD 4 T.bp) (ts.getD 5 T.bp)
theorem M6(x0 x1 x2 x3 x4 x5:T)(k:T->T->T->T->T->T->Option (List T)):Fg k [x0,x1,x2,x3,x4,x5]=k x0 x1 x2 x3 x4 x5:=rfl
def Fh(o:Option (List T))(k:T->T->T->T->T->T->T->Option (List T)):Option (List T):=o.bind λts=>k (ts.getD 0 T.bp) (ts.getD 1 T.bp) (ts.getD 2 T.bp) (ts.getD 3 T.bp) (ts.getD 4 T.bp) (ts.getD 5 T.bp) (ts.getD 6 T.bp)
theorem WJ(x0 x1 x2 x3 x4 x5 x6:T)(k:T->T->T->T->T->T->T->Option (List T)):Fh (some [x0,x1,x2,x3,x4,x5,x6]) k=k x0 x1 x2 x3 x4 x5 x6:=rfl
def Fi(k:T->T->T->T->T->T->T->Option (List T)):ai:=λts=>k (ts.getD 0 T.bp) (ts.getD 1 T.bp) (ts.getD 2 T.bp) (ts.getD 3 T.bp) (ts.getD 4 T.bp) (ts.getD 5 T.bp) (ts.getD 6 T.bp)
theorem M7(x0 x1 x2 x3 x4 x5 x6:T)(k:T->T->T->T->T->T->T->Option (List T)):Fi k [x0,x1,x2,x3,x4,x5,x6]=k x0 x1 x2 x3 x4 x5 x6:=rfl
def vX(o:Option (List T))(k:T->T->T->T->T->T->T->T->Option (List T)):Option (List T):=o.bind λts=>k (ts.getD 0 T.bp) (ts.getD 1 T.bp) (ts.getD 2 T.bp) (ts.getD 3 T.bp) (ts.getD 4 T.bp) (ts.getD 5 T.bp) (ts.getD 6 T.bp) (ts.getD 7 T.bp)
theorem WK(x0 x1 x2 x3 x4 x5 x6 x7:T)(k:T->T->T->T->T->T->T->T->Option (List T)):vX (some [x0,x1,x2,x3,x4,x5,x6,x7]) k=k x0 x1 x2 x3 x4 x5 x6 x7:=rfl
def HI(k:T->T->T->T->T->T->T->T->Option (List T)):ai:=λts=>k (ts.getD 0 T.bp) (ts.getD 1 T.bp) (ts.getD 2 T.bp) (ts.getD 3 T.bp) (ts.getD 4 T.bp) (ts.getD 5 T.bp) (ts.getD 6 T.bp) (ts.getD 7 T.bp)
theorem M8(x0 x1 x2 x3 x4 x5 x6 x7:T)(k:T->T->T->T->T->T->T->T->Option (List T)):HI k [x0,x1,x2,x3,x4,x5,x6,x7]=k x0 x1 x2 x3 x4 x5 x6 x7:=rfl
def yV(o:Option (List T))(k:T->T->T->T->T->T->T->T->T->Option (List T)):Option (List T):=o.bind λts=>k (ts.getD 0 T.bp) (ts.getD 1 T.bp) (ts.getD 2 T.bp) (ts.getD 3 T.bp) (ts.getD 4 T.bp) (ts.getD 5 T.bp) (ts.getD 6 T.bp) (ts.getD 7 T.bp) (ts.getD 8 T.bp)
theorem WL(x0 x1 x2 x3 x4 x5 x6 x7 x8:T)(k:T->T->T->T->T->T->T->T->T->Option (List T)):yV (some [x0,x1,x2,x3,x4,x5,x6,x7,x8]) k=k x0 x1 x2 x3 x4 x5 x6 x7 x8:=rfl
def Ry(k:T->T->T->T->T->T->T->T->T->Option (List T)):ai:=λts=>k (ts.getD 0 T.bp) (ts.getD 1 T.bp) (ts.getD 2 T.bp) (ts.getD 3 T.bp) (ts.getD 4 T.bp) (ts.getD 5 T.bp) (ts.getD 6 T.bp) (ts.getD 7 T.bp) (ts.getD 8 T.bp)
theorem M9(x0 x1 x2 x3 x4 x5 x6 x7 x8:T)(k:T->T->T->T->T->T->T->T->T->Option (List T)):Ry k [x0,x1,x2,x3,x4,x5,x6,x7,x8]=k x0 x1 x2 x3 x4 x5 x6 x7 x8:=rfl
def A4(k:T->T->T->T->T->T->T->T->T->T->Option (List T)):ai:=λts=>k (ts.getD 0 T.bp) (ts.getD 1 T.bp) (ts.getD 2 T.bp) (ts.getD 3 T.bp) (ts.getD 4 T.bp) (ts.getD 5 T.bp) (ts.getD 6 T.bp) (ts.getD 7 T.bp) (ts.getD 8 T.bp) (ts.getD 9 T.bp)
theorem M_(x0 x1 x2 x3 x4 x5 x6 x7 x8 x9:T)(k:T->T->T->T->T->T->T->T->T->T->Option (List T)):A4 k [x0,x1,x2,x3,x4,x5,x6,x7,x8,x9]=k x0 x1 x2 x3 x4 x5 x6 x7 x8 x9:=rfl
def vl(o:Option (List T))(k:T->T->T->T->T->T->T->T->T->T->T->Option (List T)):Option (List T):=o.bind λts=>k (ts.getD 0 T.bp) (ts.getD 1 T.bp) (ts.getD 2 T.bp) (ts.getD 3 T.bp) (ts.getD 4 T.bp) (ts.getD 5 T.bp) (ts.getD 6 T.bp) (ts.getD 7 T.bp) (ts.getD 8 T.bp) (ts.getD 9 T.bp) (ts.getD 10 T.bp)
theorem WM(x0 x1 x2 x3 x4 x5 x6 x7 x8 x9 Na:T)(k:T->T->T->T->T->T->T->T->T->T->T->Option (List T)):vl (some [x0,x1,x2,x3,x4,x5,x6,x7,x8,x9,Na]) k=k x0 x1 x2 x3 x4 x5 x6 x7 x8 x9 Na:=rfl
def A5(k:T->T->T->T->T->T->T->T->T->T->T->Option (List T)):ai:=λts=>k (ts.getD 0 T.bp) (ts.getD 1 T.bp) (ts.getD 2 T.bp) (ts.getD 3 T.bp) (ts.getD 4 T.bp) (ts.getD 5 T.bp) (ts.getD 6 T.bp) (ts.getD 7 T.bp) (ts.getD 8 T.bp) (ts.getD 9 T.bp) (ts.getD 10 T.bp)
theorem Nb(x0 x1 x2 x3 x4 x5 x6 x7 x8 x9 Na:T)(k:T->T->T->T->T->T->T->T->T->T->T->Option (List T)):A5 k [x0,x1,x2,x3,x4,x5,x6,x7,x8,x9,Na]=k x0 x1 x2 x3 x4 x5 x6 x7 x8 x9 Na:=rfl
theorem tg(k:ai)(b:ai->Option (List T)):jn k b=b k:=rfl
def PL.arity(j:Nat):PL->Option Nat
 | .ret _=>none
 | .ins _ k=>k.arity j
 | .ite _ x y=>match x.arity j with|some n=>some n|none=>y.arity j
 | .loop _ b=>b.arity (j+1)
 | .join k b=>match k.arity j with|some n=>some n|none=>b.arity (j+1)
 | .go i xs=>bif Nat.beq i j then some xs.length else none
 | .pI _ _=>none
def PL.jO(S:Nat->ai)(R:Nat)(K:List ai)(ρ:List T):PL->Option (List T)
 | .ret xs=>some (xs.map (Lf.ev ρ))
 | .ins (.pr p xs) k=>(p.ev (xs.map (Lf.ev ρ))).bind λt=>k.jO S R K (ρ++[t])
 | .ins (.cl g xs m) k=>(S g (xs.map (Lf.ev ρ))).bind λts=>k.jO S R K (ρ++pZ ts 0 m)
 | .ite c x y=>aC (ρ.getD c T.bp) (x.jO S R K ρ) (y.jO S R K ρ)
 | .loop xs body=>iter (λself ts=>body.jO S R (self::K) (ρ++pZ ts 0 xs.length)) R (xs.map (Lf.ev ρ))
 | .join k body=>jn (λts=>k.jO S R K (ρ++pZ ts 0 ((body.arity 0).getD 0))) λf=>body.jO S R (f::K) ρ
 | .go j xs=>match K[j]? with
  |some f=>f (xs.map (Lf.ev ρ))
  |none=>none
 | .pI _ _=>none
def PL.wf(ar:List Nat):PL->Bool
 | .ret _=>true
 | .ins _ k=>k.wf ar
 | .ite _ x y=>x.wf ar&&y.wf ar
 | .loop xs b=>b.wf (xs.length::ar)
 | .join k b=>k.wf ar&&b.wf ((b.arity 0).getD 0::ar)
 | .go j xs=>match ar[j]? with|some m=>Nat.beq m xs.length|none=>false
 | .pI _ _=>true
theorem Nc:∀(ts us:List T),pZ (us++ts) us.length ts.length=ts
 | [],us=>rfl
 |t::ts,us=>by
  have h:=Nc ts (us++[t])
  rw[List.append_assoc,List.length_append]at h
  simp only[List.length_cons,pZ]
  refine congr (congrArg _ ?_) h
  simp
theorem Nd(ts:List T){m:Nat}(h:ts.length=m):pZ ts 0 m=ts:=by
 subst h;exact Nc ts []
theorem Nf{F G:ai->ai}{m:Nat}(h:∀s s',(∀ts:List T,ts.length=m->s ts=s' ts)->∀ts:List T,ts.length=m->F s ts=G s' ts):∀R (ts:List T),ts.length=m->iter F R ts=iter G R ts
 |0,_,_=>rfl
 |R+1,ts,ht=>by
  unfold iter
  exact h _ _ (Nf h R) ts ht
theorem CP(S:Nat->ai)(R:Nat):∀(p:PL) (ar:List Nat) (K K':List ai) (ρ:List T),p.wf ar=true->
  (∀(j m:Nat),ar[j]?=some m->∃f f':ai,K[j]?=some f∧K'[j]?=some f'∧∀ts:List T,ts.length=m->f ts=f' ts)->p.den S R K ρ=p.jO S R K' ρ
 | .ret xs,ar,K,K',ρ,_,_=>by simp only[PL.den,PL.jO]
 | .ins (.pr p xs) k,ar,K,K',ρ,hw,hk=>by
  simp only[PL.den,PL.jO]
  exact congrArg _ (funext λt=>CP S R k ar K K' _ hw hk)
 | .ins (.cl g xs m) k,ar,K,K',ρ,hw,hk=>by
  simp only[PL.den,PL.jO]
  exact congrArg _ (funext λt=>CP S R k ar K K' _ hw hk)
 | .ite c x y,ar,K,K',ρ,hw,hk=>by
  simp only[PL.wf,bd]at hw
  rw[AV]
  simp only[PL.jO]
  rw[CP S R x ar K K' ρ hw.1 hk,CP S R y ar K K' ρ hw.2 hk]
 | .loop xs b,ar,K,K',ρ,hw,hk=>by
  simp only[PL.den,PL.jO]
  refine Nf (m:=xs.length) (λs s' hs ts ht=>?_) R _ (by simp)
  rw[Nd ts ht]
  refine CP S R b (xs.length::ar) _ _ _ hw λj m hj=>?_
  cases j with
  |zero=>cases hj;exact⟨s,s',rfl,rfl,hs⟩
  |succ j=>exact hk j m hj
 | .join k b,ar,K,K',ρ,hw,hk=>by
  simp only[PL.wf,bd]at hw
  simp only[PL.den,PL.jO,jn]
  refine CP S R b ((b.arity 0).getD 0::ar) _ _ _ hw.2 λj m hj=>?_
  cases j with
  |zero=>
   cases hj
   refine⟨_,_,rfl,rfl,λts ht=>?_⟩
   show PL.den S R K (ρ++ts) k=PL.jO S R K' (ρ++pZ ts 0 _) k
   rw[Nd ts ht]
   exact CP S R k ar K K' _ hw.1 hk
  |succ j=>exact hk j m hj
 | .go j xs,ar,K,K',ρ,hw,hk=>by
  simp only[PL.wf]at hw
  cases hm:ar[j]? with
  |none=>rw[hm]at hw;exact absurd hw (by simp)
  |some m=>
   rw[hm]at hw
   have vO:=cO hw
   obtain⟨f,f',h1,h2,h3⟩:=hk j m hm
   simp only[PL.den,PL.jO,h1,h2]
   exact h3 _ (by simp[vO])
 | .pI _ _,ar,K,K',ρ,_,_=>by simp only[PL.den,PL.jO]
theorem dJ{S:Nat->ai}{R:Nat}{p:PL}{ρ:List T}(h:p.wf []=true):p.den S R [] ρ=p.jO S R [] ρ:=
 CP S R p [] [] [] ρ h λj m hj=>by simp at hj
set_option linter.unusedSimpArgs false
abbrev ii(n:Int):T:=.c (.int .i64 n)
abbrev bb(b:Bool):T:=.c (.bool b)
def A6(n:Int):Prop:=(Lit.int .i64 n).wf=true
theorem A6.lo{n:Int}(h:A6 n):-9223372036854775808<=n:=by
 simp[A6,Lit.wf,IntKind.min,IntKind.max,IntKind.signed,IntKind.bits]at h;omega
theorem A6.hi{n:Int}(h:A6 n):n<9223372036854775808:=by
 simp[A6,Lit.wf,IntKind.min,IntKind.max,IntKind.signed,IntKind.bits]at h;omega
theorem A6.mk{n:Int}(h:-9223372036854775808<=n)(h':n<9223372036854775808):A6 n:=by
 simp[A6,Lit.wf,IntKind.min,IntKind.max,IntKind.signed,IntKind.bits];omega
def gt{α:Type} [Inhabited α](l:List α)(n:Int):α:=l.getD n.toNat default
theorem jE{α:Type} [Inhabited α]{enc:α->List T}{l:List α}{n:Int}(h:0<=n)(h':n<l.length):(l.map enc)[n.toNat]?=some (enc (gt l n)):=by
 have hn:n.toNat<l.length:=by omega
 rw[List.getElem?_map,List.getElem?_eq_getElem hn]
 simp[gt,List.getD,List.getElem?_eq_getElem hn]
theorem Fj{α:Type} [Inhabited α]{l:List α}{i:Nat}{a:α}(h:l[i]?=some a):gt l (i:Int)=a:=by
 simp[gt,List.getD,h]
theorem gL{α:Type} [Inhabited α]{l:List α}{i:Nat}(h:i<l.length):gt l (i:Int)=l[i]:=Fj (List.getElem?_eq_getElem h)
theorem oh{α:Type} [Inhabited α]{l:List α}{n:Int}(h:0<=n)(h':n<l.length):gt l n∈l:=by
 have hn:n.toNat<l.length:=by omega
 simp[gt,List.getD,List.getElem?_eq_getElem hn]
theorem A7{xs:List (List T)}{n:Int}{r:List T}(h0:0<=n)(h:xs[n.toNat]?=some r):sE (.l xs) (ii n)=some r:=by
 simp[sE,T.rows,T.int,h0,h]
theorem HJ{α:Type} [Inhabited α]{enc:α->List T}{l:List α}{n:Int}(h:0<=n)(h':n<l.length):Prim.ev .ic [.l (l.map enc),ii n]=some (bb true):=by
 simp[Prim.ev,A7 h (jE (enc:=enc) h h')]
theorem rb{xs:List (List T)}{n:Int}{w j:Nat}{r:List T}{t:T}(h0:0<=n)(h:xs[n.toNat]?=some r)(hw:r.length=w)(hj:r[j]?=some t):Prim.ev (.cell w j) [.l xs,ii n]=some t:=by
 simp[Prim.ev,A7 h0 h,hw,hj]
theorem th{xs:List (List T)}{n:Int}{w j:Nat}{r:List T}{t:T}(h0:0<=n)(h:xs[n.toNat]?=some r)(hw:r.length=w)(hj:r[j]?=some t)(hs:cF t=true):Prim.ev (.de w j) [.l xs,ii n]=some t:=by
 simp[Prim.ev,A7 h0 h,hw,hj,hs]
theorem Fk{xs ys:List (List T)}{n:Int}{w j:Nat}{r:List T}(h0:0<=n)(h:xs[n.toNat]?=some r)(hw:r.length=w)(hj:r[j]?=some (.l ys)):Prim.ev (.nC w j) [.l xs,ii n]=some (.l ys):=by
 simp[Prim.ev,A7 h0 h,hw,hj,T.rows]
theorem Fl{α:Type}{enc:α->List T}{l:List α}:Prim.ev .len [.l (l.map enc)]=some (ii l.length):=by
 rw[AR,List.length_map]
theorem A8{α:Type}{enc:α->List T}{w:Nat}(hw:∀x,(enc x).length=w)(l:List α):okW w (l.map enc)=true:=by
 cases l with
 |nil=>rfl
 |cons x l=>simp[okW,hw]
theorem CQ{α:Type}{enc:α->List T}{w:Nat}{sc:Bool}(hw:∀x,(enc x).length=w)(hs:sc=false∨∀x,(enc x).all cF=true){l m:List α}(h:l.length+m.length<tQ):Prim.ev (.app sc w) [.l (l.map enc),.l (m.map enc)]=some (.l ((l++m).map enc)):=by
 rw[List.map_append]
 refine V1 (by simpa using h) ?_ (A8 hw l) (A8 hw m)
 rcases hs with rfl|hs
 ·rfl
 ·have:(m.map enc).all (·.all cF)=true:=by simp only[List.all_map,List.all_eq_true];exactλx _=>hs x
  rw[this];simp
theorem HK{α:Type}{enc:α->List T}{w:Nat}{sc:Bool}(hw:∀x,(enc x).length=w)(hs:sc=false∨∀x,(enc x).all cF=true){m:List α}(h:m.length<tQ):Prim.ev (.app sc w) [.l [],.l (m.map enc)]=some (.l (m.map enc)):=
 CQ (l:=[]) hw hs (by simpa using h)
theorem A9{α:Type}{enc:α->List T}{w:Nat}(hw:∀x,(enc x).length=w){l:List α}{a:Int}(h:0<=a)(h':a<=l.length):Prim.ev (.sub w true false) [.l (l.map enc),ii a]=some (.l ((l.drop a.toNat).map enc)):=by
 simp only[Prim.ev,A8 hw l,if_true,List.length_map,ra,h,h']
 rw[if_pos (by omega)]
 have:((l.map enc).take (l.length:Int).toNat).drop a.toNat=(l.drop a.toNat).map enc:=by
  rw[List.map_drop,Int.toNat_natCast,List.take_of_length_le (by simp)]
 rw[this]
theorem A_{α:Type}{enc:α->List T}{w:Nat}(hw:∀x,(enc x).length=w){l:List α}{a:Int}(h:0<=a)(h':a<=l.length):Prim.ev (.sub w false true) [.l (l.map enc),ii a]=some (.l ((l.take a.toNat).map enc)):=by
 simp only[Prim.ev,A8 hw l,if_true,List.length_map,ra,h,h',Int.le_refl,Int.toNat_zero,List.drop_zero,List.map_take]
theorem Ng{α:Type}{enc:α->List T}{ok:α->Prop}{ty:List Ty}(h:∀r,gu ty r->∃x,r=enc x∧ok x):∀{xs:List (List T)},(∀r∈xs,gu ty r)->∃l:List α,xs=l.map enc∧∀x∈l,ok x
 | [],_=>⟨[],rfl,by simp⟩
 |r::xs,hx=>by
  obtain⟨x,rfl,h1⟩:=h r (hx _ (.head _))
  obtain⟨l,rfl,h2⟩:=Ng h (xs:=xs) λr hr=>hx r (.tail _ hr)
  refine⟨x::l,rfl,?_⟩
  intro y hy
  rcases List.mem_cons.1 hy with rfl|hy
  ·exact h1
  ·exact h2 y hy
def bu(n:Int):List T:=[ii n]
theorem WN{l:List Int}{n:Int}(h:0<=n)(h':n<l.length):Prim.ev (.cell 1 0) [.l (l.map bu),ii n]=some (ii (gt l n)):=rb h (jE h h') rfl rfl
theorem WO{l:List Int}{n:Int}(h:0<=n)(h':n<l.length):Prim.ev (.de 1 0) [.l (l.map bu),ii n]=some (ii (gt l n)):=th h (jE h h') rfl rfl rfl
theorem Nh{l m:List Int}(h:l.length+m.length<4294967296):Prim.ev (.app false 1) [.l (l.map bu),.l (m.map bu)]=some (.l ((l++m).map bu)):=CQ (w:=1) (λ_=>rfl) (.inl rfl) h
theorem Ni{m:List Int}(h:m.length<4294967296):Prim.ev (.app false 1) [.l [],.l (m.map bu)]=some (.l (m.map bu)):=HK (w:=1) (λ_=>rfl) (.inl rfl) h
theorem Nj{l m:List Int}(h:l.length+m.length<4294967296):Prim.ev (.app true 1) [.l (l.map bu),.l (m.map bu)]=some (.l ((l++m).map bu)):=CQ (w:=1) (λ_=>rfl) (.inr λ_=>rfl) h
theorem Nk{m:List Int}(h:m.length<4294967296):Prim.ev (.app true 1) [.l [],.l (m.map bu)]=some (.l (m.map bu)):=HK (w:=1) (λ_=>rfl) (.inr λ_=>rfl) h
theorem WQ{l:List Int}{x:Int}(h:l.length<4294967295):Prim.ev (.app false 1) [.l (l.map bu),.l ([x].map bu)]=some (.l ((l++[x]).map bu)):=Nh (by simp;omega)
theorem WR{x:Int}:Prim.ev (.app false 1) [.l [],.l ([x].map bu)]=some (.l ([x].map bu)):=Ni (by simp)
theorem WS{l:List Int}{x:Int}(h:l.length<4294967295):Prim.ev (.app true 1) [.l (l.map bu),.l ([x].map bu)]=some (.l ((l++[x]).map bu)):=Nj (by simp;omega)
theorem WU{x:Int}:Prim.ev (.app true 1) [.l [],.l ([x].map bu)]=some (.l ([x].map bu)):=Nk (by simp)
theorem WV{l:List Int}{a:Int}(h:0<=a)(h':a<=l.length):Prim.ev (.sub 1 true false) [.l (l.map bu),ii a]=some (.l ((l.drop a.toNat).map bu)):=A9 (enc:=bu) (w:=1) (λ_=>rfl) h h'
theorem WW{l:List Int}{a:Int}(h:0<=a)(h':a<=l.length):Prim.ev (.sub 1 false true) [.l (l.map bu),ii a]=some (.l ((l.take a.toNat).map bu)):=A_ (enc:=bu) (w:=1) (λ_=>rfl) h h'
theorem WX(x:Int):Prim.ev (.lit 1 [true]) [ii x]=some (.l ([x].map bu)):=CN (by decide) rfl rfl
theorem WY(x:Int):Prim.ev (.lit 1 []) [ii x]=some (.l ([x].map bu)):=CN (by decide) rfl rfl
structure dX where
 a:Int
 b:Int
 cost:Int
 aj:Int
 deriving Inhabited
structure j5 where
 owner:Int
 key:Int
 cost:Int
 gM:Bool
 deriving Inhabited
structure Net where
 n:Int
 cS:List dX
 gN:List j5
 deriving Inhabited
structure bA where
 to:Int
 cost:Int
 deriving Inhabited
def dD(x:bA):List T:=[ii x.to,ii x.cost]
theorem WZ{l:List bA}{n:Int}(h:0<=n)(h':n<l.length):Prim.ev (.cell 2 0) [.l (l.map dD),ii n]=some (ii (gt l n).to):=rb h (jE h h') rfl rfl
theorem W3{l:List bA}{n:Int}(h:0<=n)(h':n<l.length):Prim.ev (.de 2 0) [.l (l.map dD),ii n]=some (ii (gt l n).to):=th h (jE h h') rfl rfl rfl
theorem W4{l:List bA}{n:Int}(h:0<=n)(h':n<l.length):Prim.ev (.cell 2 1) [.l (l.map dD),ii n]=some (ii (gt l n).cost):=rb h (jE h h') rfl rfl
theorem W5{l:List bA}{n:Int}(h:0<=n)(h':n<l.length):Prim.ev (.de 2 1) [.l (l.map dD),ii n]=some (ii (gt l n).cost):=th h (jE h h') rfl rfl rfl
theorem k7_{l m:List bA}(h:l.length+m.length<4294967296):Prim.ev (.app false 2) [.l (l.map dD),.l (m.map dD)]=some (.l ((l++m).map dD)):=CQ (w:=2) (λ_=>rfl) (.inl rfl) h
theorem kz_{m:List bA}(h:m.length<4294967296):Prim.ev (.app false 2) [.l [],.l (m.map dD)]=some (.l (m.map dD)):=HK (w:=2) (λ_=>rfl) (.inl rfl) h
theorem Rz{l m:List bA}(h:l.length+m.length<4294967296):Prim.ev (.app true 2) [.l (l.map dD),.l (m.map dD)]=some (.l ((l++m).map dD)):=CQ (w:=2) (λ_=>rfl) (.inr λ_=>rfl) h
theorem k9_{m:List bA}(h:m.length<4294967296):Prim.ev (.app true 2) [.l [],.l (m.map dD)]=some (.l (m.map dD)):=HK (w:=2) (λ_=>rfl) (.inr λ_=>rfl) h
theorem W6{l:List bA}{x:bA}(h:l.length<4294967295):Prim.ev (.app false 2) [.l (l.map dD),.l ([x].map dD)]=some (.l ((l++[x]).map dD)):=k7_ (by simp;omega)
theorem W7{x:bA}:Prim.ev (.app false 2) [.l [],.l ([x].map dD)]=some (.l ([x].map dD)):=kz_ (by simp)
theorem W8{l:List bA}{x:bA}(h:l.length<4294967295):Prim.ev (.app true 2) [.l (l.map dD),.l ([x].map dD)]=some (.l ((l++[x]).map dD)):=Rz (by simp;omega)
theorem W9{x:bA}:Prim.ev (.app true 2) [.l [],.l ([x].map dD)]=some (.l ([x].map dD)):=k9_ (by simp)
theorem W_{l:List bA}{a:Int}(h:0<=a)(h':a<=l.length):Prim.ev (.sub 2 true false) [.l (l.map dD),ii a]=some (.l ((l.drop a.toNat).map dD)):=A9 (enc:=dD) (w:=2) (λ_=>rfl) h h'
theorem Xa{l:List bA}{a:Int}(h:0<=a)(h':a<=l.length):Prim.ev (.sub 2 false true) [.l (l.map dD),ii a]=some (.l ((l.take a.toNat).map dD)):=A_ (enc:=dD) (w:=2) (λ_=>rfl) h h'
theorem Xb(v0:Int)(v1:Int):Prim.ev (.lit 2 [true,true]) [ii v0,ii v1]=some (.l ([(⟨v0,v1⟩:bA)].map dD)):=CN (by decide) rfl rfl
theorem Xc(v0:Int)(v1:Int):Prim.ev (.lit 2 []) [ii v0,ii v1]=some (.l ([(⟨v0,v1⟩:bA)].map dD)):=CN (by decide) rfl rfl
theorem Xd(x:bA):(⟨x.to,x.cost⟩:bA)=x:=rfl
structure ah where
 aj:Int
 kind:Int
 owner:Int
 key:Int
 seq:Int
 aQ:List bA
 cost:Int
 gM:Bool
 deriving Inhabited
def bq(x:ah):List T:=[ii x.aj,ii x.kind,ii x.owner,ii x.key,ii x.seq,.l (x.aQ.map dD),ii x.cost,bb x.gM]
theorem Xe{l:List ah}{n:Int}(h:0<=n)(h':n<l.length):Prim.ev (.cell 8 0) [.l (l.map bq),ii n]=some (ii (gt l n).aj):=rb h (jE h h') rfl rfl
theorem Xf{l:List ah}{n:Int}(h:0<=n)(h':n<l.length):Prim.ev (.de 8 0) [.l (l.map bq),ii n]=some (ii (gt l n).aj):=th h (jE h h') rfl rfl rfl
theorem Xg{l:List ah}{n:Int}(h:0<=n)(h':n<l.length):Prim.ev (.cell 8 1) [.l (l.map bq),ii n]=some (ii (gt l n).kind):=rb h (jE h h') rfl rfl
theorem Xh{l:List ah}{n:Int}(h:0<=n)(h':n<l.length):Prim.ev (.de 8 1) [.l (l.map bq),ii n]=some (ii (gt l n).kind):=th h (jE h h') rfl rfl rfl
theorem Xi{l:List ah}{n:Int}(h:0<=n)(h':n<l.length):Prim.ev (.cell 8 2) [.l (l.map bq),ii n]=some (ii (gt l n).owner):=rb h (jE h h') rfl rfl
theorem Xj{l:List ah}{n:Int}(h:0<=n)(h':n<l.length):Prim.ev (.de 8 2) [.l (l.map bq),ii n]=some (ii (gt l n).owner):=th h (jE h h') rfl rfl rfl
theorem Xk{l:List ah}{n:Int}(h:0<=n)(h':n<l.length):Prim.ev (.cell 8 3) [.l (l.map bq),ii n]=some (ii (gt l n).key):=rb h (jE h h') rfl rfl
theorem Xl{l:List ah}{n:Int}(h:0<=n)(h':n<l.length):Prim.ev (.de 8 3) [.l (l.map bq),ii n]=some (ii (gt l n).key):=th h (jE h h') rfl rfl rfl
theorem Xm{l:List ah}{n:Int}(h:0<=n)(h':n<l.length):Prim.ev (.cell 8 4) [.l (l.map bq),ii n]=some (ii (gt l n).seq):=rb h (jE h h') rfl rfl
theorem Xn{l:List ah}{n:Int}(h:0<=n)(h':n<l.length):Prim.ev (.de 8 4) [.l (l.map bq),ii n]=some (ii (gt l n).seq):=th h (jE h h') rfl rfl rfl
theorem Xo{l:List ah}{n:Int}(h:0<=n)(h':n<l.length):Prim.ev (.cell 8 5) [.l (l.map bq),ii n]=some (.l ((gt l n).aQ.map dD)):=rb h (jE h h') rfl rfl
theorem Xp{l:List ah}{n:Int}(h:0<=n)(h':n<l.length):Prim.ev (.nC 8 5) [.l (l.map bq),ii n]=some (.l ((gt l n).aQ.map dD)):=Fk h (jE h h') rfl rfl
theorem Xq{l:List ah}{n:Int}(h:0<=n)(h':n<l.length):Prim.ev (.cell 8 6) [.l (l.map bq),ii n]=some (ii (gt l n).cost):=rb h (jE h h') rfl rfl
theorem Xr{l:List ah}{n:Int}(h:0<=n)(h':n<l.length):Prim.ev (.de 8 6) [.l (l.map bq),ii n]=some (ii (gt l n).cost):=th h (jE h h') rfl rfl rfl
theorem Xs{l:List ah}{n:Int}(h:0<=n)(h':n<l.length):Prim.ev (.cell 8 7) [.l (l.map bq),ii n]=some (bb (gt l n).gM):=rb h (jE h h') rfl rfl
theorem Xt{l:List ah}{n:Int}(h:0<=n)(h':n<l.length):Prim.ev (.de 8 7) [.l (l.map bq),ii n]=some (bb (gt l n).gM):=th h (jE h h') rfl rfl rfl
theorem Nl{l m:List ah}(h:l.length+m.length<4294967296):Prim.ev (.app false 8) [.l (l.map bq),.l (m.map bq)]=some (.l ((l++m).map bq)):=CQ (w:=8) (λ_=>rfl) (.inl rfl) h
theorem Nm{m:List ah}(h:m.length<4294967296):Prim.ev (.app false 8) [.l [],.l (m.map bq)]=some (.l (m.map bq)):=HK (w:=8) (λ_=>rfl) (.inl rfl) h
theorem Xu{l:List ah}{x:ah}(h:l.length<4294967295):Prim.ev (.app false 8) [.l (l.map bq),.l ([x].map bq)]=some (.l ((l++[x]).map bq)):=Nl (by simp;omega)
theorem Xv{x:ah}:Prim.ev (.app false 8) [.l [],.l ([x].map bq)]=some (.l ([x].map bq)):=Nm (by simp)
theorem Xw{l:List ah}{a:Int}(h:0<=a)(h':a<=l.length):Prim.ev (.sub 8 true false) [.l (l.map bq),ii a]=some (.l ((l.drop a.toNat).map bq)):=A9 (enc:=bq) (w:=8) (λ_=>rfl) h h'
theorem Xx{l:List ah}{a:Int}(h:0<=a)(h':a<=l.length):Prim.ev (.sub 8 false true) [.l (l.map bq),ii a]=some (.l ((l.take a.toNat).map bq)):=A_ (enc:=bq) (w:=8) (λ_=>rfl) h h'
theorem Xy(v0:Int)(v1:Int)(v2:Int)(v3:Int)(v4:Int)(v5:List bA)(v6:Int)(v7:Bool):Prim.ev (.lit 8 [true,true,true,true,true,false,true,true]) [ii v0,ii v1,ii v2,ii v3,ii v4,.l (v5.map dD),ii v6,bb v7]=some (.l ([(⟨v0,v1,v2,v3,v4,v5,v6,v7⟩:ah)].map bq)):=CN (by decide) rfl rfl
theorem Nn(v0:Int)(v1:Int)(v2:Int)(v3:Int)(v4:Int)(v5:List bA)(v6:Int)(v7:Bool):Prim.ev (.lit 8 []) [ii v0,ii v1,ii v2,ii v3,ii v4,.l (v5.map dD),ii v6,bb v7]=some (.l ([(⟨v0,v1,v2,v3,v4,v5,v6,v7⟩:ah)].map bq)):=CN (by decide) rfl rfl
theorem Xz(x:ah):(⟨x.aj,x.kind,x.owner,x.key,x.seq,x.aQ,x.cost,x.gM⟩:ah)=x:=rfl
structure Way where
 to:Int
 cost:Int
 cf:List Int
 deriving Inhabited
structure agY where
 Np:Bool
 to:Int
 kind:Int
 cost:Int
 gM:Int
 cf:List Int
 deriving Inhabited
structure Self where
 id:Int
 j6:Int
 net:Net
 heard:List Int
 store:List ah
 deriving Inhabited
structure nf where
 node:Int
 aj:Int
 left:Int
 both:Bool
 deriving Inhabited
structure Node where
 self:Self
 ng:List nf
 deriving Inhabited
structure aM where
 kind:Int
 fS:Int
 to:Int
 aj:Int
 heard:List Int
 list:List ah
 deriving Inhabited
def ib(x:aM):List T:=[ii x.kind,ii x.fS,ii x.to,ii x.aj,.l (x.heard.map bu),.l (x.list.map bq)]
theorem XA{l:List aM}{n:Int}(h:0<=n)(h':n<l.length):Prim.ev (.cell 6 0) [.l (l.map ib),ii n]=some (ii (gt l n).kind):=rb h (jE h h') rfl rfl
theorem XB{l:List aM}{n:Int}(h:0<=n)(h':n<l.length):Prim.ev (.de 6 0) [.l (l.map ib),ii n]=some (ii (gt l n).kind):=th h (jE h h') rfl rfl rfl
theorem XC{l:List aM}{n:Int}(h:0<=n)(h':n<l.length):Prim.ev (.cell 6 1) [.l (l.map ib),ii n]=some (ii (gt l n).fS):=rb h (jE h h') rfl rfl
theorem XD{l:List aM}{n:Int}(h:0<=n)(h':n<l.length):Prim.ev (.de 6 1) [.l (l.map ib),ii n]=some (ii (gt l n).fS):=th h (jE h h') rfl rfl rfl
theorem XE{l:List aM}{n:Int}(h:0<=n)(h':n<l.length):Prim.ev (.cell 6 2) [.l (l.map ib),ii n]=some (ii (gt l n).to):=rb h (jE h h') rfl rfl
theorem XF{l:List aM}{n:Int}(h:0<=n)(h':n<l.length):Prim.ev (.de 6 2) [.l (l.map ib),ii n]=some (ii (gt l n).to):=th h (jE h h') rfl rfl rfl
theorem XG{l:List aM}{n:Int}(h:0<=n)(h':n<l.length):Prim.ev (.cell 6 3) [.l (l.map ib),ii n]=some (ii (gt l n).aj):=rb h (jE h h') rfl rfl
theorem XH{l:List aM}{n:Int}(h:0<=n)(h':n<l.length):Prim.ev (.de 6 3) [.l (l.map ib),ii n]=some (ii (gt l n).aj):=th h (jE h h') rfl rfl rfl
theorem XI{l:List aM}{n:Int}(h:0<=n)(h':n<l.length):Prim.ev (.cell 6 4) [.l (l.map ib),ii n]=some (.l ((gt l n).heard.map bu)):=rb h (jE h h') rfl rfl
theorem XJ{l:List aM}{n:Int}(h:0<=n)(h':n<l.length):Prim.ev (.nC 6 4) [.l (l.map ib),ii n]=some (.l ((gt l n).heard.map bu)):=Fk h (jE h h') rfl rfl
theorem XK{l:List aM}{n:Int}(h:0<=n)(h':n<l.length):Prim.ev (.cell 6 5) [.l (l.map ib),ii n]=some (.l ((gt l n).list.map bq)):=rb h (jE h h') rfl rfl
theorem XL{l:List aM}{n:Int}(h:0<=n)(h':n<l.length):Prim.ev (.nC 6 5) [.l (l.map ib),ii n]=some (.l ((gt l n).list.map bq)):=Fk h (jE h h') rfl rfl
theorem ka_{l m:List aM}(h:l.length+m.length<4294967296):Prim.ev (.app false 6) [.l (l.map ib),.l (m.map ib)]=some (.l ((l++m).map ib)):=CQ (w:=6) (λ_=>rfl) (.inl rfl) h
theorem jf_{m:List aM}(h:m.length<4294967296):Prim.ev (.app false 6) [.l [],.l (m.map ib)]=some (.l (m.map ib)):=HK (w:=6) (λ_=>rfl) (.inl rfl) h
theorem XM{l:List aM}{x:aM}(h:l.length<4294967295):Prim.ev (.app false 6) [.l (l.map ib),.l ([x].map ib)]=some (.l ((l++[x]).map ib)):=ka_ (by simp;omega)
theorem XN{x:aM}:Prim.ev (.app false 6) [.l [],.l ([x].map ib)]=some (.l ([x].map ib)):=jf_ (by simp)
theorem XO{l:List aM}{a:Int}(h:0<=a)(h':a<=l.length):Prim.ev (.sub 6 true false) [.l (l.map ib),ii a]=some (.l ((l.drop a.toNat).map ib)):=A9 (enc:=ib) (w:=6) (λ_=>rfl) h h'
theorem XP{l:List aM}{a:Int}(h:0<=a)(h':a<=l.length):Prim.ev (.sub 6 false true) [.l (l.map ib),ii a]=some (.l ((l.take a.toNat).map ib)):=A_ (enc:=ib) (w:=6) (λ_=>rfl) h h'
theorem XQ(v0:Int)(v1:Int)(v2:Int)(v3:Int)(v4:List Int)(v5:List ah):Prim.ev (.lit 6 [true,true,true,true,false,false]) [ii v0,ii v1,ii v2,ii v3,.l (v4.map bu),.l (v5.map bq)]=some (.l ([(⟨v0,v1,v2,v3,v4,v5⟩:aM)].map ib)):=CN (by decide) rfl rfl
theorem XR(v0:Int)(v1:Int)(v2:Int)(v3:Int)(v4:List Int)(v5:List ah):Prim.ev (.lit 6 []) [ii v0,ii v1,ii v2,ii v3,.l (v4.map bu),.l (v5.map bq)]=some (.l ([(⟨v0,v1,v2,v3,v4,v5⟩:aM)].map ib)):=CN (by decide) rfl rfl
theorem XS(x:aM):(⟨x.kind,x.fS,x.to,x.aj,x.heard,x.list⟩:aM)=x:=rfl
structure XU where
 Np:Bool
 to:Int
 cf:List Int
 deriving Inhabited
structure aiC where
 gone:Bool
 line:XU
 deriving Inhabited
structure World where
 net:Net
 cS:List Bool
 up:List Bool
 ag2:List Int
 nodes:List Node
 XV:List aM
 told:List ah
 errors:Int
 deriving Inhabited
set_option linter.unusedSimpArgs false
set_option linter.defProp false
theorem pz:(∀p:Prop,(p∨p)=p)∧(∀p:Prop,(p∨True)=True)∧(∀p:Prop,(True∨p)=True)∧(∀p:Prop,(p∨False)=p)∧(∀p:Prop,(False∨p)=p)∧(¬True)=False∧(¬False)=True∧(∀a:Int,(a<a)=False):=
 ⟨or_self,or_true,true_or,or_false,false_or,not_true_eq_false,not_false_eq_true,λa=>eq_false (Int.lt_irrefl a)⟩
@[congr] theorem aiD {α β:Type} {F:(α->Option β)->α->Option β} {R:Nat} {x y:α} (h:x=y):iter F R x=iter F R y:=by rw[h]
@[congr] theorem aiE {α β:Type} {o o':Option α} {f:α->Option β} (h:o=o'):o.bind f=o'.bind f:=by rw[h]
@[congr] theorem aiF {t t':T} {x y:Option (List T)} (h:t=t'):aC t x y=aC t' x y:=by rw[h]
@[congr] theorem aiG {k:ai} {b:ai->Option (List T)}:jn k b=jn k b:=rfl
@[congr] theorem aiH {o o':Option (List T)} {k:T->Option (List T)} (h:o=o'):cL o k=cL o' k:=by rw[h]
@[congr] theorem aiI {k:T->Option (List T)} {l l':List T} (h:l=l'):lK k l=lK k l':=by rw[h]
@[congr] theorem aiJ {o o':Option (List T)} {k:T->T->Option (List T)} (h:o=o'):mE o k=mE o' k:=by rw[h]
@[congr] theorem aiK {k:T->T->Option (List T)} {l l':List T} (h:l=l'):jD k l=jD k l':=by rw[h]
@[congr] theorem aiL {o o':Option (List T)} {k:T->T->T->Option (List T)} (h:o=o'):Ff o k=Ff o' k:=by rw[h]
@[congr] theorem aiM {o o':Option (List T)} {k:T->T->T->T->Option (List T)} (h:o=o'):cY o k=cY o' k:=by rw[h]
@[congr] theorem aiN {k:T->T->T->T->Option (List T)} {l l':List T} (h:l=l'):xK k l=xK k l':=by rw[h]
@[congr] theorem aiO {k:T->T->T->T->T->Option (List T)} {l l':List T} (h:l=l'):rW k l=rW k l':=by rw[h]
@[congr] theorem aiP {o o':Option (List T)} {k:T->T->T->T->T->T->Option (List T)} (h:o=o'):M5 o k=M5 o' k:=by rw[h]
@[congr] theorem aiQ {k:T->T->T->T->T->T->Option (List T)} {l l':List T} (h:l=l'):Fg k l=Fg k l':=by rw[h]
@[congr] theorem aiR {o o':Option (List T)} {k:T->T->T->T->T->T->T->Option (List T)} (h:o=o'):Fh o k=Fh o' k:=by rw[h]
@[congr] theorem aiS {k:T->T->T->T->T->T->T->Option (List T)} {l l':List T} (h:l=l'):Fi k l=Fi k l':=by rw[h]
@[congr] theorem aiT {o o':Option (List T)} {k:T->T->T->T->T->T->T->T->Option (List T)} (h:o=o'):vX o k=vX o' k:=by rw[h]
@[congr] theorem aiU {k:T->T->T->T->T->T->T->T->Option (List T)} {l l':List T} (h:l=l'):HI k l=HI k l':=by rw[h]
@[congr] theorem aiV {o o':Option (List T)} {k:T->T->T->T->T->T->T->T->T->Option (List T)} (h:o=o'):yV o k=yV o' k:=by rw[h]
@[congr] theorem aiW {k:T->T->T->T->T->T->T->T->T->Option (List T)} {l l':List T} (h:l=l'):Ry k l=Ry k l':=by rw[h]
@[congr] theorem aiX {k:T->T->T->T->T->T->T->T->T->T->Option (List T)} {l l':List T} (h:l=l'):A4 k l=A4 k l':=by rw[h]
@[congr] theorem aiY {o o':Option (List T)} {k:T->T->T->T->T->T->T->T->T->T->T->Option (List T)} (h:o=o'):vl o k=vl o' k:=by rw[h]
@[congr] theorem aiZ {k:T->T->T->T->T->T->T->T->T->T->T->Option (List T)} {l l':List T} (h:l=l'):A5 k l=A5 k l':=by rw[h]
theorem Fm(b:Bool)(x y:Option (List T)):aC (bb b) x y=if b=true then x else y:=by cases b<;>rfl
theorem XW:Prim.ev .len [.l []]=some (ii 0):=rfl
theorem Fo(a b:Int)(h:b≠0):Prim.ev (.bin .rem) [ii a,ii b]=some (ii (a.tmod b)):=by
 simp only[Prim.ev,T.val,fh,Option.bind_some,if_true,h,if_false]
theorem XX(a b:Int):Prim.ev .mx [ii a,ii b]=some (ii (if b>a then b else a)):=rfl
theorem XY(a b:Int):Prim.ev .mn [ii a,ii b]=some (ii (if b<a then b else a)):=rfl
theorem XZ(a b c d a' b' c' d':Int):Prim.ev (.oY [1,1,1,1]) [ii a,ii b,ii c,ii d,ii a',ii b',ii c',ii d']=some (bb (a==a'&&(b==b'&&(c==c'&&(d==d'))))):=by
 simp[Prim.ev,sF,C7]
theorem X0(a b c a' b' c':Int)(d d':Bool):Prim.ev (.oY [1,1,1,4]) [ii a,ii b,ii c,bb d,ii a',ii b',ii c',bb d']=some (bb (a==a'&&(b==b'&&(c==c'&&(d==d'))))):=by
 simp[Prim.ev,sF,C7]
theorem X1{w:Nat}(h:0<w):Prim.ev (.lit w []) []=some (.l []):=by
 simp[Prim.ev,mQ,kY,h]
theorem X2(a b:Int):Prim.ev (.lit 1 [true,true]) [ii a,ii b]=some (.l ([a,b].map bu)):=by simp[Prim.ev,mQ,kY,cF,bu]
theorem X3(a b:Int):Prim.ev (.lit 1 []) [ii a,ii b]=some (.l ([a,b].map bu)):=by simp[Prim.ev,mQ,kY,bu]
theorem X4{l:List Int}{x y:Int}(h:l.length<4294967294):Prim.ev (.app true 1) [.l (l.map bu),.l ([x,y].map bu)]=some (.l ((l++[x,y]).map bu)):=Nj (by simp;omega)
theorem X5(a b:Int):((a==b)=true)=(a=b):=by simp
theorem X6(a b:Int):((a !=b)=true)=¬(a=b):=by simp
theorem X7(b:Bool):((!b)=true)=¬(b=true):=by simp
theorem X8(a b:Bool):((a !=b)=true)=¬((a=true)=(b=true)):=by cases a<;>cases b<;>simp
theorem X9(a b:Bool):((a==b)=true)=((a=true)=(b=true)):=by cases a<;>cases b<;>simp
theorem yW(n:Nat):((n+1:Nat):Int)=(n:Int)+1:=by simp
theorem Nq(a b:Nat):((a+b:Nat):Int)=(a:Int)+b:=by simp
theorem Nr:((1:Nat):Int)=1:=rfl
theorem X_:((2:Nat):Int)=2:=rfl
theorem X':((3:Nat):Int)=3:=rfl
theorem Yd:((5:Nat):Int)=5:=rfl
theorem Yf:((6:Nat):Int)=6:=rfl
theorem Yi:((7:Nat):Int)=7:=rfl
theorem Yj:((9:Nat):Int)=9:=rfl
theorem Yk:((0:Nat):Int)=0:=rfl
theorem A'{α:Type}{p q:Prop} [Decidable p] [Decidable q](h:p↔q)(x y:α):(if p then x else y)=if q then x else y:=by
 by_cases hq:q
 ·rw[if_pos (h.2 hq),if_pos hq]
 ·rw[if_neg (λhp=>hq (h.1 hp)),if_neg hq]
def ln(n:Nat)(p:Nat->Bool):Bool:=(List.range n).all p
theorem cm{n:Nat}{p:Nat->Bool}:ln n p=true↔∀i,i<n->p i=true:=by
 simp[ln]
theorem Yr{β σ:Type}{F:(σ->Option β)->σ->Option β}(n:Nat)(st:Nat->σ)(p:Nat->Bool){jP jQ:Option β}
  (step:∀i:Nat,(i:Int)<(n:Int)->∀s,F s (st i)=if p i=true then s (st (i+1))else jQ)(fin:∀s,F s (st n)=jP){R:Nat}(hR:n<R):
  iter F R (st 0)=if ln n p=true then jP else jQ:=by
 classical
 have:∀(d i:Nat),i+d=n->∀R,d<R->iter F R (st i)=if(∀j,i<=j->j<n->p j=true)then jP else jQ:=by
  intro d
  induction d with
  |zero=>
   intro i hi R hR
   cases R with
   |zero=>omega
   |succ R=>
    have hi:i=n:=hi
    subst hi
    rw[if_pos (λj h1 h2=>absurd h1 (by omega))]
    exact fin _
  |succ d ih=>
   intro i hi R hR
   cases R with
   |zero=>omega
   |succ R=>
    unfold iter
    rw[step i (by omega)]
    by_cases hp:p i=true
    ·rw[if_pos hp,ih (i+1) (by omega) R (by omega)]
     refine A' ⟨λh j h1 h2=>?_,λh j h1 h2=>h j (by omega) h2⟩ _ _
     rcases Nat.lt_or_ge i j with h3|h3
     ·exact h j h3 h2
     ·have:j=i:=by omega
      subst this;exact hp
    ·rw[if_neg hp,if_neg λh=>hp (h i (Nat.le_refl i) (by omega))]
 rw[this n 0 (by omega) R hR]
 exact A' ⟨λh=>cm.2 λi hi=>h i (Nat.zero_le i) hi,λh j _ h2=>cm.1 h j h2⟩ _ _
def iz{α:Type}(p:α->Bool)(l:List α):Int:=match l.findIdx? p with|some i=>(i:Int)|none=>-1
theorem CR{α:Type}(p:α->Bool)(l:List α):iz p l<l.length:=by
 unfold iz
 cases h:l.findIdx? p with
 |none=>show(-1:Int)<_;omega
 |some i=>
  obtain⟨h1,_⟩:=List.findIdx?_eq_some_iff_getElem.1 h
  show(i:Int)<_;omega
theorem YA{α:Type}(p:α->Bool)(l:List α):-1<=iz p l:=by
 unfold iz
 cases h:l.findIdx? p with
 |none=>show(-1:Int)<=-1;omega
 |some i=>show(-1:Int)<=(i:Int);omega
theorem yX{α:Type} [Inhabited α](p:α->Bool)(l:List α)(h:0<=iz p l):p (gt l (iz p l))=true:=by
 unfold iz at h⊢
 cases h':l.findIdx? p with
 |none=>rw[h']at h;exact absurd h (by decide)
 |some i=>
  obtain⟨h1,h2,_⟩:=List.findIdx?_eq_some_iff_getElem.1 h'
  show p (gt l (i:Int))=true
  rw[gL h1];exact h2
theorem Ns{α:Type}(p:α->Bool)(l:List α):iz p l<0↔∀x∈l,p x=false:=by
 unfold iz
 cases h:l.findIdx? p with
 |none=>
  rw[List.findIdx?_eq_none_iff]at h
  exact⟨λ_=>h,λ_=>by show(-1:Int)<0;decide⟩
 |some i=>
  obtain⟨h1,h2,_⟩:=List.findIdx?_eq_some_iff_getElem.1 h
  refine⟨λh3=>absurd (show(i:Int)<0 from h3) (by omega),λh3=>?_⟩
  rw[h3 _ (List.getElem_mem h1)]at h2
  cases h2
theorem YB{α β σ:Type} [Inhabited α]{F:(σ->Option β)->σ->Option β}(l:List α)(st:Nat->σ)(p:α->Bool)(qH:Int->Option β){rX:Option β}
  (step:∀i:Nat,(i:Int)<(l.length:Int)->∀s,F s (st i)=if p (gt l i)=true then qH i else s (st (i+1)))(fin:∀s,F s (st l.length)=rX){R:Nat}(hR:l.length<R):
  iter F R (st 0)=if iz p l<0 then rX else qH (iz p l):=by
 have:∀(d i:Nat),i+d=l.length->∀R,d<R->iter F R (st i)=(match(l.drop i).findIdx? p with|some k=>qH ((i+k:Nat):Int)|none=>rX):=by
  intro d
  induction d with
  |zero=>
   intro i hi R hR
   cases R with
   |zero=>omega
   |succ R=>
    rw[Nat.add_zero]at hi
    subst hi
    rw[List.drop_length]
    exact fin _
  |succ d ih=>
   intro i hi R hR
   cases R with
   |zero=>omega
   |succ R=>
    have bI:i<l.length:=by omega
    unfold iter
    rw[step i (by omega),List.drop_eq_getElem_cons bI,List.findIdx?_cons,gL bI]
    cases hp:p l[i]with
    |true=>simp
    |false=>
     simp only[du,if_false]
     rw[ih (i+1) (by omega) R (by omega)]
     cases(l.drop (i+1)).findIdx? p with
     |none=>rfl
     |some k=>simp[Int.add_assoc,Int.add_comm 1]
 have h:=this l.length 0 (by omega) R hR
 rw[h,List.drop_zero]
 unfold iz
 cases l.findIdx? p with
 |none=>rfl
 |some i=>
  show qH ((0+i:Nat):Int)=if(i:Int)<0 then rX else qH (i:Int)
  rw[if_neg (by omega),Nat.zero_add]
theorem YC{α γ β σ:Type} [Inhabited α]{F:(σ->Option β)->σ->Option β}(l:List α)(st:Nat->γ->σ)(g:γ->α->γ)(out:γ->Option β)(c:γ)(Inv:Nat->γ->Prop)(h0:Inv 0 c)
  (step:∀(i:Nat) c,(i:Int)<(l.length:Int)->Inv i c->Inv (i+1) (g c (gt l i))∧∀s,F s (st i c)=s (st (i+1) (g c (gt l i))))(fin:∀c s,Inv l.length c->F s (st l.length c)=out c){R:Nat}(hR:l.length<R):
  iter F R (st 0 c)=out (l.foldl g c):=by
 have:∀(d i:Nat) (c:γ),i+d=l.length->Inv i c->∀R,d<R->iter F R (st i c)=out ((l.drop i).foldl g c):=by
  intro d
  induction d with
  |zero=>
   intro i c hi hc R hR
   cases R with
   |zero=>omega
   |succ R=>
    rw[Nat.add_zero]at hi
    subst hi
    rw[List.drop_length]
    exact fin _ _ hc
  |succ d ih=>
   intro i c hi hc R hR
   cases R with
   |zero=>omega
   |succ R=>
    have bI:i<l.length:=by omega
    unfold iter
    obtain⟨h1,h2⟩:=step i c (by omega) hc
    rw[h2,List.drop_eq_getElem_cons bI,List.foldl_cons,ih (i+1) _ (by omega) h1 R (by omega),gL bI]
 have h:=this l.length 0 c (by omega) h0 R hR
 simpa using h
theorem YD{α β:Type}(f:α->β)(l:List α)(acc:List β):l.foldl (λc a=>c++[f a]) acc=acc++l.map f:=by
 induction l generalizing acc with
 |nil=>simp
 |cons a l ih=>rw[List.foldl_cons,ih];simp
theorem vY{β σ:Type}{F:(σ->Option β)->σ->Option β}{R:Nat}{x:σ}(n:Nat)(st:Nat->σ)(p:Nat->Bool){jP jQ:Option β}(hx:x=st 0)(hR:n<R)
  (step:∀i:Nat,(i:Int)<(n:Int)->∀s,F s (st i)=if p i=true then s (st (i+1))else jQ)(fin:∀s,F s (st n)=jP):
  iter F R x=if ln n p=true then jP else jQ:=by rw[hx];exact Yr n st p step fin hR
theorem YE{α β σ:Type} [Inhabited α]{F:(σ->Option β)->σ->Option β}{R:Nat}{x:σ}(l:List α)(st:Nat->σ)(p:α->Bool)(qH:Int->Option β){rX:Option β}(hx:x=st 0)(hR:l.length<R)
  (step:∀i:Nat,(i:Int)<(l.length:Int)->∀s,F s (st i)=if p (gt l i)=true then qH i else s (st (i+1)))(fin:∀s,F s (st l.length)=rX):
  iter F R x=if iz p l<0 then rX else qH (iz p l):=by rw[hx];exact YB l st p qH step fin hR
theorem vZ{α γ β σ:Type} [Inhabited α]{F:(σ->Option β)->σ->Option β}{R:Nat}{x:σ}(l:List α)(st:Nat->γ->σ)(g:γ->α->γ)(out:γ->Option β)(c:γ)(Inv:Nat->γ->Prop)(hx:x=st 0 c)(hR:l.length<R)(h0:Inv 0 c)
  (step:∀(i:Nat) c,(i:Int)<(l.length:Int)->Inv i c->Inv (i+1) (g c (gt l i))∧∀s,F s (st i c)=s (st (i+1) (g c (gt l i))))(fin:∀c s,Inv l.length c->F s (st l.length c)=out c):
  iter F R x=out (l.foldl g c):=by rw[hx];exact YC l st g out c Inv h0 step fin hR
theorem Nt{α γ:Type} [Inhabited α]{l:List α}{g:γ->α->γ}{c:γ}{Inv:Nat->γ->Prop}(h0:Inv 0 c)(step:∀(i:Nat) c,(i:Int)<(l.length:Int)->Inv i c->Inv (i+1) (g c (gt l i))):Inv l.length (l.foldl g c):=by
 have:∀(d i:Nat) (c:γ),i+d=l.length->Inv i c->Inv l.length ((l.drop i).foldl g c):=by
  intro d
  induction d with
  |zero=>intro i c hi hc;rw[Nat.add_zero]at hi;subst hi;rw[List.drop_length];exact hc
  |succ d ih=>
   intro i c hi hc
   have bI:i<l.length:=by omega
   rw[List.drop_eq_getElem_cons bI,List.foldl_cons]
   have:=step i c (by omega) hc
   rw[gL bI]at this
   exact ih (i+1) _ (by omega) this
 have h:=this l.length 0 c (by omega) h0
 simpa using h
theorem mh{n:Nat}(h:n<=1048576):n<rounds:=by unfold rounds;omega
theorem YF{α:Type}(p:α->Bool)(l:List α)(acc:List α):l.foldl (λc a=>if p a=true then c++[a]else c) acc=acc++l.filter p:=by
 induction l generalizing acc with
 |nil=>simp
 |cons a l ih=>
  rw[List.foldl_cons,ih]
  cases h:p a<;>simp[h,List.filter_cons]
def ps0:=(af (af (af (af (@ra T (List T)) (af trivial @M1)) (af @WE (af @WG @WH))) (af (af trivial (af @WI @WJ)) (af @WK (af @WL trivial)))) (af (af (af @WM (af trivial trivial)) (af trivial (af trivial trivial))) (af (af trivial (af @M2 @M3)) (af trivial (af @M4 @CO)))))
def ps1:=(af (af (af (af @M6 (af @M7 @M8)) (af @M9 (af @M_ @Nb))) (af (af trivial (af trivial trivial)) (af trivial (af trivial Fm)))) (af (af (af (λ(p:Prop) (_:Decidable p)=>@decide_eq_true_eq p _) (af bd Bool.or_eq_true)) (af X7 (af X8 X9))) (af (af X5 (af X6 @Fl)) (af XW (af @Me @AS)))))
def ps2:=(af (af (af (af @Mi (af @Mk @Ml)) (af @EY (af @Mm @CK))) (af (af @Mo (af @EZ Fo)) (af XX (af XY Mr)))) (af (af (af Ms (af Mu @Mf)) (af Mg (af Mh @HJ))) (af (af @yS (af VM XZ)) (af X0 (af @X1 Nq)))))
def ps3:=(af (af (af (af Yk (af Nr X_)) (af X' (af Yd Yf))) (af (af Yi (af Yj Mp)) (af Mq (af X2 X3)))) (af (af (af @X4 (af (λ(k:Nat)=>@Int.toNat_natCast k) (λ(α:Type) (f:α->List T) (l:List α)=>@List.length_map α (List T) l f))) (af trivial (af trivial trivial))) (af (af Xd (af Xz trivial)) (af trivial (af trivial trivial)))))
def ps4:=(af (af (af (af trivial (af XS trivial)) (af trivial (af trivial @WN))) (af (af @WO (af @WQ @WR)) (af @Nh (af @Ni @WS)))) (af (af (af @WU (af @Nj @Nk)) (af @WV (af @WW @WX))) (af (af @WY (af trivial trivial)) (af trivial (af trivial trivial)))))
def ps5:=(af (af (af (af trivial (af trivial trivial)) (af trivial (af trivial trivial))) (af (af trivial (af trivial trivial)) (af trivial (af trivial trivial)))) (af (af (af trivial (af trivial trivial)) (af trivial (af trivial trivial))) (af (af trivial (af trivial trivial)) (af trivial (af trivial trivial)))))
def ps6:=(af (af (af (af trivial (af trivial trivial)) (af trivial (af trivial trivial))) (af (af trivial (af trivial trivial)) (af trivial (af trivial trivial)))) (af (af (af trivial (af trivial trivial)) (af trivial (af trivial trivial))) (af (af trivial (af trivial trivial)) (af trivial (af trivial trivial)))))
def ps7:=(af (af (af (af trivial (af trivial trivial)) (af trivial (af trivial trivial))) (af (af trivial (af trivial trivial)) (af trivial (af trivial trivial)))) (af (af (af trivial (af @WZ @W3)) (af @W4 (af @W5 @W6))) (af (af @W7 (af @k7_ @kz_)) (af @W8 (af @W9 @Rz)))))
def ps8:=(af (af (af (af @k9_ (af @W_ @Xa)) (af @Xb (af @Xc @Xe))) (af (af @Xf (af @Xg @Xh)) (af @Xi (af @Xj @Xk)))) (af (af (af @Xl (af @Xm @Xn)) (af @Xo (af @Xp @Xq))) (af (af @Xr (af @Xs @Xt)) (af @Xu (af @Xv @Nl)))))
def ps9:=(af (af (af (af @Nm (af @Xw @Xx)) (af @Xy (af @Nn trivial))) (af (af trivial (af trivial trivial)) (af trivial (af trivial trivial)))) (af (af (af trivial (af trivial trivial)) (af trivial (af trivial trivial))) (af (af trivial (af trivial trivial)) (af trivial (af trivial trivial)))))
def YG:=(af (af (af (af trivial (af trivial trivial)) (af trivial (af trivial trivial))) (af (af trivial (af trivial trivial)) (af trivial (af trivial trivial)))) (af (af (af trivial (af trivial trivial)) (af trivial (af trivial trivial))) (af (af trivial (af trivial trivial)) (af trivial (af trivial trivial)))))
def YH:=(af (af (af (af trivial (af trivial trivial)) (af trivial (af trivial trivial))) (af (af trivial (af trivial trivial)) (af trivial (af trivial trivial)))) (af (af (af trivial (af trivial trivial)) (af trivial (af trivial trivial))) (af (af trivial (af trivial trivial)) (af trivial (af trivial trivial)))))
def YI:=(af (af (af (af trivial (af trivial trivial)) (af trivial (af trivial trivial))) (af (af trivial (af trivial trivial)) (af trivial (af trivial trivial)))) (af (af (af trivial (af trivial trivial)) (af trivial (af trivial trivial))) (af (af trivial (af trivial trivial)) (af trivial (af trivial trivial)))))
def YJ:=(af (af (af (af trivial (af trivial trivial)) (af trivial (af trivial trivial))) (af (af trivial (af trivial trivial)) (af @XA (af @XB @XC)))) (af (af (af @XD (af @XE @XF)) (af @XG (af @XH @XI))) (af (af @XJ (af @XK @XL)) (af @XM (af @XN @ka_)))))
def YK:=(af (af (af (af @jf_ (af @XO @XP)) (af @XQ (af @XR trivial))) (af (af trivial (af trivial trivial)) (af trivial (af trivial trivial)))) (af (af (af trivial (af trivial trivial)) (af trivial (af trivial trivial))) (af (af trivial (af trivial trivial)) (af trivial (af trivial trivial)))))
def YL:=(af (af (af (af trivial (af trivial trivial)) (af trivial (af trivial trivial))) (af (af trivial (af trivial trivial)) (af trivial (af trivial trivial)))) (af (af (af trivial (af trivial trivial)) (af trivial (af trivial trivial))) (af (af trivial (af trivial trivial)) (af trivial (af trivial trivial)))))
def YM:=(af (af (af trivial (af trivial trivial)) (af (af trivial trivial) (af trivial trivial))) (af (af (af trivial trivial) (af trivial trivial)) (af (af trivial trivial) (af trivial trivial))))
def pq:=(af (af (af (af (af Wb Fm) (af M0 (af Wc Wd))) (af (af We (af Wf Wg)) (af Wh (af Wi Wj)))) (af (af (af Wl Wm) (af Wn (af Wo Wp))) (af (af Wq (af Wr Ws)) (af Wt (af Wu Wv))))) (af (af (af (af Ww Wx) (af Wy (af Wz WC))) (af (af WD (af trivial @M2)) (af @M3 (af trivial @M4)))) (af (af (af @CO (af @M6 @M7)) (af @M8 (af @M9 @M_))) (af (af @Nb (af trivial trivial)) (af trivial (af trivial trivial))))))
def pj:=af tg trivial
def ps:=(af (af (af (af ps0 ps1) (af ps2 ps3)) (af (af ps4 ps5) (af ps6 ps7))) (af (af (af ps8 ps9) (af YG YH)) (af (af YI YJ) (af YK (af YL YM)))))
end Go.Proofs.YtbhplkilhknciaaC

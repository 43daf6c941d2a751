/- The walk by reflection: a part of its laws, for any function. Conditions: none. -/
import Derived.Test.YtbhplkilhknciaaKa
import Derived.Laws.Slices
import Derived.Deep.AppendSrc
import Derived.Laws.IdiomStrings
namespace Go.Proofs.YtbhplkilhknciaaC
set_option linter.unusedVariables false
theorem DO{xs:List (List T)}{i off:Nat}{r ts:List T}(hr:xs[i]?=some r)(hf:off+ts.length<=r.length)(i' j':Nat):
  cP (setRow xs i off ts) i' j'=if i'=i∧off<=j'∧j'<off+ts.length then ts[j'-off]? else cP xs i' j':=by
 unfold cP setRow
 rw[List.getElem?_modify]
 by_cases hi:i=i'
 ·subst hi
  simp only[hr,if_true,Option.map_eq_map,Option.map_some,Option.bind_some,true_and]
  have hl:(r.take off).length=off:=by simp;omega
  by_cases h1:j'<off
  ·rw[if_neg (by omega),List.append_assoc,List.getElem?_append_left (by omega),List.getElem?_take,if_pos h1]
  ·rw[List.append_assoc,List.getElem?_append_right (by omega),hl]
   by_cases h2:j'<off+ts.length
   ·rw[if_pos ⟨by omega,h2⟩,List.getElem?_append_left (by omega)]
   ·rw[if_neg (by omega),List.getElem?_append_right (by omega),List.getElem?_drop]
    congr 1
    omega
 ·rw[if_neg (by omega:¬(i'=i∧_))]
  cases xs[i']? <;>simp[hi]
theorem yF{xs:List (List T)}{i off:Nat}{ts:List T}:(setRow xs i off ts).length=xs.length:=by simp[setRow]
theorem JB{xs:List (List T)}{i off wd:Nat}{r ts:List T}(hw:∀r∈xs,r.length=wd)(hr:xs[i]?=some r)(hf:off+ts.length<=r.length):
  ∀r∈setRow xs i off ts,r.length=wd:=by
 intro r' ij
 obtain⟨n,hn⟩:=List.getElem?_of_mem ij
 unfold setRow at hn
 rw[List.getElem?_modify]at hn
 by_cases hi:i=n
 ·subst hi
  simp only[hr,if_true,Option.map_eq_map,Option.map_some,aH]at hn
  have:=hw r (List.mem_of_getElem? hr)
  subst hn
  simp
  omega
 ·simp only[if_neg hi]at hn
  cases hx:xs[n]? with
  |none=>simp[hx]at hn
  |some r''=>simp[hx]at hn;subst hn;exact hw _ (List.mem_of_getElem? hx)
theorem dx.Tj{G:Gh}{w w':World}{id:Nat}{p:List (Nat×Nat)}{t:T}{dp:Bool}(h:dx G w id dp p t)(eV:dp=true)
  (hh:∀c q,G.ω c=some (.o id (p++q))->w'.heap[c]?=w.heap[c]?):dx G w' id dp p t:=by
 induction h with
 |nil h=>exact .nil h
 | @l dp p xs b wd cap aN elem fr cv h1 h2 h3 h4 h5 h6 h7 h8 h9 jI ru ih=>
  refine .l h1 h2 h3 ((hh b [] (by simpa using h3)).trans h4) h5 h6 h7 h8 (λi j ys hy hd=>by rw[eV]at hd;cases hd) jI λi j ys hy hd=>?_
  exact ih i j ys hy hd rfl λc q hc=>hh c ((i,j)::q) (by simpa using hc)
theorem dx.put{G:Gh}{w w':World}{id:Nat}{dp:Bool}{p:List (Nat×Nat)}{xs:List (List T)}{b n cap:Nat}(h:dx G w id dp p (.l xs))
  (hH:G.H id p=.slice (some ⟨b,0,none⟩) n cap)(Aa:qt (.o id p)=false){i off:Nat}{r ts:List T}{vs:List Value}(hr:xs[i]?=some r)(hf:off+ts.length<=r.length)(hl:vs.length=ts.length)
  {aN:Array Value}{elem:TypeId}{fr:Nat×Nat}(hb:w.heap[b]?=some (.cells aN elem fr))
  (lF:w'.heap[b]?=some (.cells (aN.toList.take (i*r.length+off)++vs++aN.toList.drop (i*r.length+off+vs.length)).toArray elem fr))
  (hs:w'.heap.size=w.heap.size)(hh:∀c,c≠b->w'.heap[c]?=w.heap[c]?)
  (hd:∀(j:Nat) (t:T) (v:Value),ts[j]?=some t->vs[j]?=some v->dF G.q w' t v)(lA:dp=true->ts.all cF=true):dx G w' id dp p (.l (setRow xs i off ts)):=by
 cases h with
 |nil Cm=>rw[hH]at Cm;cases Cm
 | @l _ _ _ b2 wd Ab Tk JC fr2 cv h1 h2 h3 h4 h5 h6 h7 h8 h9 jI ru=>
  rw[hH]at h1
  cases h1
  rw[hb]at h4
  cases h4
  have Tl:r.length=wd:=h6 r (List.mem_of_getElem? hr)
  rw[Tl]at lF
  have JD:i<xs.length:=(List.getElem?_eq_some_iff.1 hr).1
  have jZ:i*wd+off+vs.length<=aN.size:=by
   rw[h5.1]
   have:(i+1)*wd<=cap*wd:=Nat.mul_le_mul_right _ (by omega)
   rw[Nat.add_mul]at this
   omega
  have oF:∀c,c<w.heap.size->G.q c=none->G.q c=none∧w'.heap[c]?=w.heap[c]?:=λc _ hc=>⟨hc,hh c λe=>by subst e;exact B_ h3 Aa hc⟩
  let qn:Nat->Nat->Value:=λi' j'=>if i'=i∧off<=j'∧j'<off+ts.length then vs.getD (j'-off) undef else cv i' j'
  have aS:=DO hr hf
  have oG:∀i' j',j'<wd->(aN.toList.take (i*wd+off)++vs++aN.toList.drop (i*wd+off+vs.length)).toArray[i'*wd+j']? =
    if i'=i∧off<=j'∧j'<off+ts.length then vs[j'-off]? else aN[i'*wd+j']?:=by
   intro i' j' ss
   rw[List.getElem?_toArray,<-QR _ _ _ jZ,Array.getElem?_toList,Hi _ _ _ _ jZ]
   have key:(i*wd+off<=i'*wd+j'∧i'*wd+j'<i*wd+off+vs.length)↔(i'=i∧off<=j'∧j'<off+ts.length):=by
    constructor
    ·rintro⟨g1,g2⟩
     have:i'=i:=by
      rcases Nat.lt_trichotomy i' i with bI|he|DP
      ·have:(i'+1)*wd<=i*wd:=Nat.mul_le_mul_right _ bI
       rw[Nat.add_mul]at this
       omega
      ·exact he
      ·have:(i+1)*wd<=i'*wd:=Nat.mul_le_mul_right _ DP
       rw[Nat.add_mul]at this
       omega
     subst this
     exact⟨rfl,by omega,by omega⟩
    ·rintro⟨rfl,g1,g2⟩
     exact⟨by omega,by omega⟩
   by_cases hc:i'=i∧off<=j'∧j'<off+ts.length
   ·rw[if_pos (key.2 hc),if_pos hc]
    congr 1
    obtain⟨rfl,_,_⟩:=hc
    omega
   ·rw[if_neg (λg=>hc (key.1 g)),if_neg hc]
  have Tm:∀i' j' t,cP (setRow xs i off ts) i' j'=some t->(i'=i∧off<=j'∧j'<off+ts.length)->∃v,vs[j'-off]?=some v∧qn i' j'=v∧dF G.q w' t v:=by
   intro i' j' t ht hc
   rw[aS,if_pos hc]at ht
   have bI:j'-off<vs.length:=by omega
   refine⟨vs[j'-off],List.getElem?_eq_getElem bI,?_,hd _ _ _ ht (List.getElem?_eq_getElem bI)⟩
   simp[qn,hc,List.getD,List.getElem?_eq_getElem bI]
  have out:∀i' j' t,cP (setRow xs i off ts) i' j'=some t->¬(i'=i∧off<=j'∧j'<off+ts.length)->cP xs i' j'=some t∧qn i' j'=cv i' j':=by
   intro i' j' t ht hc
   rw[aS,if_neg hc]at ht
   exact⟨ht,by simp only[qn,if_neg hc]⟩
  have tY:∀i' j' t,cP (setRow xs i off ts) i' j'=some t->(i'=i∧off<=j'∧j'<off+ts.length)->dp=true->cF t=true:=by
   intro i' j' t ht hc eV
   rw[aS,if_pos hc]at ht
   exact List.all_eq_true.1 (lA eV) t (List.mem_of_getElem? ht)
  refine .l (cv:=qn) (b:=b) (wd:=wd) (cap:=cap) (elem:=elem) (by rw[hH,yF]) (by rw[yF];exact⟨h2.1,λhe=>h2.2 (List.eq_nil_of_length_eq_zero (by rw[<-yF,he];rfl))⟩) h3 lF ?_ (JB h6 hr hf) ?_ ?_ ?_ ?_ ?_
  ·rw[List.size_toArray,<-QR _ _ _ jZ,Array.length_toList,Cg];exact h5
  ·intro i' j' t ht
   have ss:j'<wd:=by
    obtain⟨r',ij,il,_,_,bI⟩:=qd ht
    have:=JB h6 hr hf r' il
    omega
   rw[oG i' j' ss]
   by_cases hc:i'=i∧off<=j'∧j'<off+ts.length
   ·obtain⟨v,g1,g2,_⟩:=Tm i' j' t ht hc
    rw[if_pos hc,g1,g2]
   ·obtain⟨g1,g2⟩:=out i' j' t ht hc
    rw[if_neg hc,g2]
    exact h7 i' j' t g1
  ·intro i' j' v ht
   by_cases hc:i'=i∧off<=j'∧j'<off+ts.length
   ·obtain⟨u,g1,g2,g3⟩:=Tm i' j' _ ht hc
    obtain⟨e,hs⟩:=g3.scalar
    exact⟨g2.trans e,hs⟩
   ·obtain⟨g1,g2⟩:=out i' j' _ ht hc
    rw[g2];exact h8 i' j' v g1
  ·intro i' j' ys ht eV
   by_cases hc:i'=i∧off<=j'∧j'<off+ts.length
   ·obtain⟨u,g1,g2,g3⟩:=Tm i' j' _ ht hc
    rw[g2];exact g3
   ·obtain⟨g1,g2⟩:=out i' j' _ ht hc
    rw[g2];exact(h9 i' j' ys g1 eV).aF (by omega) oF
  ·intro i' j' ys ht eV
   by_cases hc:i'=i∧off<=j'∧j'<off+ts.length
   ·have:=tY i' j' _ ht hc eV
    simp[cF]at this
   ·obtain⟨g1,g2⟩:=out i' j' _ ht hc
    rw[g2];exact jI i' j' ys g1 eV
  ·intro i' j' ys ht eV
   by_cases hc:i'=i∧off<=j'∧j'<off+ts.length
   ·have:=tY i' j' _ ht hc eV
    simp[cF]at this
   ·obtain⟨g1,g2⟩:=out i' j' _ ht hc
    refine(ru i' j' ys g1 eV).Tj rfl λc q DQ=>hh c λe=>?_
    subst e
    rw[h3]at DQ
    simp at DQ
def mr:List (Nat×Nat)->T->T->Option T
 | [],_,u=>some u
 |(i,j)::p,.l xs,u=>(cP xs i j).bind λs=>(mr p s u).bind λs'=>some (.l (setRow xs i j [s']))
 |_,_,_=>none
theorem Tn:∀{p:List (Nat×Nat)} {t:T} {ys:List (List T)},gf p t=some (.l ys)->∃xs,t=.l xs
 | [],t,ys,h=>by simp[gf]at h;exact⟨ys,h⟩
 |(i,j)::p,.l xs,ys,h=>⟨xs,rfl⟩
 |(i,j)::p,.c v,ys,h=>by simp[gf]at h
theorem To:∀{p:List (Nat×Nat)} {t t':T} {zs:List (List T)},mr p t (.l zs)=some t'->∃xs,t'=.l xs
 | [],t,t',zs,h=>by simp[mr]at h;exact⟨zs,h.symm⟩
 |(i,j)::p,.l xs,t',zs,h=>by
  simp only[mr,bU,aH]at h
  obtain⟨s,hs,s',Ac,rfl⟩:=h
  exact⟨_,rfl⟩
 |(i,j)::p,.c v,t',zs,h=>by simp[mr]at h
theorem dx.mr{G:Gh}{w w':World}{id b:Nat}(hh:∀c,c≠b->w'.heap[c]?=w.heap[c]?):∀{p p0:List (Nat×Nat)} {t t':T} {ys zs:List (List T)},
  dx G w id true p0 t->gf p t=some (.l ys)->mr p t (.l zs)=some t'->G.ω b=some (.o id (p0++p))->dx G w' id true (p0++p) (.l zs)->dx G w' id true p0 t'
 | [],p0,t,t',ys,zs,h,hd,hb,fA,hs=>by
  simp only[Go.Proofs.YtbhplkilhknciaaC.mr,aH]at hb
  subst hb
  simpa using hs
 |(i,j)::p,p0,t,t',ys,zs,h,hd,hb,fA,hs=>by
  cases h with
  |nil hH=>simp[gf,cP]at hd
  | @l _ _ xs b2 wd cap aN elem fr cv h1 h2 h3 h4 h5 h6 h7 h8 h9 jI ru=>
   simp only[gf,bU]at hd
   obtain⟨s,iZ,lm⟩:=hd
   simp only[Go.Proofs.YtbhplkilhknciaaC.mr,iZ,Option.bind_some,bU,aH]at hb
   obtain⟨s',Ac,rfl⟩:=hb
   obtain⟨us,rfl⟩:=Tn lm
   obtain⟨Tp,rfl⟩:=To Ac
   have ih:=dx.mr hh (p:=p) (p0:=p0++[(i,j)]) (ru i j us iZ rfl) lm Ac (by simpa using fA) (by simpa using hs)
   obtain⟨r,hr,il,Cn,_,hjl⟩:=qd iZ
   have hf:j+[T.l Tp].length<=r.length:=by simp;omega
   have cW:b2≠b:=by intro e;subst e;rw[h3]at fA;simp at fA
   have aS:∀i' j',cP (setRow xs i j [T.l Tp]) i' j'=if i'=i∧j'=j then some (T.l Tp)else cP xs i' j':=by
    intro i' j'
    rw[DO hr hf]
    by_cases hc:i'=i∧j'=j
    ·obtain⟨rfl,rfl⟩:=hc
     rw[if_pos ⟨rfl,Nat.le_refl _,by simp⟩,if_pos ⟨rfl,rfl⟩];simp
    ·rw[if_neg (by simp only[List.length_singleton];omega),if_neg hc]
   refine .l (cv:=cv) (by rw[yF];exact h1) (by rw[yF];exact⟨h2.1,λhe=>h2.2 (List.eq_nil_of_length_eq_zero (by rw[<-yF,he];rfl))⟩) h3 ((hh b2 cW).trans h4) h5 (JB h6 hr hf) ?_ ?_ (λi' j' QT ht sS=>by cases sS) ?_ ?_
   ·intro i' j' t ht
    rw[aS]at ht
    split at ht
    ·rename_i hc;obtain⟨rfl,rfl⟩:=hc;exact h7 _ _ _ iZ
    ·exact h7 _ _ _ ht
   ·intro i' j' v ht
    rw[aS]at ht
    split at ht
    ·cases ht
    ·exact h8 _ _ _ ht
   ·intro i' j' QT ht _
    rw[aS]at ht
    split at ht
    ·rename_i hc;obtain⟨rfl,rfl⟩:=hc;exact jI _ _ _ iZ rfl
    ·exact jI _ _ _ ht rfl
   ·intro i' j' QT ht _
    rw[aS]at ht
    split at ht
    ·rename_i hc;obtain⟨rfl,rfl⟩:=hc;cases ht;exact ih
    ·rename_i hc
     refine(ru i' j' QT ht rfl).Tj rfl λc q DQ=>hh c λe=>?_
     subst e
     rw[fA]at DQ
     simp at DQ
     exact hc ⟨DQ.1.1.symm,DQ.1.2.symm⟩
section
variable {S:Nat->ai} {ρ:List T}
theorem Wk.qo:∀(q:ma) (k:Wk) (x y:Lf),k.dL (k.up x y q).1
 | [],k,x,y=>.refl k
 |(ix,w,j)::q,k,x,y=>by
  simp only[Wk.up]
  exact((Wk.aT k _ _).trans (Wk.qo q _ _ _)).trans (Wk.aT _ _ _)
theorem Wk.sU:∀(q:ma) (k:Wk) (x y:Lf),(k.up x y q).1.aO S ρ->k.aO S ρ
 | [],_,_,_,h=>h
 |(ix,w,j)::q,k,x,y,h=>by
  simp only[Wk.up]at h
  exact(Wk.be (Wk.sU q _ _ _ (Wk.be h).1)).1
theorem Tq{x ix z:Lf}{w j i:Nat}{xs:List (List T)}{t u:T}(hx:x.eE ρ=some (.l xs))(hi:k_ ρ ix=some i)(hz:z.eE ρ=some u)
  (h:Prim.ev (.uz w j) [x.ev ρ,ix.ev ρ,z.ev ρ]=some t):t=.l (setRow xs i j [u]):=by
 obtain⟨k,hk⟩:=Hc hi
 rw[Lf.a_ hx,hk,Lf.a_ hz]at h
 simp only[Prim.ev,Ja,T.rows,T.int,Option.bind_some,Int.toNat_natCast]at h
 cases hr:xs[i]? with
 |none=>simp[hr]at h
 |some r=>
  simp only[hr,Option.bind_some]at h
  split at h
  ·split at h
   ·simp only[aH]at h;exact h.symm
   ·cases h
  ·cases h
theorem Wk.tZ:∀(q:ma) (k:Wk) (x y:Lf) {t:T} {zs:List (List T)} {p:List (Nat×Nat)},(k.up x y q).1.aO S ρ->x.eE ρ=some t->y.eE ρ=some (.l zs)->fm ρ q=some p->
  (q=[]∨∃xs,t=.l xs)->∃t',mr p t (.l zs)=some t'∧(k.up x y q).2.eE ρ=some t'
 | [],k,x,y,t,zs,p,h,hx,hy,hp,_=>by
  simp only[fm]at hp
  cases hp
  exact⟨.l zs,rfl,hy⟩
 |(ix,w,j)::q,k,x,y,t,zs,p,h,hx,hy,hp,ht=>by
  simp only[Wk.up]at h⊢
  obtain⟨xs,rfl⟩:=ht.resolve_left (by simp)
  simp only[fm]at hp
  cases hi:k_ ρ ix with
  |none=>simp[hi]at hp
  |some i=>
   cases hq:fm ρ q with
   |none=>simp[hi,hq]at hp
   |some p'=>
    simp[hi,hq]at hp
    subst hp
    obtain⟨h2,t',iN,jY⟩:=Wk.be h
    obtain⟨_,u,hu,SB⟩:=Wk.be (Wk.sU q _ _ _ h2)
    obtain⟨ys,rfl,aS,_⟩:=zX hx hi hu
    obtain⟨v,hv,qS⟩:=Wk.tZ q _ _ _ h2 SB hy hq (.inr ⟨ys,rfl⟩)
    have:=Tq hx hi qS iN
    subst this
    exact⟨_,by simp[mr,aS,hv],jY⟩
end
section
variable {M:Nat->Prop} {B:dE} {d:Nat} {up:Nat->Nat->Value} {ρ:List T} {G:Gh} {a:Act} {w:World} {S:Nat->ai} {P:Program}
variable {cx:Cx} {bY dS oi:Nat} {s:St} {R:List aK} {ct:Ct} {k':Wk} {o:Oper} {Q:Exit->Act->World->Prop}
theorem Ts(w:World)(b:Nat)(c c':Array Value):(w.setRow b c).setRow b c'=w.setRow b c':=by
 unfold World.setRow
 simp only[World.mk.injEq,and_true]
 apply Array.ext
 ·simp
 ·intro i h1 h2
  simp only[Array.getElem_modify]
  by_cases h:b=i
  ·subst h
   simp only[if_true]
   cases hx:w.heap[b]'(by simpa using h1)<;>simp
  ·simp[h]
theorem JE(b:Nat)(t:TypeId)(fr:Nat×Nat):∀(vs:List Value) (o:Nat) (w:World) (aN:Array Value),w.heap[b]?=some (.cells aN t fr)->o+vs.length<=aN.size->
  w.setCells b o vs=w.setRow b (aN.toList.take o++vs++aN.toList.drop (o+vs.length)).toArray
 | [],o,w,aN,hb,_=>by
  simp only[World.setCells,List.append_nil,List.length_nil,Nat.add_zero,List.take_append_drop,Array.toArray_toList]
  exact(setRow_self w b aN t fr hb).symm
 |v::vs,o,w,aN,hb,hl=>by
  simp only[List.length_cons]at hl
  have e1:=setCell_eq_setRow w b o aN t fr v hb
  have mq:(w.setRow b (aN.setIfInBounds o v)).heap[b]?=some (.cells (aN.setIfInBounds o v) t fr):=setRow_heap w b aN _ t fr hb
  have ih:=JE b t fr vs (o+1) (w.setRow b (aN.setIfInBounds o v)) (aN.setIfInBounds o v) mq (by simp;omega)
  rw[World.setCells,e1,ih,Ts]
  congr 2
  apply List.ext_getElem?
  intro k
  have hlen:(aN.setIfInBounds o v).toList=aN.toList.set o v:=by simp
  rw[hlen]
  by_cases h1:k<o
  ·rw[List.append_assoc,List.append_assoc,List.getElem?_append_left (by simp;omega),List.getElem?_append_left (by simp;omega),List.getElem?_take,List.getElem?_take,if_pos (by omega),if_pos h1,List.getElem?_set,if_neg (by omega)]
  ·rw[List.append_assoc,List.append_assoc,List.getElem?_append_right (show(List.take o aN.toList).length<=k by simp;omega)]
   by_cases h2:k=o
   ·subst h2
    rw[List.getElem?_append_left (by simp;omega),List.getElem?_take,if_pos (by omega),List.getElem?_set,if_pos rfl,if_pos (by simp;omega)]
    have:k-(List.take k aN.toList).length=0:=by simp;omega
    rw[this];rfl
   ·rw[List.getElem?_append_right (by simp;omega)]
    have e2:k-(List.take (o+1) (aN.toList.set o v)).length=k-(o+1):=by simp;omega
    have e3:k-(List.take o aN.toList).length=(k-(o+1))+1:=by simp;omega
    rw[e2,e3,List.cons_append,List.getElem?_cons_succ]
    by_cases h3:k-(o+1)<vs.length
    ·rw[List.getElem?_append_left h3,List.getElem?_append_left h3]
    ·rw[List.getElem?_append_right (by omega),List.getElem?_append_right (by omega),List.getElem?_drop,List.getElem?_drop,List.getElem?_set,if_neg (by omega)]
     congr 1
     simp only[List.length_cons]
     omega
theorem JF{fr:Nat×Nat}{n:Nat}(h:qa fr n){b j:Nat}{aN:Array Value}{t:TypeId}(hb:w.heap[b]?=some (.cells aN t fr))(hj:j<n):w.frozen? ⟨b,j,none⟩=false:=by
 rcases h with rfl|h
 ·simp[World.frozen?,hb]
 ·obtain⟨lo,hi⟩:=fr
  simp only at h
  simp[World.frozen?,hb]
  omega
theorem QU{t:Nat}{ti:TI}(hT:rv P t ti){b off:Nat}{v:Value}(hl:v.cells.size=ti.sz){aN:Array Value}{elem:TypeId}{fr:Nat×Nat}
  (hb:w.heap[b]?=some (.cells aN elem fr))(Ad:qa fr aN.size)(hf:off+v.cells.size<=aN.size)(h1:∀u∈v.cells.toList,u.oneCell'=true):
  (Instr.storeAt t (.pointer (some ⟨b,off,none⟩)) v).run P w=.ok () (w.setRow b (aN.toList.take off++v.cells.toList++aN.toList.drop (off+v.cells.toList.length)).toArray):=by
 obtain⟨i,z,hi,hs,_,_,_⟩:=hT.info
 have cM:=run_storeCells_cells (P:=P) b off v.cells.toList 0 w (λj hj=>by
  rw[sq hb,Array.getElem?_eq_getElem (by simp at hj;omega)];rfl) (λj hj=>JF Ad hb (by simp at hj;omega)) h1
 simp only[Nat.add_zero]at cM
 rw[JE b elem fr v.cells.toList off w aN hb (by simpa using hf)]at cM
 simp[Instr.storeAt,Instr.sureAddr,storeVar,sizeOf,typeInfo,hi,hs,hl]
 simpa[hl]using cM
theorem DR(w:World)(b:Nat)(cs:Array Value):iw w (w.setRow b cs):=⟨rfl,rfl,rfl⟩
theorem Co(w:World)(b:Nat)(cs:Array Value):(w.setRow b cs).heap.size=w.heap.size:=by simp[World.setRow]
theorem JG{b:Nat}{l:Lb}(hl:G.ω b=some l)(Aa:qt l=false)(cs:Array Value){I:Lb->Prop}(hI:I l){N:Nat->Prop}:cJ I N G w G (w.setRow b cs):=by
 refine⟨by rw[Co];exact Nat.le_refl _,λc _ hc=>⟨hc,setRow_other _ _ _ _ λe=>?_⟩,λc _ hc=>hc,λc l' hc hn=>⟨hc,setRow_other _ _ _ _ λe=>?_⟩,λ_ _=>⟨rfl,λ_ _=>rfl⟩⟩
 ·subst e;exact B_ hl Aa hc
 ·subst e;rw[hl]at hc;cases hc;exact hn hI
theorem QV{t:Nat}{x y:Operand}(ho:o.op=.store t x y){w':World}(h:(Instr.storeAt t (a.eval x) (a.eval y)).run P w=.ok () w'):
  (execOp a.eval o).run P w=.ok .skip w':=by
 unfold execOp
 rw[ho]
 show Sem.run P (do Instr.storeAt t (a.eval x) (a.eval y);pure Next.skip) w=_
 rw[Sem.run_bind,h];rfl
theorem Tt(cQ:dg P cx)(h:Rel M B d up s ρ G a w)(hn:∀n,o.dst=some n->n<a.tmps.size){t:Nat}{x y:Operand}(ho:o.op=.store t x y)
  {bx off:Nat}(hx:bC d (Wk.get ⟨s.only R,[],ct,[]⟩) x=.pt bx off)
  (hk:∃k1,storeAt cx ⟨s.only R,[],ct,[]⟩ t (bC d (Wk.get ⟨s.only R,[],ct,[]⟩) x) (bC d (Wk.get ⟨s.only R,[],ct,[]⟩) y)=some k1∧bn d o k1 .un=k'):bf P M B d up ρ a w s o k'.w Q∧k'.ct.i=ct.i:=by
 have hw:=cG.start h R ct
 obtain⟨k1,cM,hk⟩:=hk
 have dG:bn d o k1 .un=k':=hk
 subst dG
 simp only[storeAt,hx,bU]at cM
 obtain⟨ti,eh,cs,jy,cM⟩:=cM
 cases hl:Nat.beq cs.length ti.sz with
 |false=>simp[hl]at cM
 |true=>
  simp only[hl,cond_true]at cM
  have hlen:=cO hl
  obtain⟨hr,hm⟩:=hw.f_ y
  obtain⟨tV,_⟩:=hw.f_ x
  rw[hx]at tV
  unfold cellsOf at jy
  split at jy
  ·rename_i ag es0 dh
   cases jy
   rw[dh]at hr hm
   have qW:=Jv hr
   split at cM
   ·rename_i QW uC hold
    cases hle:Nat.ble (off+cs.length) uC.length with
    |false=>simp[hle]at cM
    |true=>
     simp only[hle,cond_true,aH]at cM
     subst cM
     have jZ:=Nat.le_of_ble_eq_true hle
     have sr:=hw.rel.bx bx
     rw[<-Wk.aD,hold]at sr
     obtain⟨fA,aN,elem,hb,Cp⟩:=sr
     have mX:=qW.length
     have qX:=Cp.length
     simp only[Array.length_toList]at mX qX
     have da:=QU (w:=w) (cQ.ty _ _ eh) (v:=a.eval y) (by rw[<-mX];exact hlen) hb (.inl rfl) (off:=off) (by omega) (λu hu=>qW.one u hu)
     have DS:=Cp.fj off qW
     have z':=Jt uC cs off
     have hmo:∀i∈cT uC,M i:=λi hi=>hw.rel.eY (.x bx) i (by rw[<-Wk.aD,hold];exact hi)
     have hmM:∀i∈cT (fj uC off cs),M i:=λi hi=>(z' i hi).elim (hmo i) (hm i)
     refine⟨?_,by rw[lH];rfl⟩
     have hK:cJ (mU (dN d o .un++[(.x bx,.v QW (fj uC off cs))])) (λ_=>False) G w G
       (w.setRow (G.β bx) (aN.toList.take off++(a.eval y).cells.toList++aN.toList.drop (off+(a.eval y).cells.toList.length)).toArray):=by
      refine JG fA rfl _ ?_
      show St.look _ (aK.x bx)≠none
      rw[jz,rB];simp
     simp only[bf,Oper.wp,QV ho (by rw[show a.eval x=_ from tV];exact da),Oper.upon]
     refine⟨G,Ci h hw (W2:=dN d o .un++[(.x bx,.v QW (fj uC off cs))]) (DM (W2:=[(.x bx,.v QW (fj uC off cs))]) λr=>by exact qm r)
      hK (λi hi=>hi.elim) (λi hi=>hi) (λn n9=>Cl n9) (DR _ _ _) ?_,vN _ _ _⟩
     refine⟨λe n u he hl=>?_,λb u hl=>?_,λi u hl=>?_,λr u hl i hi=>?_,λi hi=>?_,λb l hb=>?_⟩
     ·rcases iW hl with⟨n',fi,e1,rfl⟩|hl
      ·trivial
      ·rcases gJ hl with⟨e1,_⟩|hl
       ·cases e1
       ·cases hl
     ·rcases iW hl with⟨n',fi,e1,rfl⟩|hl
      ·cases e1
      ·rcases gJ hl with⟨e1,rfl⟩|hl
       ·cases e1
        refine⟨fA,_,elem,setRow_heap w _ aN _ elem _ hb,?_⟩
        exact DS.aF hK λi _ hf=>hf
       ·cases hl
     ·rcases iW hl with⟨n',fi,e1,rfl⟩|hl
      ·cases e1
      ·rcases gJ hl with⟨e1,rfl⟩|hl
       ·cases e1
       ·cases hl
     ·rcases iW hl with⟨n',fi,e1,rfl⟩|hl
      ·simp[cD]at hi
      ·rcases gJ hl with⟨e1,rfl⟩|hl
       ·exact hmM i hi
       ·cases hl
     ·have:∀r:aK,(r=.x i∨r=.o i)->St.look (dN d o .un++[(aK.x bx,SV.v QW (fj uC off cs))]) r≠none->i=bx:=by
       intro r hr hl
       obtain⟨u,hu⟩:=Option.ne_none_iff_exists'.1 hl
       rcases iW hu with⟨n',fi,e1,rfl⟩|hl
       ·rcases hr with rfl|rfl<;>cases e1
       ·rcases gJ hl with⟨e1,rfl⟩|hl
        ·rcases hr with rfl|rfl
         ·cases e1;rfl
         ·cases e1
        ·cases hl
      have hMb:M bx:=hw.rel.key bx (.inl (by rw[<-Wk.aD,hold];simp))
      rcases hi with hi|hi
      ·rw[this _ (.inl rfl) hi];exact hMb
      ·rw[this _ (.inr rfl) hi];exact hMb
     ·rw[Co];exact h.fE b l hb
   ·cases cM
  ·cases jy
def dy(ω:Nat->Option Lb)(w:World):List T->List Value->Prop
 | [],[]=>True
 |t::ts,v::vs=>dF ω w t v∧dy ω w ts vs
 |_,_=>False
theorem dy.length{ω:Nat->Option Lb}:∀{ts:List T} {vs:List Value},dy ω w ts vs->ts.length=vs.length
 | [],[],_=>rfl
 | [],_::_,h=>h.elim
 |_::_,[],h=>h.elim
 |_::ts,_::vs,h=>by simp[dy.length h.2]
theorem dy.get{ω:Nat->Option Lb}:∀{ts:List T} {vs:List Value},dy ω w ts vs->∀(j:Nat) (t:T) (v:Value),ts[j]?=some t->vs[j]?=some v->dF ω w t v
 | [],[],_,j,t,v,h,_=>by simp at h
 | [],_::_,h,_,_,_,_,_=>h.elim
 |_::_,[],h,_,_,_,_,_=>h.elim
 |t::ts,v::vs,h,0,_,_,h1,h2=>by simp at h1 h2;subst h1 h2;exact h.1
 |t::ts,v::vs,h,j+1,_,_,h1,h2=>dy.get h.2 j _ _ (by simpa using h1) (by simpa using h2)
theorem dy.cF{ω sN:Nat->Option Lb}{w':World}:∀{ts:List T} {vs:List Value},dy ω w ts vs->ts.all cF=true->dy sN w' ts vs
 | [],[],_,_=>trivial
 | [],_::_,h,_=>h.elim
 |_::_,[],h,_=>h.elim
 |t::ts,v::vs,h,hs=>by
  simp only[List.all_cons,bd]at hs
  refine⟨?_,dy.cF h.2 hs.2⟩
  obtain⟨u,rfl⟩:=DE hs.1
  obtain⟨rfl,hu⟩:=h.1.scalar
  exact .c hu
theorem dy.aF{ω sN:Nat->Option Lb}{w':World}(hs:w.heap.size<=w'.heap.size)(hf:∀b,b<w.heap.size->ω b=none->sN b=none∧w'.heap[b]?=w.heap[b]?):
  ∀{ts:List T} {vs:List Value},dy ω w ts vs->dy sN w' ts vs
 | [],[],_=>trivial
 | [],_::_,h=>h.elim
 |_::_,[],h=>h.elim
 |t::ts,v::vs,h=>⟨h.1.aF hs hf,dy.aF hs hf h.2⟩
def wW(k:Wk)(cs:List Ce):Prop:=∀id∈cT cs,∃pv x,k.get (.o id)=.fz pv x
theorem Wk.pM{k k1:Wk}{c:Ce}{x:Lf}{G1:Gh}{v:Value}(h:k.val c=some (k1,x))(hr:fb G1 w ρ c v)(hk:cG M B d up ρ G a w k G1)(hf:wW k [c]):
  ∃t,x.eE ρ=some t∧dF G1.q w t v:=by
 cases c with
 |p y=>simp[Wk.val]at h;obtain⟨_,rfl⟩:=h;exact hr
 |n=>simp[Wk.val]at h;obtain⟨_,rfl⟩:=h;cases hr;exact⟨_,rfl,.nil⟩
 |d=>simp[Wk.val]at h
 |o id q=>
  obtain⟨pv,y,hy⟩:=hf id (by simp[cT])
  have c_:=hk.obj id
  obtain⟨p,hp,rfl⟩:=hr
  simp only[Wk.val,hy]at h
  rw[hy]at c_
  split at h
  ·simp at h
   obtain⟨_,rfl⟩:=h
   simp only[lu]at hp
   cases hp
   exact⟨_,c_.choose_spec.1,c_.choose_spec.2.1⟩
  ·cases h
theorem Wk.fN:∀{cs:List Ce} {k k1:Wk} {xs:List Lf},k.ie cs=some (k1,xs)->k.dL k1
 | [],k,k1,xs,h=>by simp[Wk.ie]at h;obtain⟨rfl,_⟩:=h;exact .refl _
 |c::cs,k,k1,xs,h=>by
  simp only[Wk.ie,bU,aH,Prod.mk.injEq]at h
  obtain⟨⟨k2,x⟩,h1,⟨k3,ys⟩,h2,rfl,rfl⟩:=h
  exact(Wk.cX h1).trans (Wk.fN h2)
theorem Wk.j1:∀{cs:List Ce} {k k1:Wk} {xs:List Lf},k.ie cs=some (k1,xs)->k1.aO S ρ->k.aO S ρ
 | [],k,k1,xs,h,hd=>by simp[Wk.ie]at h;obtain⟨rfl,_⟩:=h;exact hd
 |c::cs,k,k1,xs,h,hd=>by
  simp only[Wk.ie,bU,aH,Prod.mk.injEq]at h
  obtain⟨⟨k2,x⟩,h1,⟨k3,ys⟩,h2,rfl,rfl⟩:=h
  exact Wk.lc h1 (Wk.j1 h2 hd)
theorem Wk.fO:∀{cs:List Ce} {k k1:Wk} {xs:List Lf} {G1:Gh} {vs:List Value},k.ie cs=some (k1,xs)->k1.aO S ρ->aE G1 w ρ cs vs->cG M B d up ρ G a w k G1->
  ∃ts,xs.map (Lf.ev ρ)=ts∧dy (er G1.ω) w ts vs∧(wW k cs->dy G1.q w ts vs)∧xs.length=vs.length
 | [],k,k1,xs,G1,vs,h,hd,hr,hk=>by
  simp[Wk.ie]at h
  obtain⟨_,rfl⟩:=h
  cases vs with
  |nil=>exact⟨[],rfl,trivial,λ_=>trivial,rfl⟩
  |cons _ _=>exact hr.elim
 |c::cs,k,k1,xs,G1,[],h,hd,hr,hk=>hr.elim
 |c::cs,k,k1,xs,G1,v::vs,h,hd,hr,hk=>by
  simp only[Wk.ie,bU,aH,Prod.mk.injEq]at h
  obtain⟨⟨k2,x⟩,h1,⟨k3,ys⟩,h2,rfl,rfl⟩:=h
  have hs:=Wk.cX h1
  obtain⟨ts,e1,e2,e3,e4⟩:=Wk.fO h2 hd hr.2 (hk.same hs)
  obtain⟨t,ht,lz⟩:=Wk.jW h1 (Wk.j1 h2 hd) hr.1 λid _=>hk.obj id
  refine⟨t::ts,by simp[e1,Lf.a_ ht],⟨lz,e2⟩,λhf=>⟨?_,e3 λid iX=>?_⟩,by simp[e4]⟩
  ·obtain⟨t',iN,lG⟩:=Wk.pM h1 hr.1 hk λid iX=>hf id (by rw[uO];exact List.mem_append_left _ iX)
   rw[ht]at iN
   cases iN
   exact lG
  ·rw[hs.get]
   exact hf id (by rw[uO];exact List.mem_append_right _ iX)
theorem cG.dv:∀{cs:List Ce} {k k1:Wk} {G1:Gh},cG M B d up ρ G a w k G1->k.dv cs=some k1->
  ∃G2,cG M B d up ρ G a w k1 G2∧G2.β=G1.β∧G2.H=G1.H∧k1.ct=k.ct∧k1.is=k.is∧wW k1 cs∧(∀id pv x,k.get (.o id)=.fz pv x->k1.get (.o id)=.fz pv x)∧
   (∀id dp x,k1.get (.o id)=.ob dp x->k.get (.o id)=.ob dp x)
 | [],k,k1,G1,h,hk=>by
  simp[Wk.dv]at hk
  subst hk
  exact⟨G1,h,rfl,rfl,rfl,rfl,(λ_ h=>by cases h),(λ_ _ _ h=>h),λ_ _ _ h=>h⟩
 |c::cs,k,k1,G1,h,hk=>by
  cases c with
  |o id q=>
   simp only[Wk.dv,bU]at hk
   obtain⟨k2,h1,h2⟩:=hk
   obtain⟨G2,g1,g2,g3,g4,g5,g6⟩:=h.lj h1
   obtain⟨G3,f1,f2,f3,f4,f5,f6,f7,f8⟩:=cG.dv g1 h2
   have wX:∃pv x,k2.get (.o id)=.fz pv x:=by
    unfold Wk.lj at h1
    split at h1
    ·rename_i dp x hx;cases h1;exact⟨.z,x,by simp[Wk.get,Wk.set,St.aJ]⟩
    ·rename_i pv x hx;cases h1;exact⟨pv,x,hx⟩
    ·cases h1
   have sV:∀i,i≠id->k2.get (.o i)=k.get (.o i):=by
    intro i hi
    unfold Wk.lj at h1
    split at h1
    ·cases h1;simp only[Wk.get,Wk.set];rw[St.bP _ _ (by simpa using Ne.symm hi)]
    ·cases h1;rfl
    ·cases h1
   have JH:∀pv x,k.get (.o id)=.fz pv x->k2.get (.o id)=.fz pv x:=by
    intro pv x hx
    unfold Wk.lj at h1
    rw[hx]at h1
    cases h1
    exact hx
   refine⟨G3,f1,f2.trans g2,f3.trans g3,f4.trans g5,f5.trans g6,?_,?_,?_⟩
   ·intro i hi
    rw[uO]at hi
    rcases List.mem_append.1 hi with hi|hi
    ·simp[cT]at hi
     subst hi
     obtain⟨pv,x,hx⟩:=wX
     exact⟨pv,x,f7 _ _ _ hx⟩
    ·exact f6 i hi
   ·intro i pv x hx
    refine f7 i pv x ?_
    by_cases hi:i=id
    ·subst hi;exact JH pv x hx
    ·rw[sV i hi];exact hx
   ·intro i dp x hx
    have:=f8 i dp x hx
    by_cases hi:i=id
    ·subst hi;obtain⟨pv,y,hy⟩:=wX;rw[hy]at this;cases this
    ·rwa[sV i hi]at this
  |p x=>
   obtain⟨G2,g1,g2,g3,g4,g5,g6,g7⟩:=cG.dv h (show k.dv cs=some k1 from hk)
   exact⟨G2,g1,g2,g3,g4,g5,by intro i hi;rw[uO]at hi;exact g6 i (by simpa[cT]using hi),g7⟩
  |n=>
   obtain⟨G2,g1,g2,g3,g4,g5,g6,g7⟩:=cG.dv h (show k.dv cs=some k1 from hk)
   exact⟨G2,g1,g2,g3,g4,g5,by intro i hi;rw[uO]at hi;exact g6 i (by simpa[cT]using hi),g7⟩
  |d=>
   obtain⟨G2,g1,g2,g3,g4,g5,g6,g7⟩:=cG.dv h (show k.dv cs=some k1 from hk)
   exact⟨G2,g1,g2,g3,g4,g5,by intro i hi;rw[uO]at hi;exact g6 i (by simpa[cT]using hi),g7⟩
theorem JI{k:Wk}{G1:Gh}(h:Rel M B d up s ρ G a w)(hk:cG M B d up ρ G a w k G1)(hn:∀n,o.dst=some n->n<a.tmps.size){id b:Nat}{p:List (Nat×Nat)}{dp:Bool}{y:Lf}
  {t':T}{cells:Array Value}(fA:G1.ω b=some (.o id p))(Aa:p=[]∨id%2=1)(qp:id%4≠2)(hy:y.eE ρ=some t')(aW:dx G1 (w.setRow b cells) id dp [] t')
  (hx:(execOp a.eval o).run P w=.ok .skip (w.setRow b cells)):bf P M B d up ρ a w s o (bn d o (k.set (.o id) (.ob dp y)) .un).w Q:=by
 have hM:M id:=(hk.rel.fE b _ fA).1
 have hK:cJ (mU (dN d o .un++[(.o id,.ob dp y)])) (λ_=>False) G1 w G1 (w.setRow b cells):=by
  refine JG fA (zP (ρ:=ρ) Aa qp) _ ?_
  show St.look _ (aK.o id)≠none
  rw[jz,rB];simp
 simp only[bf,Oper.wp,hx,Oper.upon]
 refine⟨G1,Ci h hk (W2:=dN d o .un++[(.o id,.ob dp y)]) (DM (W2:=[(.o id,.ob dp y)]) λr=>by exact qm r)
  hK (λi hi=>hi.elim) (λi hi=>hi) (λn n9=>Cl n9) (DR _ _ _) ?_,vN _ _ _⟩
 refine⟨λe n u he hl=>?_,λb u hl=>?_,λi u hl=>?_,λr u hl i hi=>?_,λi hi=>?_,λb l hb=>?_⟩
 ·rcases iW hl with⟨n',fi,e1,rfl⟩|hl
  ·trivial
  ·rcases gJ hl with⟨e1,_⟩|hl
   ·cases e1
   ·cases hl
 ·rcases iW hl with⟨n',fi,e1,rfl⟩|hl
  ·cases e1
  ·rcases gJ hl with⟨e1,rfl⟩|hl
   ·cases e1
   ·cases hl
 ·rcases iW hl with⟨n',fi,e1,rfl⟩|hl
  ·cases e1
  ·rcases gJ hl with⟨e1,rfl⟩|hl
   ·cases e1
    exact⟨t',hy,aW⟩
   ·cases hl
 ·rcases iW hl with⟨n',fi,e1,rfl⟩|hl
  ·simp[cD]at hi
  ·rcases gJ hl with⟨e1,rfl⟩|hl
   ·simp[cD]at hi
   ·cases hl
 ·have:∀r:aK,(r=.x i∨r=.o i)->St.look (dN d o .un++[(aK.o id,SV.ob dp y)]) r≠none->i=id:=by
   intro r hr hl
   obtain⟨u,hu⟩:=Option.ne_none_iff_exists'.1 hl
   rcases iW hu with⟨n',fi,e1,rfl⟩|hl
   ·rcases hr with rfl|rfl<;>cases e1
   ·rcases gJ hl with⟨e1,rfl⟩|hl
    ·rcases hr with rfl|rfl
     ·cases e1
     ·cases e1;rfl
    ·cases hl
  rcases hi with hi|hi
  ·rw[this _ (.inl rfl) hi];exact hM
  ·rw[this _ (.inr rfl) hi];exact hM
 ·rw[Co];exact hk.rel.fE b l hb
theorem JJ{x ix:Lf}{sc:Bool}{wd off n i:Nat}{xs:List (List T)}{ts:List T}{t:T}(hx:x.eE ρ=some (.l xs))(hi:k_ ρ ix=some i)
  (h:Prim.ev (.put sc wd off n) (x.ev ρ::ix.ev ρ::ts)=some t):∃r,xs[i]?=some r∧r.length=wd∧off+ts.length<=r.length∧(sc=true->ts.all cF=true)∧t=.l (setRow xs i off ts):=by
 obtain⟨k,hk⟩:=Hc hi
 rw[Lf.a_ hx,hk]at h
 simp only[Prim.ev,Ja,T.rows,T.int,Option.bind_some,Int.toNat_natCast]at h
 cases hr:xs[i]? with
 |none=>simp[hr]at h
 |some r=>
  simp only[hr,Option.bind_some]at h
  split at h
  ·rename_i g1
   split at h
   ·rename_i g2
    split at h
    ·rename_i g3
     split at h
     ·rename_i g4
      simp only[aH]at h
      refine⟨r,rfl,g1,by omega,λhs=>?_,h.symm⟩
      subst hs
      simpa using g4
     ·cases h
    ·cases h
   ·cases h
  ·cases h
theorem Wk.bm(k:Wk)(r:aK)(v:SV):(k.set r v).get r=v:=by
 simp[Wk.get,Wk.set,St.aJ]
theorem Tu(cQ:dg P cx)(h:Rel M B d up s ρ G a w)(hn:∀n,o.dst=some n->n<a.tmps.size){t:Nat}{x y:Operand}(ho:o.op=.store t x y)
  {id:Nat}{q:ma}{ix:Lf}{wd off:Nat}(hx:bC d (Wk.get ⟨s.only R,[],ct,[]⟩) x=.ep id q ix wd off)
  (hk:∃k1,storeAt cx ⟨s.only R,[],ct,[]⟩ t (bC d (Wk.get ⟨s.only R,[],ct,[]⟩) x) (bC d (Wk.get ⟨s.only R,[],ct,[]⟩) y)=some k1∧bn d o k1 .un=k')(hd:k'.aO S ρ):bf P M B d up ρ a w s o k'.w Q∧k'.ct.i=ct.i:=by
 have hw:=cG.start h R ct
 obtain⟨k1,cM,hk⟩:=hk
 have dG:bn d o k1 .un=k':=hk
 subst dG
 have gy:=bZ.1 hd
 simp only[storeAt,hx,bU]at cM
 obtain⟨ti,eh,cs,jy,cM⟩:=cM
 cases hl:Nat.beq cs.length ti.sz with
 |false=>simp[hl]at cM
 |true=>
  simp only[hl,cond_true]at cM
  have hlen:=cO hl
  obtain⟨hr,hm⟩:=hw.f_ y
  obtain⟨tV,_⟩:=hw.f_ x
  rw[hx]at tV
  obtain⟨p,b,n,cap,i,hp,hH,hi,pN,jY⟩:=tV
  unfold cellsOf at jy
  split at jy
  ·rename_i ag es0 dh
   cases jy
   rw[dh]at hr hm
   have qW:=Jv hr
   have mX:=qW.length
   cases qp:Nat.beq (id%4) 2 with
   |true=>simp[qp]at cM
   |false=>
   have qp:id%4≠2:=λe=>by rw[e]at qp;cases qp
   simp only[show Nat.beq (id%4) 2=false from(by cases hb:Nat.beq (id%4) 2 with|false=>rfl|true=>exact absurd (cO hb) qp),cond_false]at cM
   cases hN:ti.zero.any dU with
   |true=>
    simp only[hN,cond_true]at cM
    split at cM
    ·simp only[lu,aH]at hp
     subst hp
     simp only[bU]at cM
     obtain⟨k2,vS,k3,uV,⟨k4,xs⟩,nM,cM⟩:=cM
     obtain⟨G2,w2,e1,e2,e3,e4,e5⟩:=hw.flat vS
     obtain⟨G3,w3,f1,f2,f4,f5,f6,f7,f8⟩:=w2.dv uV
     have Ae:=Wk.fN nM
     have w4:=w3.same Ae
     simp only at cM
     split at cM
     ·rename_i dp0 z hz
      simp only[aH]at cM
      subst cM
      have c_:=w4.obj id
      rw[hz]at c_
      obtain⟨tt,vR,aW⟩:=c_
      have n4:(k4.em (.put false wd off xs.length) (z::ix::xs)).1.aO S ρ:=gy
      obtain⟨Cf,t',mu,yG⟩:=Wk.be n4
      have JK:G3.H id []=.slice (some ⟨b,0,none⟩) n cap:=by rw[f2,e2];exact hH
      have Tv:aE G3 w ρ cs (a.eval y).cells.toList:=by
       have k3:cJ (mU k3.w) (λ_=>False) G w G3 w:=w3.aF
       exact qW.aF k3 λ_ _ hf=>hf
      obtain⟨ts,g1,_,g3,g4⟩:=Wk.fO nM Cf Tv w3
      simp only[List.map_cons]at mu
      rw[g1]at mu
      obtain⟨rows,rfl⟩:∃ys,tt=.l ys:=by cases aW<;>exact⟨_,rfl⟩
      obtain⟨r,nF,rz,yH,_,rfl⟩:=JJ vR hi mu
      have Tw:=g3 λj hj=>f6 j hj
      have wY:=Tw.length
      have eV:dp0=false:=by
       have h3:k3.get (.o id)=.ob dp0 z:=by rw[<-Ae.get];exact hz
       have h2:=f8 _ _ _ h3
       unfold Wk.flat at vS
       split at vS
       ·cases vS;rw[Wk.bm]at h2;cases h2;rfl
       ·rename_i z2 qT;cases vS;rw[qT]at h2;cases h2
       ·cases vS
      subst eV
      have rC:∃aN elem fr,G3.ω b=some (.o id [])∧w.heap[b]?=some (.cells aN elem fr)∧qa fr aN.size∧(i*wd+off)+(a.eval y).cells.size<=aN.size:=by
       cases aW with
       |nil Cm=>rw[JK]at Cm;cases Cm
       | @l _ _ _ b2 yI Ab aN elem fr cv h1 h2 h3 h4 h5 h6 _ _ _ _ _=>
        rw[JK]at h1
        cases h1
        refine⟨aN,elem,fr,h3,h4,h5.2,?_⟩
        have mf:yI=wd:=by rw[<-rz];exact(h6 r (List.mem_of_getElem? nF)).symm
        subst mf
        rw[h5.1]
        have:(i+1)*yI<=cap*yI:=Nat.mul_le_mul_right _ (by omega)
        rw[Nat.add_mul]at this
        simp only[Array.length_toList]at wY
        omega
      obtain⟨aN,elem,fr,fA,hb,DT,jZ⟩:=rC
      have da:=QU (P:=P) (w:=w) (cQ.ty _ _ eh) (v:=a.eval y) (by simp only[Array.length_toList]at mX;rw[<-mX];exact hlen) hb DT (off:=i*wd+off) jZ (λu hu=>qW.one u hu)
      have oE:=aW.put (w':=w.setRow b (aN.toList.take (i*wd+off)++(a.eval y).cells.toList++aN.toList.drop (i*wd+off+(a.eval y).cells.toList.length)).toArray)
       JK (zQ qp) nF yH wY.symm hb (by rw[rz];exact setRow_heap w _ aN _ elem _ hb) (Co _ _ _) (λc hc=>setRow_other _ _ _ _ hc)
       (dy.get (Tw.aF (by rw[Co];exact Nat.le_refl _) λc _ hc=>⟨hc,setRow_other _ _ _ _ λe=>by subst e;exact B_ fA (zQ qp) hc⟩)) (λhf=>by cases hf)
      refine⟨JI h (w4.same (Wk.aT _ _ _)) hn (fA:=fA) (Aa:=.inl rfl) (qp:=qp) (hy:=yG) (aW:=oE) (QV ho (by rw[jY];exact da)),?_⟩
      rw[lH]
      show k4.ct.i=ct.i
      rw[Ae.i,f4,e4]
     ·cases cM
    ·cases cM
   |false=>
    simp only[hN,cond_false,bU]at cM
    obtain⟨⟨k4,xs⟩,nM,cM⟩:=cM
    have Ae:=Wk.fN nM
    have w4:=hw.same Ae
    simp only at cM
    split at cM
    ·rename_i dp z hz
     cases QX:(dp||q.isEmpty)with
     |false=>simp[QX]at cM
     |true=>
      simp only[QX,cond_true,aH]at cM
      subst cM
      have c_:=w4.obj id
      rw[hz]at c_
      obtain⟨tt,vR,aW⟩:=c_
      obtain⟨rows,rfl⟩:∃ys,tt=.l ys:=by cases aW<;>exact⟨_,rfl⟩
      have hdu:(Wk.up ((k4.down z q).1.em (.put true wd off xs.length) ((k4.down z q).2::ix::xs)).1 z ((k4.down z q).1.em (.put true wd off xs.length) ((k4.down z q).2::ix::xs)).2 q).1.aO S ρ:=gy
      have Tx:=Wk.sU _ _ _ _ hdu
      obtain⟨n9,t',mu,yG⟩:=Wk.be Tx
      obtain⟨u,hu,Tz,zY⟩:=Wk.fL q k4 z n9 vR (zR hp) (.inr ⟨_,rfl⟩)
      obtain⟨ys,rfl⟩:∃ys,u=.l ys:=by
       rcases zY with rfl|h'
       ·simp only[lu]at hp;cases hp;simp[gf]at hu;exact⟨rows,hu.symm⟩
       ·exact h'
      obtain⟨ts,g1,g2,_,g4⟩:=Wk.fO nM (Wk.jV q _ _ n9) qW hw
      simp only[List.map_cons]at mu
      rw[g1]at mu
      obtain⟨r,nF,rz,yH,lA,rfl⟩:=JJ Tz hi mu
      obtain⟨t2,Jq,hy2⟩:=Wk.tZ q _ z _ hdu vR yG (zR hp) (.inr ⟨_,rfl⟩)
      have Tw:dy G.q (w.setRow b #[]) ts (a.eval y).cells.toList:=g2.cF (lA rfl)
      have wY:=g2.length
      have i_:dx G w id dp p (.l ys):=by
       cases dp with
       |true=>simpa using dx.nC p aW hu ⟨ys,rfl⟩
       |false=>
        have hq:q=[]:=by simpa using QX
        subst hq
        simp only[lu]at hp
        cases hp
        simp[gf]at hu
        subst hu
        exact aW
      have rC:∃aN elem fr,G.ω b=some (.o id p)∧w.heap[b]?=some (.cells aN elem fr)∧qa fr aN.size∧(i*wd+off)+(a.eval y).cells.size<=aN.size:=by
       cases i_ with
       |nil Cm=>rw[hH]at Cm;cases Cm
       | @l _ _ _ b2 yI Ab aN elem fr cv h1 h2 h3 h4 h5 h6 _ _ _ _ _=>
        rw[hH]at h1
        cases h1
        refine⟨aN,elem,fr,h3,h4,h5.2,?_⟩
        have mf:yI=wd:=by rw[<-rz];exact(h6 r (List.mem_of_getElem? nF)).symm
        subst mf
        rw[h5.1]
        have:(i+1)*yI<=cap*yI:=Nat.mul_le_mul_right _ (by omega)
        rw[Nat.add_mul]at this
        simp only[Array.length_toList]at wY
        omega
      obtain⟨aN,elem,fr,fA,hb,DT,jZ⟩:=rC
      have da:=QU (P:=P) (w:=w) (cQ.ty _ _ eh) (v:=a.eval y) (by simp only[Array.length_toList]at mX;rw[<-mX];exact hlen) hb DT (off:=i*wd+off) jZ (λu hu=>qW.one u hu)
      have oE:=i_.put (w':=w.setRow b (aN.toList.take (i*wd+off)++(a.eval y).cells.toList++aN.toList.drop (i*wd+off+(a.eval y).cells.toList.length)).toArray)
       hH (zP (ρ:=ρ) (zS hp) qp) nF yH wY.symm hb (by rw[rz];exact setRow_heap w _ aN _ elem _ hb) (Co _ _ _) (λc hc=>setRow_other _ _ _ _ hc)
       (dy.get (g2.cF (lA rfl))) (λ_=>lA rfl)
      have JL:dx G (w.setRow b (aN.toList.take (i*wd+off)++(a.eval y).cells.toList++aN.toList.drop (i*wd+off+(a.eval y).cells.toList.length)).toArray) id dp [] t2:=by
       cases dp with
       |true=>exact dx.mr (λc hc=>setRow_other _ _ _ _ hc) aW hu Jq (by simpa using fA) (by simpa using oE)
       |false=>
        have hq:q=[]:=by simpa using QX
        subst hq
        simp only[lu]at hp
        cases hp
        simp only[mr,aH]at Jq
        subst Jq
        exact oE
      refine⟨JI h (((w4.same (Wk.dK q _ _)).same (Wk.aT _ _ _)).same (Wk.qo q _ _ _)) hn (fA:=fA) (Aa:=zS hp) (qp:=qp) (hy:=hy2) (aW:=JL) (QV ho (by rw[jY];exact da)),?_⟩
      rw[lH]
      show(Wk.up _ z _ q).1.ct.i=ct.i
      rw[(Wk.qo q _ _ _).i,(Wk.aT _ _ _).i,(Wk.dK q _ _).i,Ae.i]
    ·cases cM
  ·cases jy
theorem TA(cQ:dg P cx)(h:Rel M B d up s ρ G a w)(hn:∀n,o.dst=some n->n<a.tmps.size){t:Nat}{x y:Operand}(ho:o.op=.store t x y)
  (hk:∃k1,storeAt cx ⟨s.only R,[],ct,[]⟩ t (bC d (Wk.get ⟨s.only R,[],ct,[]⟩) x) (bC d (Wk.get ⟨s.only R,[],ct,[]⟩) y)=some k1∧bn d o k1 .un=k')(hd:k'.aO S ρ):bf P M B d up ρ a w s o k'.w Q∧k'.ct.i=ct.i:=by
 cases hx:bC d (Wk.get ⟨s.only R,[],ct,[]⟩) x with
 |pt bx off=>exact Tt cQ h hn ho hx hk
 |ep id q ix wd off=>exact Tu cQ h hn ho hx hk hd
 |_=>
  exfalso
  obtain⟨k1,hk,_⟩:=hk
  simp only[storeAt,hx,bU]at hk
  obtain⟨ti,_,cs,_,h1⟩:=hk
  cases hb:Nat.beq cs.length ti.sz<;>simp[hb]at h1
theorem DU{xs:List (List T)}{l h:Nat}{i j:Nat}{t:T}(ht:cP ((xs.take h).drop l) i j=some t):cP xs (l+i) j=some t:=by
 unfold cP at ht⊢
 rw[List.getElem?_drop,List.getElem?_take]at ht
 split at ht
 ·exact ht
 ·simp at ht
theorem dF.sub{ω:Nat->Option Lb}{xs:List (List T)}{ao:Option Addr}{n cap l h sz:Nat}(hd:dF ω w (.l xs) (.slice ao n cap))(sW:l<=h)(hh:h<=xs.length)(dP:okW sz xs=true):
  dF ω w (.l ((xs.take h).drop l)) (sliced ao l h cap sz):=by
 unfold sliced
 by_cases he:l=h
 ·subst he
  have:(xs.take l).drop l=[]:=by simp
  rw[this,Nat.sub_self]
  exact .nil
 ·cases hd with
  |nil=>simp at hh;omega
  | @l _ b off wd _ cv hw hc hb bI h1 h2=>
   have cW:¬(cap=l):=by omega
   have hlen:((xs.take h).drop l).length=h-l:=by simp;omega
   have fF:sz=wd:=by
    cases xs with
    |nil=>simp at hh;omega
    |cons r xs=>rw[<-hw r (by simp)];exact(cO dP).symm
   subst fF
   rw[if_neg cW]
   simp only[Option.map_some,Addr.add_lit]
   rw[<-hlen]
   refine .l (cv:=λi j=>cv (l+i) j) (λr hr=>hw r (List.mem_of_mem_take (List.mem_of_mem_drop hr))) (by rw[hlen];omega) hb bI (λi j t ht=>?_) λi j t ht=>h2 _ _ _ (DU ht)
   have:=h1 _ _ _ (DU ht)
   rw[Nat.add_mul]at this
   rw[show off+l*sz+(i*sz+j)=off+(l*sz+i*sz+j) by omega]
   exact this
def nN(k:Wk)(f:Operand->SV):Option Operand->Option (Wk×List Lf)
 |none=>some (k,[])
 |some l=>(k.one (f l)).bind λr=>some (r.1,[r.2])
theorem QY{k k1:Wk}{G1:Gh}(hk:cG M B d up ρ G a w k G1){lo:Option Operand}{ls:List Lf}{f:Operand->SV}(hf:∀x,lo=some x->ca G1 w ρ (f x) (a.eval x))
  (h:nN k f lo=some (k1,ls))(hd:k1.aO S ρ):
  k.aO S ρ∧k.dL k1∧((lo=none∧ls=[])∨∃x y t,lo=some x∧ls=[y]∧y.ev ρ=t∧dF (er G1.ω) w t (a.eval x)):=by
 cases lo with
 |none=>
  simp only[nN,aH,Prod.mk.injEq]at h
  obtain⟨rfl,rfl⟩:=h
  exact⟨hd,.refl _,.inl ⟨rfl,rfl⟩⟩
 |some x=>
  simp only[nN,bU,aH,Prod.mk.injEq]at h
  obtain⟨⟨k2,y⟩,h1,rfl,rfl⟩:=h
  obtain⟨e1,e2,t,e3,e4⟩:=Wk.eK hk h1 hd (hf x rfl)
  exact⟨e1,e2,.inr ⟨x,y,t,rfl,rfl,Lf.a_ e3,e4⟩⟩
theorem wZ{ω:Nat->Option Lb}{k:IntKind}{n:Int}{v:Value}(h:dF ω w (.c (.int k n)) v):v=.int k n:=h.scalar.1
theorem DV{ω:Nat->Option Lb}{lo hi:Option Operand}{ls hs:List Lf}{n:Nat}{r:T}{F:Int->Int->Option T}
  (mW:(lo=none∧ls=[])∨∃x y t,lo=some x∧ls=[y]∧y.ev ρ=t∧dF ω w t (a.eval x))(sX:(hi=none∧hs=[])∨∃x y t,hi=some x∧hs=[y]∧y.ev ρ=t∧dF ω w t (a.eval x))
  (h:((match lo.isSome,hi.isSome,(ls++hs).map (Lf.ev ρ)with
   |false,false,[]=>some ((0:Int),(n:Int))
   |true,false,[.c (.int _ l)]=>some (l,(n:Int))
   |false,true,[.c (.int _ h)]=>some (0,h)
   |true,true,[.c (.int _ l),.c (.int _ h)]=>some (l,h)
   |_,_,_=>none).bind λb=>F b.1 b.2)=some r):
  ∃l h:Int,F l h=some r∧((lo.map a.eval=none∧l=0)∨∃k,lo.map a.eval=some (.int k l))∧((hi.map a.eval=none∧h=n)∨∃k,hi.map a.eval=some (.int k h)):=by
 rcases mW with⟨rfl,rfl⟩|⟨x,y,t,rfl,rfl,ht,lz⟩
 ·rcases sX with⟨rfl,rfl⟩|⟨x',y',t',rfl,rfl,iN,lG⟩
  ·simp at h
   exact⟨0,n,h,.inl ⟨rfl,rfl⟩,.inl ⟨rfl,rfl⟩⟩
  ·simp only[Option.isSome_none,Option.isSome_some,List.nil_append,List.map_cons,List.map_nil,iN]at h
   cases t' with
   |l _=>simp at h
   |c v=>cases v with
    |int k m=>
     simp at h
     have:=wZ lG
     exact⟨0,m,h,.inl ⟨rfl,rfl⟩,.inr ⟨k,by simp[this]⟩⟩
    |_=>simp at h
 ·cases t with
  |l _=>rcases sX with⟨rfl,rfl⟩|⟨x',y',t',rfl,rfl,iN,lG⟩<;>simp[ht]at h
  |c v=>cases v with
   |int k m=>
    have e1:=wZ lz
    rcases sX with⟨rfl,rfl⟩|⟨x',y',t',rfl,rfl,iN,lG⟩
    ·simp[ht]at h
     exact⟨m,n,h,.inr ⟨k,by simp[e1]⟩,.inl ⟨rfl,rfl⟩⟩
    ·simp only[Option.isSome_some,List.cons_append,List.nil_append,List.map_cons,List.map_nil,ht,iN]at h
     cases t' with
     |l _=>simp at h
     |c v'=>cases v' with
      |int k' m'=>
       simp at h
       have e2:=wZ lG
       exact⟨m,m',h,.inr ⟨k,by simp[e1]⟩,.inr ⟨k',by simp[e2]⟩⟩
      |_=>simp at h
   |_=>rcases sX with⟨rfl,rfl⟩|⟨x',y',t',rfl,rfl,iN,lG⟩<;>simp[ht]at h
theorem k8_{t e:Nat}(ht:P.underlying t=some (.slice e)){sz:Nat}(wU:∃i,P.info? e=some i∧i.size=sz){ao:Option Addr}{n cap:Nat}(hc:n<=cap){lo hi:Option Value}{l h:Int}
  (mW:(lo=none∧l=0)∨∃k,lo=some (.int k l))(sX:(hi=none∧h=n)∨∃k,hi=some (.int k h))(h0:0<=l)(sW:l<=h)(hh:h<=n):
  (Instr.sliceAt t (.slice ao n cap) lo hi none).run P w=.ok (sliced ao l.toNat h.toNat cap sz) w:=by
 have Af:P.elem t=e:=by simp[Program.elem,ht]
 have iN:P.underlying t=some (.slice (P.elem t)):=by rw[Af];exact ht
 obtain⟨i,o5,iU⟩:=wU
 have hs:(sizeOf (P.elem t)).run P w=.ok sz w:=by rw[Af];simp[sizeOf,typeInfo,o5,iU]
 rw[run_sliceAt_slice w t _ _ _ _ iN]
 have j3:h<=cap:=by omega
 rcases mW with⟨rfl,rfl⟩|⟨k,rfl⟩
 ·rcases sX with⟨rfl,rfl⟩|⟨k',rfl⟩
  ·rw[run_slice_all w t ao n cap iN,hs];simp
  ·rw[run_slice_h w t ao n cap iN k' h sW j3,hs];simp
 ·rcases sX with⟨rfl,rfl⟩|⟨k',rfl⟩
  ·rw[run_slice_l w t ao n cap iN k l h0 sW,hs];simp
  ·rw[run_slice_lh w t ao n cap iN k k' l h h0 sW j3,hs];simp
theorem JM{sz:Nat}{b1 b2:Bool}{t r:T}{ts:List T}(h:Prim.ev (.sub sz b1 b2) (t::ts)=some r):∃xs,t=.l xs∧okW sz xs=true∧
  ((match b1,b2,ts with
   |false,false,[]=>some ((0:Int),(xs.length:Int))
   |true,false,[.c (.int _ l)]=>some (l,(xs.length:Int))
   |false,true,[.c (.int _ h)]=>some (0,h)
   |true,true,[.c (.int _ l),.c (.int _ h)]=>some (l,h)
   |_,_,_=>none).bind λb=>if 0<=b.1 then(if b.1<=b.2 then(if b.2<=xs.length then some (T.l ((xs.take b.2.toNat).drop b.1.toNat))else none)else none)else none)=some r:=by
 cases t with
 |c v=>simp[Prim.ev]at h
 |l xs=>
  simp only[Prim.ev]at h
  split at h
  ·rename_i dP
   exact⟨xs,rfl,dP,h⟩
  ·cases h
theorem TB{b1 b2:Bool}{t r:T}{ts:List T}(h:Prim.ev (.fg b1 b2) (t::ts)=some r):∃x:ByteArray,t=.c (.string x)∧
  ((match b1,b2,ts with
   |false,false,[]=>some ((0:Int),(x.size:Int))
   |true,false,[.c (.int _ l)]=>some (l,(x.size:Int))
   |false,true,[.c (.int _ h)]=>some (0,h)
   |true,true,[.c (.int _ l),.c (.int _ h)]=>some (l,h)
   |_,_,_=>none).bind λb=>if 0<=b.1 then(if b.1<=b.2 then(if b.2<=x.size then some (T.c (.string (x.extract b.1.toNat b.2.toNat)))else none)else none)else none)=some r:=by
 cases t with
 |l xs=>simp[Prim.ev]at h
 |c v=>
  cases v with
  |string x=>exact⟨x,rfl,h⟩
  |_=>simp[Prim.ev]at h
theorem TC{t:Nat}(ht:P.underlying t=some .string){x:ByteArray}{lo hi:Option Value}{l h:Int}
  (mW:(lo=none∧l=0)∨∃k,lo=some (.int k l))(sX:(hi=none∧h=x.size)∨∃k,hi=some (.int k h))(h0:0<=l)(sW:l<=h)(hh:h<=x.size):
  (Instr.sliceAt t (.string x) lo hi none).run P w=.ok (.string (x.extract l.toNat h.toNat)) w:=by
 rw[run_sliceAt_string w t _ _ _ _ ht]
 have e1:(h.toNat:Int)=h:=Int.toNat_of_nonneg (by omega)
 rcases mW with⟨rfl,rfl⟩|⟨k,rfl⟩
 ·rcases sX with⟨rfl,rfl⟩|⟨k',rfl⟩
  ·rw[run_slice_string_all w t x ht];simp
  ·rw[run_slice_string_h w t x ht k' h sW hh];simp
 ·rcases sX with⟨rfl,rfl⟩|⟨k',rfl⟩
  ·rw[run_slice_string_l w t x ht k l h0 sW];simp
  ·simp[Instr.slice,run_underlying ht,Instr.sliceBounds,run_sliceBound,e1,h0,sW,hh,(by omega:0<=h)]
theorem TD(cQ:dg P cx)(h:Rel M B d up s ρ G a w)(hn:∀n,o.dst=some n->n<a.tmps.size){t:Nat}{x:Operand}{lo hi mx:Option Operand}(ho:o.op=.slice t x lo hi mx)
  (w6:(bif mx.isSome then none else wy cx ⟨s.only R,[],ct,[]⟩ t (bC d (Wk.get ⟨s.only R,[],ct,[]⟩) x) (lo.map (bC d (Wk.get ⟨s.only R,[],ct,[]⟩))) (hi.map (bC d (Wk.get ⟨s.only R,[],ct,[]⟩))))=none)
  (hk:gv cx bY dS d o oi ⟨s.only R,[],ct,[]⟩=some k')(hd:k'.aO S ρ):bf P M B d up ρ a w s o k'.w Q∧k'.ct.i=ct.i:=by
 have hw:=cG.start h R ct
 simp only[gv,ho]at hk
 split at hk
 ·rename_i k v he
  exact absurd (he.symm.trans w6) (by simp)
 simp only[bU]at hk
 obtain⟨ti,eh,k1,uV,⟨k2,z⟩,mY,hk⟩:=hk
 obtain⟨G2,w1,e1,e2,e3,e4,e5,_⟩:=hw.dv uV
 have hK:cJ (mU k1.w) (λ_=>False) G w G2 w:=w1.aF
 have f_:∀y,ca G2 w ρ (bC d (Wk.get ⟨s.only R,[],ct,[]⟩) y) (a.eval y):=λy=>(hw.f_ y).1.aF hK λ_ _ hf=>hf
 have lm:k1.dL k2:=by
  unfold Wk.one at mY
  split at mY
  ·exact Wk.cX mY
  ·cases mY
 have w2:=w1.same lm
 simp only at hk
 cases mx with
 |some _=>simp at hk
 |none=>
  simp only at hk
  have o3:∃k3 ls,nN k2 (bC d (Wk.get ⟨s.only R,[],ct,[]⟩)) lo=some (k3,ls)∧
    ∃k4 hs,nN k3 (bC d (Wk.get ⟨s.only R,[],ct,[]⟩)) hi=some (k4,hs)∧
    ((Nat.beq ti.kd 3=true∧∃te,cx.ty ti.el=some te∧k'=bn d o (k4.em (.sub te.sz lo.isSome hi.isSome) (z::(ls++hs))).1 (.v false [.p (k4.em (.sub te.sz lo.isSome hi.isSome) (z::(ls++hs))).2]))∨
     (Nat.beq ti.kd 2=true∧k'=bn d o (k4.em (.fg lo.isSome hi.isSome) (z::(ls++hs))).1 (.v false [.p (k4.em (.fg lo.isSome hi.isSome) (z::(ls++hs))).2]))):=by
   rw[bU]at hk
   obtain⟨⟨k3,ls⟩,h1,hk⟩:=hk
   rw[bU]at hk
   obtain⟨⟨k4,hs⟩,h2,hk⟩:=hk
   refine⟨k3,ls,?_,k4,hs,?_,?_⟩
   ·cases lo<;>exact h1
   ·cases hi<;>exact h2
   ·simp only at hk
    cases h3:Nat.beq ti.kd 3 with
    |true=>
     simp only[h3,cond_true,bU,aH]at hk
     obtain⟨te,mK,hk⟩:=hk
     exact .inl ⟨rfl,te,mK,hk.symm⟩
    |false=>
     simp only[h3,cond_false]at hk
     cases h4:Nat.beq ti.kd 2 with
     |true=>
      simp only[h4,cond_true,aH]at hk
      exact .inr ⟨rfl,hk.symm⟩
     |false=>simp[h4]at hk
  obtain⟨k3,ls,mW,k4,hs,sX,oH⟩:=o3
  have fin:∀(p:Prim),k'=bn d o (k4.em p (z::(ls++hs))).1 (.v false [.p (k4.em p (z::(ls++hs))).2])->
    ∃r tz,p.ev (tz::(ls++hs).map (Lf.ev ρ))=some r∧(∀c,(bC d (Wk.get ⟨s.only R,[],ct,[]⟩) x)=.v false [c]->dF G2.q w tz (a.eval x))∧
     (∃c,(bC d (Wk.get ⟨s.only R,[],ct,[]⟩) x)=.v false [c])∧
     ((lo=none∧ls=[])∨∃x y t,lo=some x∧ls=[y]∧y.ev ρ=t∧dF (er G2.ω) w t (a.eval x))∧((hi=none∧hs=[])∨∃x y t,hi=some x∧hs=[y]∧y.ev ρ=t∧dF (er G2.ω) w t (a.eval x))∧
     (∀v,(execOp a.eval o).run P w=.ok (.value v) w->dF G2.q w r v->(∀x,v≠.agg x)->bf P M B d up ρ a w s o k'.w Q∧k'.ct.i=ct.i):=by
   intro p hp
   subst hp
   have sS:=bZ.1 hd
   obtain⟨Cf,r,hr,me⟩:=Wk.be sS
   have TE:k2.dL k3:=by
    unfold nN at mW
    split at mW
    ·simp only[aH,Prod.mk.injEq]at mW;obtain⟨rfl,_⟩:=mW;exact .refl _
    ·simp only[bU,aH,Prod.mk.injEq]at mW
     obtain⟨⟨k5,y5⟩,h5,rfl,_⟩:=mW
     unfold Wk.one at h5
     split at h5
     ·exact Wk.cX h5
     ·cases h5
   obtain⟨tX,Ae,mq⟩:=QY (w2.same TE) (f:=bC d (Wk.get ⟨s.only R,[],ct,[]⟩)) (λy _=>f_ y) sX Cf
   obtain⟨n4,_,po⟩:=QY w2 (f:=bC d (Wk.get ⟨s.only R,[],ct,[]⟩)) (λy _=>f_ y) mW tX
   have uP:∃c,(bC d (Wk.get ⟨s.only R,[],ct,[]⟩) x)=.v false [c]:=by
    unfold Wk.one at mY
    split at mY
    ·rename_i c dh;exact⟨c,dh⟩
    ·cases mY
   obtain⟨c,hc⟩:=uP
   have JN:=f_ x
   rw[hc]at JN mY uV
   obtain⟨_,vP,n_,_⟩:=JN
   cases vP
   have dM:k1.val c=some (k2,z):=mY
   obtain⟨Hj,w1',_,_,_,_,qY,_⟩:=hw.dv uV
   obtain⟨tz,hz,JO⟩:=Wk.pM dM n_ w1 (by simpa[zm]using qY)
   refine⟨r,tz,by simpa[Lf.a_ hz]using hr,λ_ _=>JO,⟨c,hc⟩,po,mq,λv hv hdv z5=>⟨?_,?_⟩⟩
   ·exact qh h (((w2.same TE).same Ae).same (Wk.aT _ _ _)) hn hv (Jd me hdv z5) (λi hi=>by simp[cD,cT]at hi) Q
   ·rw[lH,(Wk.aT _ _ _).i,Ae.i,TE.i,lm.i,e3]
  have da:∀v,(Instr.sliceAt t (a.eval x) (lo.map a.eval) (hi.map a.eval) none).run P w=.ok v w->(execOp a.eval o).run P w=.ok (.value v) w:=by
   intro v hv
   exact yD (x:=Instr.sliceAt t (a.eval x) (lo.map a.eval) (hi.map a.eval) none) (by unfold execOp;rw[ho];rfl) hv
  rcases oH with⟨h3,te,mK,hk⟩|⟨h3,hk⟩
  ·obtain⟨r,tz,hr,JO,⟨c,hc⟩,po,mq,oH⟩:=fin _ hk
   obtain⟨xs,rfl,dP,hr⟩:=JM hr
   obtain⟨l,hh,hF,mX,qX⟩:=DV (F:=λl h=>if 0<=l then(if l<=h then(if h<=xs.length then some (T.l ((xs.take h.toNat).drop l.toNat))else none)else none)else none) po mq hr
   split at hF
   ·rename_i h0
    split at hF
    ·rename_i sW
     split at hF
     ·rename_i JP
      simp only[aH]at hF
      subst hF
      have uW:=JO c hc
      obtain⟨ao,cap,dM,j3⟩:=uW.rows
      have hT:=cQ.ty _ _ eh
      have hE:=cQ.ty _ _ mK
      obtain⟨i,zz,o5,iU,_⟩:=hE.info
      by_cases qs:xs.length<=cap
      ·have nG:=k8_ (P:=P) (w:=w) (hT.sl (cO h3)) ⟨i,o5,iU⟩ (ao:=ao) qs mX qX h0 sW JP
       rw[<-dM]at nG
       refine oH _ (da _ nG) ?_ (λ_ hf=>by unfold sliced at hf;cases hf)
       rw[dM]at uW
       exact uW.sub (by omega) (by omega) dP
      ·have su:xs=[]:=by
        cases xs with
        |nil=>rfl
        |cons y ys=>exact absurd (j3 (by simp)) qs
       subst su
       simp at qs
     ·cases hF
    ·cases hF
   ·cases hF
  ·obtain⟨r,tz,hr,JO,⟨c,hc⟩,po,mq,oH⟩:=fin _ hk
   obtain⟨x',rfl,hr⟩:=TB hr
   obtain⟨l,hh,hF,mX,qX⟩:=DV (F:=λl h=>if 0<=l then(if l<=h then(if h<=x'.size then some (T.c (.string (x'.extract l.toNat h.toNat)))else none)else none)else none) po mq hr
   split at hF
   ·rename_i h0
    split at hF
    ·rename_i sW
     split at hF
     ·rename_i JP
      simp only[aH]at hF
      subst hF
      obtain⟨dM,_⟩:=(JO c hc).scalar
      have hT:=cQ.ty _ _ eh
      have nG:=TC (P:=P) (w:=w) (hT.st (cO h3)) (x:=x') mX qX h0 sW JP
      rw[<-dM]at nG
      exact oH _ (da _ nG) (.c rfl) (λ_ hf=>by cases hf)
     ·cases hF
    ·cases hF
   ·cases hF
end
def Gh.cd(G:Gh)(nb:Option Nat)(i:Nat)(f:Lb->Option Lb)(Hn:List (Nat×Nat)->Value)(lg:∀p,∃a n c,Hn p=.slice a n c):Gh where
 ω:=λb=>if nb=some b then some (.o i [])else(G.ω b).bind f
 β:=G.β
 H:=λj=>if j=i then Hn else G.H j
 hs:=λj p=>by
  by_cases h:j=i
  ·simp only[h,if_true];exact lg p
  ·simp only[h,if_false];exact G.hs j p
section
variable {M:Nat->Prop} {B:dE} {d:Nat} {up:Nat->Nat->Value} {ρ:List T} {G:Gh} {a:Act} {w:World} {S:Nat->ai} {P:Program}
variable {cx:Cx} {bY dS oi:Nat} {s:St} {R:List aK} {ct:Ct} {k':Wk} {o:Oper} {Q:Exit->Act->World->Prop}
variable {nb:Option Nat} {i:Nat} {f:Lb->Option Lb} {Hn:List (Nat×Nat)->Value} {lg:∀p,∃a n c,Hn p=.slice a n c} {w':World}
theorem Ag(JQ:∀l l',qt l=true->f l=some l'->qt l'=true){b:Nat}(cW:nb≠some b)(h0:G.q b=none):(G.cd nb i f Hn lg).q b=none:=by
 refine B' h0 (λh1=>by simp[Gh.cd,cW,h1]) λl hl hq=>?_
 cases vS:f l with
 |none=>exact .inl (by simp[Gh.cd,cW,hl,vS])
 |some l'=>exact .inr ⟨l',by simp[Gh.cd,cW,hl,vS],JQ l l' hq vS⟩
theorem TF{I:Lb->Prop}(hf:∀l,¬I l->f l=some l)(JQ:∀l l',qt l=true->f l=some l'->qt l'=true)(pO:∀c,nb=some c->w.heap.size<=c∨∃l,G.ω c=some l∧I l∧qt l=false)(hs:w.heap.size<=w'.heap.size)
  (hh:∀b,b<w.heap.size->nb≠some b->w'.heap[b]?=w.heap[b]?)(iE:∀b l,G.ω b=some l->b<w.heap.size):cJ I (λj=>j=i) G w (G.cd nb i f Hn lg) w':=by
 refine⟨hs,λb hb h0=>?_,λb hb h0=>?_,λb l hb hl=>?_,λj hj=>?_⟩
 ·have cW:nb≠some b:=by
   intro e
   rcases pO _ e with h|⟨l,h,_,hq⟩
   ·omega
   ·exact B_ h hq h0
  refine⟨Ag JQ cW h0,hh b hb cW⟩
 ·have cW:nb≠some b:=by
   intro e
   rcases pO _ e with h|⟨l,h,_⟩
   ·omega
   ·rw[h0]at h;cases h
  simp[Gh.cd,cW,h0]
 ·have bI:=iE b l hb
  have cW:nb≠some b:=by
   intro e
   rcases pO _ e with h|⟨l',h,h',_⟩
   ·omega
   ·rw[hb]at h;cases h;exact hl h'
  exact⟨by simp[Gh.cd,cW,hb,hf l hl],hh b bI cW⟩
 ·exact⟨rfl,λ_ _=>by simp[Gh.cd,hj]⟩
theorem JR{x:Sem Value}{v:Value}(he:execOp a.eval o=(do let v <-x;pure (Next.value v)))(h:x.run P w=.ok v w'):(execOp a.eval o).run P w=.ok (.value v) w':=by
 rw[he,Sem.run_bind,h];rfl
theorem bf.mono{M':Nat->Prop}{W:St}(h:bf P M B d up ρ a w s o W Q)(hM:∀i,M i->M' i):bf P M' B d up ρ a w s o W Q:=
 Oper.wp_mono (λa' w' ⟨G',h1,h2⟩=>⟨G',h1.mono hM,h2⟩) h
theorem JS{k:Wk}{G1:Gh}(h:Rel M B d up s ρ G a w)(hk:cG M B d up ρ G a w k G1)(hn:∀n,o.dst=some n->n<a.tmps.size)(hM:¬M k.ct.i)
  {W1:St}{kw:Wk}{dp:Bool}{y:Lf}{t:T}{v:Value}
  (JT:∀r,kw.w.look r=(St.look ((.o k.ct.i,.ob dp y)::W1) r).or (k.w.look r))(t_:∀r u,W1.look r=some u->∃j,r=.o j∧cb (G1.cd nb k.ct.i f Hn lg) w' ρ j u∧M j∧∀i∈cD u,M i)
  (hf:∀l,(∀j p,l=.o j p->W1.look (.o j)=none)->f l=some l)(iX:∀l l',(∃b,G1.ω b=some l)->f l=some l'->M l'.id∨l'.id=k.ct.i)
  (JQ:∀l l',qt l=true->f l=some l'->qt l'=true)(pO:∀c,nb=some c->c=w.heap.size∨∃j,G1.ω c=some (.o j [])∧W1.look (.o j)≠none∧j%4≠2)(hs:w.heap.size<=w'.heap.size)(TG:∀c,nb=some c->c<w'.heap.size)
  (hh:∀b,b<w.heap.size->nb≠some b->w'.heap[b]?=w.heap[b]?)(so:iw w w')(hv:v=Hn [])
  (hy:y.eE ρ=some t)(aW:dx (G1.cd nb k.ct.i f Hn lg) w' k.ct.i dp [] t)(hx:(execOp a.eval o).run P w=.ok (.value v) w'):
  bf P (Mn M k.ct.i (k.ct.i+1)) B d up ρ a w s o (bn d o kw (.v false [.o k.ct.i []])).w Q:=by
 have iT:Mn M k.ct.i (k.ct.i+1) k.ct.i:=.inr ⟨Nat.le_refl _,Nat.lt_succ_self _⟩
 have QZ:∀j u,W1.look (.o j)=some u->St.look (dN d o (.v false [.o k.ct.i []])++((aK.o k.ct.i,SV.ob dp y)::W1)) (.o j)≠none:=by
  intro j u hu
  rw[jz]
  intro e
  have:=(Option.or_eq_none_iff.1 e).2
  simp only[St.look,hu]at this
  cases hb:(aK.o k.ct.i).beq (.o j)<;>simp[hb]at this
 have hK:cJ (mU (dN d o (.v false [.o k.ct.i []])++((aK.o k.ct.i,SV.ob dp y)::W1))) (λj=>j=k.ct.i) G1 w (G1.cd nb k.ct.i f Hn lg) w':=by
  refine TF (λl hl=>hf l λj p hj=>?_) JQ ?_ hs hh λb l hb=>(hk.rel.fE b l hb).2
  ·subst hj
   cases hw:W1.look (.o j)with
   |none=>rfl
   |some u=>exact absurd (QZ j u hw) hl
  ·intro c hc
   rcases pO c hc with rfl|⟨j,h1,h2,h3⟩
   ·exact .inl (Nat.le_refl _)
   ·obtain⟨u,hu⟩:=Option.ne_none_iff_exists'.1 h2
    exact .inr ⟨_,h1,QZ j u hu,zQ h3⟩
 simp only[bf,Oper.wp,hx,Oper.upon]
 refine⟨G1.cd nb k.ct.i f Hn lg,Ci h hk (W2:=dN d o (.v false [.o k.ct.i []])++((aK.o k.ct.i,SV.ob dp y)::W1)) (DM (W2:=(aK.o k.ct.i,SV.ob dp y)::W1) JT)
  hK (λj hj=>by subst hj;exact hM) (λj hj=>.inl hj) (λn n9=>Cl n9) so ?_,vN _ _ _⟩
 refine⟨λe n u he hl=>?_,λb u hl=>?_,λj u hl=>?_,λr u hl j hj=>?_,λj hj=>?_,λb l hb=>?_⟩
 ·rcases iW hl with⟨n',fi,e1,rfl⟩|hl
  ·cases e1
   rw[fi,Hb (hn _ fi),hv]
   refine⟨_,rfl,⟨[],rfl,by simp[Gh.cd]⟩,λx hx=>?_⟩
   obtain⟨a1,a2,a3,e1⟩:=lg []
   rw[e1]at hx;cases hx
  ·rcases gJ hl with⟨e1,_⟩|hl
   ·cases e1
   ·obtain⟨j,e1,_⟩:=t_ _ _ hl;cases e1
 ·rcases iW hl with⟨n',fi,e1,rfl⟩|hl
  ·cases e1
  ·rcases gJ hl with⟨e1,rfl⟩|hl
   ·cases e1
   ·obtain⟨j,e1,_⟩:=t_ _ _ hl;cases e1
 ·rcases iW hl with⟨n',fi,e1,rfl⟩|hl
  ·cases e1
  ·rcases gJ hl with⟨e1,rfl⟩|hl
   ·cases e1
    exact⟨t,hy,aW⟩
   ·obtain⟨j,e1,h2,_⟩:=t_ _ _ hl;cases e1;exact h2
 ·rcases iW hl with⟨n',fi,e1,rfl⟩|hl
  ·simp[cD,cT]at hj;subst hj;exact iT
  ·rcases gJ hl with⟨e1,rfl⟩|hl
   ·simp[cD]at hj
   ·obtain⟨j',e1,_,_,hm⟩:=t_ _ _ hl;exact .inl (hm j hj)
 ·have:∀r:aK,(r=.x j∨r=.o j)->St.look (dN d o (.v false [.o k.ct.i []])++((aK.o k.ct.i,SV.ob dp y)::W1)) r≠none->Mn M k.ct.i (k.ct.i+1) j:=by
   intro r hr hl
   obtain⟨u,hu⟩:=Option.ne_none_iff_exists'.1 hl
   rcases iW hu with⟨n',fi,e1,rfl⟩|hl
   ·rcases hr with rfl|rfl<;>cases e1
   ·rcases gJ hl with⟨e1,rfl⟩|hl
    ·rcases hr with rfl|rfl
     ·cases e1
     ·cases e1;exact iT
    ·obtain⟨j',e1,_,hm,_⟩:=t_ _ _ hl
     rcases hr with rfl|rfl
     ·cases e1
     ·cases e1;exact .inl hm
  rcases hj with hj|hj
  ·exact this _ (.inl rfl) hj
  ·exact this _ (.inr rfl) hj
 ·simp only[Gh.cd]at hb
  split at hb
  ·rename_i he
   cases hb
   exact⟨iT,TG _ he⟩
  ·obtain⟨l0,h0,h1⟩:=Option.bind_eq_some_iff.1 hb
   obtain⟨_,bI⟩:=hk.rel.fE b l0 h0
   refine⟨?_,by omega⟩
   rcases iX l0 l ⟨_,h0⟩ h1 with hm|he
   ·exact .inl hm
   ·rw[he];exact iT
end
section
variable {M:Nat->Prop} {B:dE} {d:Nat} {up:Nat->Nat->Value} {ρ:List T} {G:Gh} {a:Act} {w:World} {S:Nat->ai} {P:Program}
variable {cx:Cx} {bY dS oi:Nat} {s:St} {R:List aK} {ct:Ct} {k':Wk} {o:Oper} {Q:Exit->Act->World->Prop}
def zT:List Ce->List T
 | []=>[]
 | .p (.k v)::cs=>.c v::zT cs
 |_::cs=>.l []::zT cs
theorem DW:∀{zs:List Ce} {vs:List Value} {k k1:Wk} {xs:List Lf},wM zs vs->k.ie zs=some (k1,xs)->k1=k∧xs.map (Lf.ev ρ)=zT zs
 | [],[],k,k1,xs,_,h=>by simp[Wk.ie]at h;obtain⟨rfl,rfl⟩:=h;exact⟨rfl,rfl⟩
 | [],_::_,_,_,_,h,_=>h.elim
 | .p (.k v)::cs,v'::vs,k,k1,xs,h,hk=>by
  obtain⟨rfl,hs,h⟩:=h
  simp only[Wk.ie,Wk.val,Option.bind_some,bU,aH,Prod.mk.injEq]at hk
  obtain⟨⟨k2,ys⟩,h2,rfl,rfl⟩:=hk
  obtain⟨rfl,h3⟩:=DW h h2
  exact⟨rfl,by simp[zT,h3,Lf.ev]⟩
 | .n::cs,v'::vs,k,k1,xs,h,hk=>by
  obtain⟨rfl,h⟩:=h
  simp only[Wk.ie,Wk.val,Option.bind_some,bU,aH,Prod.mk.injEq]at hk
  obtain⟨⟨k2,ys⟩,h2,rfl,rfl⟩:=hk
  obtain⟨rfl,h3⟩:=DW h h2
  exact⟨rfl,by simp[zT,h3,Lf.ev]⟩
 | .p (.k _)::_,[],_,_,_,h,_=>h.elim
 | .n::_,[],_,_,_,h,_=>h.elim
 | .p (.a _)::_,[],_,_,_,h,_=>h.elim
 | .p (.a _)::_,_::_,_,_,_,h,_=>h.elim
 | .p .e::_,[],_,_,_,h,_=>h.elim
 | .p .e::_,_::_,_,_,_,h,_=>h.elim
 | .o _ _::_,[],_,_,_,h,_=>h.elim
 | .o _ _::_,_::_,_,_,_,h,_=>h.elim
 | .d::_,[],_,_,_,h,_=>h.elim
 | .d::_,_::_,_,_,_,h,_=>h.elim
theorem DX:∀{zs:List Ce} {vs:List Value},wM zs vs->(zT zs).length=vs.length∧∀(j:Nat) (t:T),(zT zs)[j]?=some t->
  ∃v,vs[j]?=some v∧((t=.c v∧iY v=true)∨(t=.l []∧v=.slice none 0 0))
 | [],[],_=>⟨rfl,λj t h=>by simp[zT]at h⟩
 | [],_::_,h=>h.elim
 | .p (.k v)::cs,v'::vs,h=>by
  obtain⟨rfl,hs,h⟩:=h
  obtain⟨h1,h2⟩:=DX h
  refine⟨by simp[zT,h1],λj t ht=>?_⟩
  cases j with
  |zero=>simp[zT]at ht;subst ht;exact⟨v,rfl,.inl ⟨rfl,hs⟩⟩
  |succ j=>simpa using h2 j t (by simpa[zT]using ht)
 | .n::cs,v'::vs,h=>by
  obtain⟨rfl,h⟩:=h
  obtain⟨h1,h2⟩:=DX h
  refine⟨by simp[zT,h1],λj t ht=>?_⟩
  cases j with
  |zero=>simp[zT]at ht;subst ht;exact⟨_,rfl,.inr ⟨rfl,rfl⟩⟩
  |succ j=>simpa using h2 j t (by simpa[zT]using ht)
 | .p (.k _)::_,[],h=>h.elim
 | .n::_,[],h=>h.elim
 | .p (.a _)::_,[],h=>h.elim
 | .p (.a _)::_,_::_,h=>h.elim
 | .p .e::_,[],h=>h.elim
 | .p .e::_,_::_,h=>h.elim
 | .o _ _::_,[],h=>h.elim
 | .o _ _::_,_::_,h=>h.elim
 | .d::_,[],h=>h.elim
 | .d::_,_::_,h=>h.elim
theorem JU{z:Array Value}{n i j:Nat}(hj:j<z.size)(hi:i<n):(madeCells z (n*z.size))[i*z.size+j]?=z[j]?:=by
 have bI:i*z.size+j<n*z.size:=by
  have:(i+1)*z.size<=n*z.size:=Nat.mul_le_mul_right _ hi
  rw[Nat.add_mul]at this
  omega
 have hm:(i*z.size+j)%z.size=j:=by rw[Nat.add_comm,Nat.add_mul_mod_self_right,Nat.mod_eq_of_lt hj]
 simp[madeCells,bI,hm,hj]
theorem TH{n i j:Nat}{ts:List T}{t:T}(h:cP (List.replicate n ts) i j=some t):i<n∧ts[j]?=some t:=by
 unfold cP at h
 rw[List.getElem?_replicate]at h
 split at h
 ·rename_i hi;exact⟨hi,h⟩
 ·simp at h
theorem TJ{t t' r:T}{ts:List T}(h:Prim.ev .mk (t::t'::ts)=some r):∃(k k2:IntKind) (n c:Int),t=.c (.int k n)∧t'=.c (.int k2 c)∧0<=n∧n=c∧c<tQ∧r=.l (List.replicate n.toNat ts):=by
 cases t with
 |l _=>simp[Prim.ev]at h
 |c v=>
  cases v with
  |int k n=>
   cases t' with
   |l _=>simp[Prim.ev]at h
   |c v'=>
    cases v' with
    |int k2 c=>
     simp only[Prim.ev]at h
     split at h
     ·split at h
      ·split at h
       ·simp only[aH]at h
        exact⟨k,k2,n,c,rfl,rfl,by assumption,by assumption,by assumption,h.symm⟩
       ·cases h
      ·cases h
     ·cases h
    |_=>simp[Prim.ev]at h
  |_=>cases t'<;>simp[Prim.ev]at h
theorem TK(cQ:dg P cx)(h:Rel M B d up s ρ G a w)(hn:∀n,o.dst=some n->n<a.tmps.size){t:Nat}{x y:Operand}(ho:o.op=.makeSlice t x y)
  (hk:gv cx bY dS d o oi ⟨s.only R,[],ct,[]⟩=some k')(hd:k'.aO S ρ)(hM:∀i,ct.i<=i->i<k'.ct.i->¬M i):bf P (Mn M ct.i k'.ct.i) B d up ρ a w s o k'.w Q:=by
 have hw:=cG.start h R ct
 simp only[gv,ho,bU]at hk
 obtain⟨ti,eh,te,mK,⟨k1,n⟩,h1,⟨k2,m⟩,h2,⟨k3,zs⟩,h3,hk⟩:=hk
 cases hc:(Nat.beq ti.kd 3&&Nat.ble te.bytes 65536&&Nat.blt 0 te.sz)with
 |false=>simp[hc]at hk
 |true=>
  simp only[hc,cond_true,aH]at hk
  simp only[bd]at hc
  obtain⟨⟨vP,oI⟩,Q0⟩:=hc
  have hT:=cQ.ty _ _ eh
  have hE:=cQ.ty _ _ mK
  obtain⟨i,z,o5,iU,Hk,yJ,sR⟩:=hE.info
  have hu:=hT.sl (cO vP)
  obtain⟨rfl,uX⟩:=DW (ρ:=ρ) sR h3
  obtain⟨ql,hza⟩:=DX sR
  have fF:z.cells.size=te.sz:=by
   have:=(Ch (G:=G) (w:=w) (ρ:=ρ) sR).1.length
   rw[hE.wO]at this
   simpa using this.symm
  have dG:bn d o {(k3.em .mk (n::m::zs)).1.set (.o (df k3.ct.i)) (.ob true (k3.em .mk (n::m::zs)).2)with ct:=⟨(k3.em .mk (n::m::zs)).1.ct.a,df k3.ct.i+1⟩} (.v false [.o (df k3.ct.i) []])=k':=hk
  have gy:(k3.em .mk (n::m::zs)).1.aO S ρ:=by
   rw[<-dG]at hd
   have h2:=bZ.1 hd
   exact h2
  obtain⟨tX,r,hr,me⟩:=Wk.be gy
  have iZ:Wk.dL ⟨s.only R,[],ct,[]⟩ k1:=by
   unfold Wk.one at h1
   split at h1
   ·exact Wk.cX h1
   ·cases h1
  obtain⟨n4,lm,tm,hm,hdm⟩:=Wk.eK (hw.same iZ) h2 tX (hw.f_ y).1
  obtain⟨_,_,tn,QS,n9⟩:=Wk.eK hw h1 n4 (hw.f_ x).1
  have pJ:=((hw.same iZ).same lm).same (Wk.aT k3 .mk (n::m::zs))
  have iv:k3.ct.i=ct.i:=by rw[lm.i,iZ.i]
  simp only[List.map_cons,uX,Lf.a_ hm,Lf.a_ QS]at hr
  obtain⟨kn,kc,nn,cc,rfl,rfl,g1,g2,g3,rfl⟩:=TJ hr
  have en:=wZ n9
  have ec:=wZ hdm
  have hb:=Nat.le_of_ble_eq_true oI
  have j3:cc<4294967296:=g3
  have DY:(i.bytes:Int)*cc<=281474976710656:=by
   rw[Hk]
   have e1:(te.bytes:Int)<=65536:=by omega
   have h0:(0:Int)<=cc:=by omega
   calc (te.bytes:Int)*cc<=65536*cc:=Int.mul_le_mul_of_nonneg_right e1 h0
    _<=281474976710656:=by omega
  have da:=run_make (P:=P) w t ti.el i z hu o5 yJ kn kc nn cc g1 (by omega) DY (by omega)
  rw[iU,<-fF]at da
  have mM:k'.ct.i=df ct.i+1:=by rw[<-dG,lH,<-iv]
  have jY:=uD ct.i
  have TL:nn.toNat<=cc.toNat:=by omega
  let Hn:List (Nat×Nat)->Value:=λp=>match p with| []=>.slice (some ⟨w.heap.size,0,none⟩) nn.toNat cc.toNat|_=>.slice none 0 0
  have lg:∀p,∃a n c,Hn p=.slice a n c:=λp=>by cases p<;>exact⟨_,_,_,rfl⟩
  rw[mM,<-dG,<-iv]
  refine bf.mono (M:=Mn M (df k3.ct.i) (df k3.ct.i+1)) ?_ (λi hi=>hi.imp_right λhi=>by rw[iv]at hi⊢;exact⟨by omega,hi.2⟩)
  refine JS (nb:=some w.heap.size) (f:=some) (Hn:=Hn) (lg:=lg) (w':=w.alloc (.cells (madeCells z.cells (cc.toNat*z.cells.size)) ti.el)) (k:={(k3.em .mk (n::m::zs)).1 with ct:=⟨(k3.em .mk (n::m::zs)).1.ct.a,df k3.ct.i⟩}) (W1:=[]) (t:=.l (List.replicate nn.toNat (zT te.zero)))
   h (show cG M B d up ρ G a w {(k3.em .mk (n::m::zs)).1 with ct:=⟨(k3.em .mk (n::m::zs)).1.ct.a,df k3.ct.i⟩} G from⟨pJ.rel,pJ.aF⟩) hn (hM _ (by show ct.i<=df k3.ct.i;rw[iv];exact jY) (by rw[mM];show df k3.ct.i<_;rw[iv];omega)) (λr=>by exact qm (k:=(k3.em .mk (n::m::zs)).1) r) (λr u hu=>by cases hu) (λl _=>rfl) (λl l' ⟨b,hb⟩ he=>by cases he;exact .inl (pJ.rel.fE b _ hb).1)
   (λl l' hq he=>by cases he;exact hq) (λc hc=>by cases hc;exact .inl rfl) (by simp) (λc hc=>by cases hc;simp) (λb hb _=>heap_alloc_old w _ b hb) (z_ _ _) rfl me ?_ (JR (x:=Instr.makeSlice t (a.eval x) (a.eval y)) (by unfold execOp;rw[ho]) (by rw[en,ec];exact da))
  have hlen:(List.replicate nn.toNat (zT te.zero)).length=nn.toNat:=by simp
  have hzT:(zT te.zero).length=z.cells.size:=by rw[ql];simp
  have pP:∀(ii j:Nat) (t:T),cP (List.replicate nn.toNat (zT te.zero)) ii j=some t->ii<nn.toNat∧j<z.cells.size∧∃v,z.cells[j]?=some v∧((t=.c v∧iY v=true)∨(t=.l []∧v=.slice none 0 0)):=by
   intro ii j t ht
   obtain⟨q1,q2⟩:=TH ht
   obtain⟨v,q3,q4⟩:=hza j t q2
   refine⟨q1,?_,v,by simpa using q3,q4⟩
   rw[<-hzT];exact(List.getElem?_eq_some_iff.1 q2).1
  refine .l (wd:=z.cells.size) (cv:=λ_ j=>z.cells.getD j undef) (by rw[hlen];simp[Gh.cd,Hn]) ⟨by rw[hlen];exact TL,λhe=>by have:=congrArg List.length he;simp at this;omega⟩ (by simp[Gh.cd]) (heap_alloc_new w _) ⟨size_madeCells _ _,.inl rfl⟩ (λr hr=>?_) ?_ ?_ (λ_ _ _ _ hf=>by cases hf) ?_ ?_
  ·rw[List.eq_of_mem_replicate hr];exact hzT
  ·intro ii j t ht
   obtain⟨q1,q2,v,q3,_⟩:=pP ii j t ht
   rw[JU q2 (by omega),q3]
   simp[Array.getD_eq_getD_getElem?,q3]
  ·intro ii j v ht
   obtain⟨q1,q2,u,q3,q4⟩:=pP ii j _ ht
   rcases q4 with⟨e1,e2⟩|⟨e1,_⟩
   ·cases e1
    exact⟨by simp[Array.getD_eq_getD_getElem?,q3],e2⟩
   ·cases e1
  ·intro ii j ys ht _
   obtain⟨q1,q2,u,q3,q4⟩:=pP ii j _ ht
   rcases q4 with⟨e1,e2⟩|⟨e1,e2⟩
   ·cases e1
   ·simp[Array.getD_eq_getD_getElem?,q3,e2,Gh.cd,Hn]
  ·intro ii j ys ht _
   obtain⟨q1,q2,u,q3,q4⟩:=pP ii j _ ht
   rcases q4 with⟨e1,e2⟩|⟨e1,e2⟩
   ·cases e1
   ·cases e1
    exact .nil (by simp[Gh.cd,Hn])
theorem TM{t r:T}(h:Prim.ev .aR [t]=some r):∃x:ByteArray,t=.c (.string x)∧0<x.size∧r=.l (x.data.toList.map λb=>[.c (.int .u8 (b.toNat:Int))]):=by
 cases t with
 |l _=>simp[Prim.ev]at h
 |c v=>
  cases v with
  |string x=>
   simp only[Prim.ev]at h
   split at h
   ·split at h
    ·simp only[aH]at h
     exact⟨x,rfl,by assumption,h.symm⟩
    ·cases h
   ·cases h
  |_=>simp[Prim.ev]at h
theorem TN(cQ:dg P cx)(h:Rel M B d up s ρ G a w)(hn:∀n,o.dst=some n->n<a.tmps.size){t1 t2:TypeId}{x:Operand}(ho:o.op=.convert t1 t2 x){r:Wk×SV}
  (hB:wz cx ⟨s.only R,[],ct,[]⟩ t1 t2 (bC d (Wk.get ⟨s.only R,[],ct,[]⟩) x)=some r)(hk:bn d o r.1 r.2=k')(hd:k'.aO S ρ)(hM:∀i,ct.i<=i->i<k'.ct.i->¬M i):bf P (Mn M ct.i k'.ct.i) B d up ρ a w s o k'.w Q:=by
 have hw:=cG.start h R ct
 unfold wz at hB
 simp only[bU]at hB
 obtain⟨si,Dz,ti,eh,te,mK,hB⟩:=hB
 cases hc:(Nat.beq ti.kd 3&&Nat.beq si.kd 2&&Nat.beq te.kd 1)with
 |false=>simp[hc]at hB
 |true=>
  simp only[hc,cond_true]at hB
  simp only[bd]at hc
  obtain⟨⟨vP,oI⟩,Q0⟩:=hc
  split at hB
  ·rename_i z0 Hh
   simp only[bU,aH]at hB
   obtain⟨⟨k1,y⟩,h1,rfl⟩:=hB
   have hT:=cQ.ty _ _ eh
   have hE:=cQ.ty _ _ mK
   have hu:=hT.sl (cO vP)
   have DZ:=(cQ.ty _ _ Dz).st (cO oI)
   have hue:=hE.ik (cO Q0) _ _ Hh
   have dG:bn d o {(k1.em .aR [y]).1.set (.o (df k1.ct.i)) (.ob true (k1.em .aR [y]).2)with ct:=⟨(k1.em .aR [y]).1.ct.a,df k1.ct.i+1⟩} (.v false [.o (df k1.ct.i) []])=k':=hk
   have gy:(k1.em .aR [y]).1.aO S ρ:=by
    rw[<-dG]at hd
    have h2:=bZ.1 hd
    exact h2
   obtain⟨tX,r,hr,me⟩:=Wk.be gy
   obtain⟨_,iZ,tx,hx,uW⟩:=Wk.eK hw h1 tX (hw.f_ x).1
   have pJ:=(hw.same iZ).same (Wk.aT k1 .aR [y])
   have iv:k1.ct.i=ct.i:=iZ.i
   simp only[List.map_cons,List.map_nil,Lf.a_ hx]at hr
   obtain⟨bs,rfl,Ah,rfl⟩:=TM hr
   obtain⟨ev,_⟩:=uW.scalar
   have da:=run_bytes_of_string (P:=P) w t1 t2 ti.el bs DZ hu hue
   have mM:k'.ct.i=df ct.i+1:=by rw[<-dG,lH,<-iv]
   have jY:=uD ct.i
   have Q3:=grownCap_ge w bs.size 0 ti.el
   generalize j3:grownCap w bs.size 0 ti.el=cap at da Q3
   have ry:(bytesRow bs cap).size=cap:=by
    have:bs.data.size=bs.size:=rfl
    unfold bytesRow
    simp only[Array.size_append,Array.size_map,Array.size_replicate]
    omega
   let Hn:List (Nat×Nat)->Value:=λp=>match p with| []=>.slice (some ⟨w.heap.size,0,none⟩) bs.size cap|_=>.slice none 0 0
   have lg:∀p,∃a n c,Hn p=.slice a n c:=λp=>by cases p<;>exact⟨_,_,_,rfl⟩
   rw[mM,<-dG,<-iv]
   refine bf.mono (M:=Mn M (df k1.ct.i) (df k1.ct.i+1)) ?_ (λi hi=>hi.imp_right λhi=>by rw[iv]at hi⊢;exact⟨by omega,hi.2⟩)
   refine JS (nb:=some w.heap.size) (f:=some) (Hn:=Hn) (lg:=lg) (w':=w.drew.alloc (.cells (bytesRow bs cap) ti.el ((bytesRow bs cap).size,(bytesRow bs cap).size+1))) (k:={(k1.em .aR [y]).1 with ct:=⟨(k1.em .aR [y]).1.ct.a,df k1.ct.i⟩}) (W1:=[]) (t:=.l (bs.data.toList.map λb=>[.c (.int .u8 (b.toNat:Int))]))
    h (show cG M B d up ρ G a w {(k1.em .aR [y]).1 with ct:=⟨(k1.em .aR [y]).1.ct.a,df k1.ct.i⟩} G from⟨pJ.rel,pJ.aF⟩) hn (hM _ (by show ct.i<=df k1.ct.i;rw[iv];exact jY) (by rw[mM];show df k1.ct.i<_;rw[iv];omega)) (λr=>by exact qm (k:=(k1.em .aR [y]).1) r) (λr u hu=>by cases hu) (λl _=>rfl) (λl l' ⟨b,hb⟩ he=>by cases he;exact .inl (pJ.rel.fE b _ hb).1)
    (λl l' hq he=>by cases he;exact hq) (λc hc=>by cases hc;exact .inl rfl) (by simp) (λc hc=>by cases hc;simp) (λb hb _=>heap_alloc_old w.drew _ b hb) ⟨rfl,rfl,rfl⟩ rfl me ?_ (JR (x:=convert t1 t2 (a.eval x)) (by unfold execOp;rw[ho]) (by rw[ev];exact da))
   have hlen:(bs.data.toList.map λb=>[T.c (.int .u8 (b.toNat:Int))]).length=bs.size:=by simp
   have pP:∀(ii j:Nat) (t:T),cP (bs.data.toList.map λb=>[T.c (.int .u8 (b.toNat:Int))]) ii j=some t->ii<bs.size∧j=0∧∃b:UInt8,bs.data.toList[ii]?=some b∧t=.c (.int .u8 (b.toNat:Int)):=by
    intro ii j t ht
    obtain⟨rr,q1,_,q3,q4,q5⟩:=qd ht
    rw[hlen]at q4
    rw[List.getElem?_map]at q1
    cases hb:bs.data.toList[ii]? with
    |none=>rw[hb]at q1;cases q1
    |some b=>
     rw[hb]at q1
     simp only[Option.map_some,aH]at q1
     subst q1
     have hj:j=0:=by simp only[List.length_cons,List.length_nil]at q5;omega
     subst hj
     simp only[List.getElem?_cons_zero,aH]at q3
     exact⟨q4,rfl,b,rfl,q3.symm⟩
   refine .l (wd:=1) (cap:=cap) (cv:=λii _=>(bytesRow bs cap).getD ii undef) (by rw[hlen];simp[Gh.cd,Hn]) ⟨by rw[hlen];exact Q3,λhe=>by rw[he]at hlen;exact absurd hlen (by simp only[List.length_nil];omega)⟩ (by simp[Gh.cd]) (heap_alloc_new w.drew _) ⟨by rw[ry,Nat.mul_one],.inr (Nat.le_refl _)⟩ (λr hr=>?_) ?_ ?_ (λ_ _ _ _ hf=>by cases hf) ?_ ?_
   ·obtain⟨b,_,rfl⟩:=List.mem_map.1 hr
    rfl
   ·intro ii j t ht
    obtain⟨q1,rfl,b,q3,rfl⟩:=pP ii j t ht
    have:ii<(bytesRow bs cap).size:=by omega
    simp[Array.getD_eq_getD_getElem?,this]
   ·intro ii j v ht
    obtain⟨q1,rfl,b,q3,q4⟩:=pP ii j _ ht
    cases q4
    refine⟨?_,rfl⟩
    have e1:(bytesRow bs cap)[ii]?=some (.int .u8 (b.toNat:Int)):=by
     unfold bytesRow
     rw[Array.getElem?_append_left (by simpa using q1),Array.getElem?_map]
     rw[<-Array.getElem?_toList,q3]
     rfl
    simp[Array.getD_eq_getD_getElem?,e1]
   ·intro ii j ys ht _
    obtain⟨q1,rfl,b,q3,q4⟩:=pP ii j _ ht
    cases q4
   ·intro ii j ys ht _
    obtain⟨q1,rfl,b,q3,q4⟩:=pP ii j _ ht
    cases q4
  ·cases hB
end
theorem dx.move{G:Gh}{w:World}{id:Nat}{p:List (Nat×Nat)}{t:T}{dp:Bool}(h:dx G w id dp p t)(eV:dp=true){G':Gh}{w':World}{sw:Nat}{p':List (Nat×Nat)}
  (fA:∀c r,G.ω c=some (.o id (p++r))->G'.ω c=some (.o sw (p'++r))∧w'.heap[c]?=w.heap[c]?)(hH:∀r,G'.H sw (p'++r)=G.H id (p++r)):dx G' w' sw dp p' t:=by
 induction h generalizing p' with
 |nil h=>exact .nil (by have:=hH [];simp only[List.append_nil]at this;rw[this];exact h)
 | @l dp p xs b wd cap aN elem fr cv h1 h2 h3 h4 h5 h6 h7 h8 h9 jI ru ih=>
  have hb:=fA b [] (by simpa using h3)
  simp only[List.append_nil]at hb
  have h0:=hH []
  simp only[List.append_nil]at h0
  refine .l (by rw[h0];exact h1) h2 hb.1 (hb.2.trans h4) h5 h6 h7 h8 (λi j ys hy hd=>by rw[eV]at hd;cases hd) (λi j ys hy hd=>by rw[hH [(i,j)]];exact jI i j ys hy hd) λi j ys hy hd=>?_
  refine ih i j ys hy hd rfl (p':=p'++[(i,j)]) (λc r hc=>?_) λr=>?_
  ·have:=fA c ((i,j)::r) (by simpa using hc)
   simpa using this
  ·have:=hH ((i,j)::r)
   simpa using this
structure oJ (G:Gh) (w:World) (id:Nat) (dp:Bool) (sz n0:Nat) (xs:List (List T)) (cv:Nat->Nat->Value):Prop where
 wd:∀r∈xs,r.length=sz
 sc:∀i j v,cP xs i j=some (.c v)->cv i j=v∧iY v=true
 pl:∀i j ys,cP xs i j=some (.l ys)->dp=false->dF G.q w (.l ys) (cv i j)
 hd:∀i j ys,cP xs i j=some (.l ys)->dp=true->cv i j=G.H id [(n0+i,j)]
 ow:∀i j ys,cP xs i j=some (.l ys)->dp=true->dx G w id true [(n0+i,j)] (.l ys)
theorem D0{xs ys:List (List T)}{i j:Nat}{t:T}(h:cP (xs++ys) i j=some t):
  (i<xs.length∧cP xs i j=some t)∨(xs.length<=i∧cP ys (i-xs.length) j=some t):=by
 unfold cP at h⊢
 by_cases hi:i<xs.length
 ·rw[List.getElem?_append_left hi]at h;exact .inl ⟨hi,h⟩
 ·rw[List.getElem?_append_right (by omega)]at h;exact .inr ⟨by omega,h⟩
theorem oJ.join{G:Gh}{w:World}{id:Nat}{dp:Bool}{sz:Nat}{xs ys:List (List T)}{cv qn:Nat->Nat->Value}(hx:oJ G w id dp sz 0 xs cv)(hy:oJ G w id dp sz xs.length ys qn)
  {b cap:Nat}{aN:Array Value}{elem:TypeId}{fr:Nat×Nat}(hH:G.H id []=.slice (some ⟨b,0,none⟩) (xs.length+ys.length) cap)(hc:xs.length+ys.length<=cap∧(xs++ys=[]->cap=0))(fA:G.ω b=some (.o id []))
  (hh:w.heap[b]?=some (.cells aN elem fr))(hs:aN.size=cap*sz∧qa fr aN.size)(h1:∀i j,i<xs.length->j<sz->aN[i*sz+j]?=some (cv i j))
  (h2:∀i j,i<ys.length->j<sz->aN[(xs.length+i)*sz+j]?=some (qn i j)):dx G w id dp [] (.l (xs++ys)):=by
 have lx:∀{i j:Nat} {t:T},cP xs i j=some t->i<xs.length∧j<sz:=by
  intro i j t ht
  obtain⟨r,_,hm,_,q1,q2⟩:=qd ht
  exact⟨q1,by rw[<-hx.wd r hm];exact q2⟩
 have ly:∀{i j:Nat} {t:T},cP ys i j=some t->i<ys.length∧j<sz:=by
  intro i j t ht
  obtain⟨r,_,hm,_,q1,q2⟩:=qd ht
  exact⟨q1,by rw[<-hy.wd r hm];exact q2⟩
 let c:Nat->Nat->Value:=λi j=>if i<xs.length then cv i j else qn (i-xs.length) j
 refine .l (cv:=c) (by rw[List.length_append];exact hH) (by rw[List.length_append];exact hc) fA hh hs (λr hr=>?_) ?_ ?_ ?_ ?_ ?_
 ·rcases List.mem_append.1 hr with hr|hr
  ·exact hx.wd r hr
  ·exact hy.wd r hr
 ·intro i j t ht
  rcases D0 ht with⟨q,ht⟩|⟨q,ht⟩
  ·simp only[c,if_pos q];exact h1 i j q (lx ht).2
  ·have:=h2 (i-xs.length) j (ly ht).1 (ly ht).2
   rw[show xs.length+(i-xs.length)=i by omega]at this
   simp only[c,if_neg (show¬i<xs.length by omega)];exact this
 ·intro i j v ht
  rcases D0 ht with⟨q,ht⟩|⟨q,ht⟩
  ·simp only[c,if_pos q];exact hx.sc i j v ht
  ·simp only[c,if_neg (show¬i<xs.length by omega)];exact hy.sc _ j v ht
 ·intro i j zs ht hd
  rcases D0 ht with⟨q,ht⟩|⟨q,ht⟩
  ·simp only[c,if_pos q];exact hx.pl i j zs ht hd
  ·simp only[c,if_neg (show¬i<xs.length by omega)];exact hy.pl _ j zs ht hd
 ·intro i j zs ht hd
  rcases D0 ht with⟨q,ht⟩|⟨q,ht⟩
  ·simp only[c,if_pos q];have:=hx.hd i j zs ht hd;simpa using this
  ·have:=hy.hd _ j zs ht hd
   rw[show xs.length+(i-xs.length)=i by omega]at this
   simp only[c,if_neg (show¬i<xs.length by omega)];simpa using this
 ·intro i j zs ht hd
  rcases D0 ht with⟨q,ht⟩|⟨q,ht⟩
  ·have:=hx.ow i j zs ht hd;simpa using this
  ·have:=hy.ow _ j zs ht hd
   rw[show xs.length+(i-xs.length)=i by omega]at this
   simpa using this
def pQ(cv:Nat->Nat->Value)(sz m:Nat):List Value:=(List.range (m*sz)).map λk=>cv (k/sz) (k%sz)
theorem vT(cv:Nat->Nat->Value)(sz m:Nat):(pQ cv sz m).length=m*sz:=by simp[pQ]
theorem JV{cv:Nat->Nat->Value}{sz m i j:Nat}(hi:i<m)(hj:j<sz):(pQ cv sz m)[i*sz+j]?=some (cv i j):=by
 have bI:i*sz+j<m*sz:=by
  have:(i+1)*sz<=m*sz:=Nat.mul_le_mul_right _ hi
  rw[Nat.add_mul]at this
  omega
 have h1:(i*sz+j)/sz=i:=by rw[Nat.add_comm,Nat.add_mul_div_right _ _ (by omega),Nat.div_eq_of_lt hj];omega
 have h2:(i*sz+j)%sz=j:=by rw[Nat.add_comm,Nat.add_mul_mod_self_right,Nat.mod_eq_of_lt hj]
 simp[pQ,bI,h1,h2]
theorem TO{cv:Nat->Nat->Value}{sz m:Nat}{v:Value}(fF:0<sz)(h:v∈pQ cv sz m):∃i j,i<m∧j<sz∧v=cv i j:=by
 simp only[pQ,List.mem_map,List.mem_range]at h
 obtain⟨k,hk,rfl⟩:=h
 exact⟨k/sz,k%sz,Nat.div_lt_of_lt_mul (by rw[Nat.mul_comm];exact hk),Nat.mod_lt _ fF,rfl⟩
section
variable {ρ:List T} {w:World} {P:Program}
theorem TP{sz wd:Nat}{xs:List (List T)}(hw:∀r∈xs,r.length=wd)(dP:okW sz xs=true):∀r∈xs,r.length=sz:=by
 intro r hr
 cases xs with
 |nil=>cases hr
 |cons x xs=>
  have h1:=hw x (by simp)
  have h2:=cO dP
  rw[hw r hr,<-h1,h2]
theorem Ai{xs:List (List T)}{sz i j:Nat}(hw:∀r∈xs,r.length=sz)(hi:i<xs.length)(hj:j<sz):∃t,cP xs i j=some t:=by
 have hr:=List.getElem?_eq_getElem hi
 have hl:=hw xs[i] (List.getElem_mem hi)
 exact⟨xs[i][j],by simp[cP,hr,List.getElem?_eq_getElem (show j<xs[i].length by omega)]⟩
theorem D1{ω:Nat->Option Lb}{ys:List (List T)}{v:Value}(h:dF ω w (.l ys) v){sz:Nat}(fF:0<sz)(dP:okW sz ys=true){tx e':TypeId}(ht:P.underlying tx=some (.slice e')):
  ∃cv:Nat->Nat->Value,Src P sz tx v ys.length (pQ cv sz ys.length) w∧(∀r∈ys,r.length=sz)∧(∀i j t,cP ys i j=some t->dF ω w t (cv i j))∧
   (∀b off n cap,v=.slice (some ⟨b,off,none⟩) n cap->∀i j t,cP ys i j=some t->w.cell? ⟨b,off+(i*sz+j),none⟩=some (cv i j)):=by
 cases h with
 |nil=>
  rename_i ao cap
  refine⟨λ_ _=>undef,?_,(λr hr=>by cases hr),(λi j t h=>by simp[cP]at h),λ_ _ _ _ _ i j t h=>by simp[cP]at h⟩
  have e0:pQ (λ_ _=>undef) sz ([]:List (List T)).length=[]:=by simp[pQ]
  rw[e0]
  cases ao with
  |none=>exact Src.ofNil w ht cap
  |some ad=>exact Src.ofSlice w ht ad 0 cap [] (by simp) (λj u hu=>by simp at hu) λu hu=>by cases hu
 | @l _ b off wd cap cv hw hc hb bI h1 h2=>
  have Hl:=TP hw dP
  have rD:ys=[]∨wd=sz:=by
   cases ys with
   |nil=>exact .inl rfl
   |cons y ys=>exact .inr ((hw y (by simp)).symm.trans (Hl y (by simp)))
  have oG:∀i j t,cP ys i j=some t->w.cell? ⟨b,off+(i*sz+j),none⟩=some (cv i j):=by
   intro i j t aS
   rcases rD with rfl|rfl
   ·simp[cP]at aS
   ·exact h1 i j t aS
  refine⟨cv,Src.ofSlice w ht ⟨b,off,none⟩ ys.length cap _ (vT _ _ _) (λk u hu=>?_) (λu hu=>?_),Hl,h2,λb' S5 n' qk he=>by cases he;exact oG⟩
  ·have hk:k<ys.length*sz:=by rw[<-vT cv sz ys.length];exact(List.getElem?_eq_some_iff.1 hu).1
   have hi:k/sz<ys.length:=Nat.div_lt_of_lt_mul (by rw[Nat.mul_comm];exact hk)
   have hj:k%sz<sz:=Nat.mod_lt _ fF
   have o6:(k/sz)*sz+k%sz=k:=by rw[Nat.mul_comm];exact Nat.div_add_mod k sz
   obtain⟨t,aS⟩:=Ai Hl hi hj
   have:=JV (cv:=cv) hi hj
   rw[o6,hu]at this
   cases this
   have oI:=oG _ _ t aS
   rw[o6]at oI
   rw[Addr.add_lit]
   exact oI
  ·obtain⟨i,j,hi,hj,rfl⟩:=TO fF hu
   obtain⟨t,aS⟩:=Ai Hl hi hj
   exact(h2 i j t aS).one
end
section
variable {P:Program} {w:World}
theorem JW(b:Nat)(t:TypeId)(fr:Nat×Nat):∀(vs:List Value) (o:Nat) (w:World) (aN:Array Value),w.heap[b]?=some (.cells aN t fr)->
  (w.setCells b o vs).heap[b]?=some (.cells (uT vs o aN) t fr)∧(∀c,c≠b->(w.setCells b o vs).heap[c]?=w.heap[c]?)∧(w.setCells b o vs).heap.size=w.heap.size∧
   iw w (w.setCells b o vs)
 | [],o,w,aN,h=>⟨h,λ_ _=>rfl,rfl,⟨rfl,rfl,rfl⟩⟩
 |v::vs,o,w,aN,h=>by
  have h1:(w.setCell ⟨b,o,none⟩ v).heap[b]?=some (.cells (aN.setIfInBounds o v) t fr):=by rw[setCell_eq_setRow w b o aN t fr v h];exact setRow_heap w b aN _ t fr h
  obtain⟨g1,g2,g3,g4⟩:=JW b t fr vs (o+1) _ _ h1
  refine⟨g1,λc hc=>(g2 c hc).trans (heap_setCell_other w ⟨b,o,none⟩ c v hc),?_,?_⟩
  ·rw[World.setCells,g3];simp
  ·exact⟨g4.os.trans rfl,g4.tape.trans rfl,g4.output.trans rfl⟩
def Aj(w:World)(sz:Nat)(v:Value)(n:Nat)(b0:Option Nat)(cv:Nat->Nat->Value):Prop:=
 (v=.slice none 0 0∧n=0∧b0=none)∨∃b cap aN elem fr,v=.slice (some ⟨b,0,none⟩) n cap∧b0=some b∧w.heap[b]?=some (.cells aN elem fr)∧(aN.size=cap*sz∧qa fr aN.size)∧n<=cap∧(n=0->cap=0)∧
  ∀i j,i<n->j<sz->aN[i*sz+j]?=some (cv i j)
structure JX (w w':World) (sz:Nat) (v':Value) (n m:Nat) (b0 nb:Option Nat) (cv qn:Nat->Nat->Value):Prop where
 so:iw w w'
 size:w.heap.size<=w'.heap.size
 Ak:∀c,c<w.heap.size->nb≠some c->w'.heap[c]?=w.heap[c]?
 at_:∀c,nb=some c->(c=w.heap.size∨b0=some c)∧c<w'.heap.size
 len:∀c,b0=some c->nb=some c->∀aN elem z,w.heap[c]?=some (.cells aN elem z)->∃gI w7 TQ,w'.heap[c]?=some (.cells gI w7 TQ)∧gI.size=aN.size
 row:(nb=none∧v'=.slice none 0 0∧n=0∧m=0)∨∃b cap aN elem fr,nb=some b∧v'=.slice (some ⟨b,0,none⟩) (n+m) cap∧w'.heap[b]?=some (.cells aN elem fr)∧(aN.size=cap*sz∧qa fr aN.size)∧n+m<=cap∧(n+m=0->cap=0)∧
  (∀i j,i<n->j<sz->aN[i*sz+j]?=some (cv i j))∧∀i j,i<m->j<sz->aN[(n+i)*sz+j]?=some (qn i j)
theorem w8{i n j sz:Nat}(hi:i<n)(hj:j<sz):i*sz+j<n*sz:=by
 have:(i+1)*sz<=n*sz:=Nat.mul_le_mul_right _ hi
 rw[Nat.add_mul]at this
 omega
theorem TR{aN:Array Value}{sz n:Nat}{cv:Nat->Nat->Value}(fF:0<sz)(h:∀i j,i<n->j<sz->aN[i*sz+j]?=some (cv i j)){k:Nat}{u:Value}(hu:(pQ cv sz n)[k]?=some u):aN[k]?=some u:=by
 have hk:k<n*sz:=by rw[<-vT cv sz n];exact(List.getElem?_eq_some_iff.1 hu).1
 have hi:k/sz<n:=Nat.div_lt_of_lt_mul (by rw[Nat.mul_comm];exact hk)
 have hj:k%sz<sz:=Nat.mod_lt _ fF
 have o6:(k/sz)*sz+k%sz=k:=by rw[Nat.mul_comm];exact Nat.div_add_mod k sz
 have h1:=JV (cv:=cv) hi hj
 rw[o6,hu]at h1
 cases h1
 have h2:=h _ _ hi hj
 rw[o6]at h2
 exact h2
theorem JY{t tx ty e:TypeId}{i:TypeInfo}{z:Value}(ht:P.underlying t=some (.slice e))(hi:P.info? e=some i)(hz:i.zero=some z){sz:Nat}(hs:i.size=sz)(uX:z.cells.size=sz)(fF:0<sz)
  (Al:i.bytes<=32768){va vb:Value}{n m:Nat}{b0:Option Nat}{cv qn:Nat->Nat->Value}(hr:Aj w sz va n b0 cv)(mZ:Src P sz tx vb m (pQ qn sz m) w)(j3:n+m<tQ):
  ∃v' w' nb,(Builtin.append_ #[t,tx] ty #[va,vb]).run P w=.ok v' w'∧JX w w' sz v' n m b0 nb cv qn:=by
 subst hs
 have agk:n+m<4294967296:=j3
 have grown:∀(base:Option Addr) (sY:Nat),(Builtin.firstCells i.size n (.slice base n sY)).run P w.drew=.ok (pQ cv i.size n).toArray w.drew->sY<n+m->
   ∃v' w' nb,(Builtin.append_ #[t,tx] ty #[.slice base n sY,vb]).run P w=.ok v' w'∧JX w w' i.size v' n m b0 nb cv qn:=by
  intro base sY hold bI
  have jZ:Builtin.nextslicecap (n+m) sY*i.bytes<=281474976710656:=growslice_fits (by omega) (by
   calc (n+m)*i.bytes<=4294967296*32768:=Nat.mul_le_mul (by omega) Al
    _=140737488355328:=by rfl)
  have da:=run_append_grow_src (P:=P) w t tx ty e i z ht hi hz base n sY _ hold vb m _ mZ bI (by omega) jZ
  refine⟨_,_,some w.heap.size,da,⟨⟨rfl,rfl,rfl⟩,by simp,λc hc _=>heap_alloc_old w.drew _ c hc,λc hc=>by cases hc;exact⟨.inl rfl,by simp⟩,λc _ hc aN elem z hh=>(by cases hc;simp at hh),.inr ⟨w.heap.size,_,_,e,(0,0),rfl,rfl,heap_alloc_new w.drew _,⟨?_,.inl rfl⟩,grownCap_ge w _ _ _,λh0=>by omega,?_,?_⟩⟩⟩
  ·have Q3:=grownCap_ge w (n+m) sY e
   simp only[Array.size_append,List.size_toArray,List.length_append,vT,size_zeroCells,uX,<-Nat.add_mul]
   congr 1
   omega
  ·intro ii j qe hj
   have rE:=w8 qe hj
   rw[Array.getElem?_append_left (by simp only[List.size_toArray,List.length_append,vT];omega),List.getElem?_toArray,List.getElem?_append_left (by rw[vT];exact rE)]
   exact JV qe hj
  ·intro ii j qe hj
   have rE:=w8 qe hj
   have e1:(n+ii)*i.size+j=n*i.size+(ii*i.size+j):=by rw[Nat.add_mul];omega
   rw[Array.getElem?_append_left (by simp only[List.size_toArray,List.length_append,vT];omega),List.getElem?_toArray,List.getElem?_append_right (by rw[vT];omega),vT,
    show(n+ii)*i.size+j-n*i.size=ii*i.size+j by omega]
   exact JV qe hj
 rcases hr with⟨rfl,rfl,rfl⟩|⟨b,cap,aN,elem,fr,rfl,rfl,hb,⟨rF,Ad⟩,TL,uS,qi⟩
 ·by_cases hm:m=0
  ·subst hm
   refine⟨.slice none 0 0,w,none,?_,⟨⟨rfl,rfl,rfl⟩,Nat.le_refl _,λ_ _ _=>rfl,(λc hc=>by cases hc),(λc _ hc=>by cases hc),.inl ⟨rfl,rfl,rfl,rfl⟩⟩⟩
   rcases mZ.kind with⟨e',hk⟩|hk<;>simp[Builtin.append_,run_underlying ht,run_underlying hk,sizeOf,typeInfo,hi,mZ.len,mZ.cells]
  ·refine grown none 0 ?_ (by omega)
   have:=run_firstCells_none (P:=P) w.drew i.size 0 0 0
   simpa[pQ]using this
 ·by_cases oK:n+m<=cap
  ·have Cq:n*i.size+(pQ qn i.size m).length<=aN.size:=by rw[vT,rF,<-Nat.add_mul];exact Nat.mul_le_mul_right _ oK
   have da:=run_append_room_src (P:=P) w t tx ty e i ht hi b 0 n cap vb m _ mZ oK (λj hj=>by
    rw[sq hb];simp only[Nat.zero_add];rw[Array.getElem?_eq_getElem (by omega)];rfl) (λj hj=>JF Ad hb (by omega))
   obtain⟨g1,g2,g3,g4⟩:=JW b elem fr (pQ qn i.size m) (0+n*i.size) w aN hb
   have TS:b<w.heap.size:=Ca hb
   refine⟨_,_,some b,da,⟨g4,by rw[g3];exact Nat.le_refl _,λc _ hc=>g2 c λe=>hc (by rw[e]),λc hc=>by cases hc;exact⟨.inr rfl,by rw[g3];exact TS⟩,λc _ hc Tk JC z2 hh=>(by cases hc;rw[hb]at hh;cases hh;exact⟨_,_,_,g1,Cg _ _ _⟩),.inr ⟨b,cap,_,elem,fr,rfl,rfl,g1,⟨?_,by rw[Cg];exact Ad⟩,oK,λh0=>uS (by omega),?_,?_⟩⟩⟩
   ·rw[Cg];exact rF
   ·intro ii j qe hj
    have rE:=w8 qe hj
    rw[Hi _ _ _ _ (by simpa using Cq),if_neg (by omega)]
    exact qi ii j qe hj
   ·intro ii j qe hj
    have rE:=w8 qe hj
    have e1:(n+ii)*i.size+j=n*i.size+(ii*i.size+j):=by rw[Nat.add_mul];omega
    rw[Hi _ _ _ _ (by simpa using Cq),if_pos ⟨by omega,by rw[vT];omega⟩,show(n+ii)*i.size+j-(0+n*i.size)=ii*i.size+j by omega]
    exact JV qe hj
  ·refine grown (some ⟨b,0,none⟩) cap ?_ (by omega)
   have:=run_firstCells_some (P:=P) w.drew i.size n ⟨b,0,none⟩ n cap (pQ cv i.size n) (vT _ _ _) (λj u hu=>by
    rw[Addr.add_lit]
    simp only[Nat.zero_add,World.cell?_drew]
    rw[sq hb]
    exact TR fF qi hu)
   exact this
end
section
variable {M:Nat->Prop} {B:dE} {d:Nat} {up:Nat->Nat->Value} {ρ:List T} {G:Gh} {a:Act} {w:World} {S:Nat->ai} {P:Program}
def jJ(kA kx:Wk)(W:St):Prop:=kA.r=kx.r∧∀r,kA.w.look r=(W.look r).or (kx.w.look r)
theorem TT{k kA:Wk}{G1:Gh}{X:SV}{va:Value}{la:Lf}{Cr jA:Bool}(hk:cG M B d up ρ G a w k G1)(hr:ca G1 w ρ X va)(hm:∀i∈cD X,M i)(h:Da k X=some (kA,la,Cr))
  (eV:jA=true->Cr=true):kA.ct=k.ct∧kA.is=k.is∧∃kx G2 WA xs,cG M B d up ρ G a w kx G2∧kx.ct=k.ct∧jJ kA kx WA∧la.eE ρ=some (.l xs)∧
   ((va=.slice none 0 0∧xs=[]∧WA=[])∨∃jS,WA=[(.o jS,.un)]∧M jS∧jS%4≠2∧va=G2.H jS []∧dx G2 w jS jA [] (.l xs)):=by
 unfold Da at h
 split at h
 ·simp only[aH,Prod.mk.injEq]at h
  obtain⟨rfl,rfl,rfl⟩:=h
  obtain⟨e,he,n_,_⟩:=hr
  cases he
  exact⟨rfl,rfl,k,G1,[],[],hk,rfl,⟨rfl,λr=>by simp[St.look]⟩,rfl,.inl ⟨n_,rfl,rfl⟩⟩
 ·rename_i id
  split at h
  ·rename_i dp x hx
   cases qp:Nat.beq (id%4) 2 with
   |true=>simp[qp]at h
   |false=>
   have w9:id%4≠2:=λe=>by rw[e]at qp;cases qp
   simp only[qp,cond_false,aH,Prod.mk.injEq]at h
   obtain⟨rfl,rfl,rfl⟩:=h
   obtain⟨e,he,n_,_⟩:=hr
   cases he
   obtain⟨p,hp,Hm⟩:=n_
   simp only[lu,aH]at hp
   subst hp
   have hM:M id:=hm id (by simp[cD,cT])
   refine⟨rfl,rfl,?_⟩
   by_cases hd:jA=dp
   ·subst hd
    have c_:=hk.obj id
    rw[hx]at c_
    obtain⟨t,ht,aW⟩:=c_
    obtain⟨xs,rfl⟩:∃ys,t=.l ys:=by cases aW<;>exact⟨_,rfl⟩
    exact⟨k,G1,[(.o id,.un)],xs,hk,rfl,⟨rfl,λr=>qm r⟩,ht,.inr ⟨id,rfl,hM,w9,Hm,aW⟩⟩
   ·have e1:jA=false:=by cases jA<;>cases dp<;>simp_all
    subst e1
    have vS:k.flat id=some (k.set (.o id) (.ob false x)):=by unfold Wk.flat;rw[hx]
    obtain⟨G2,w2,f1,f2,f3,f4,f5⟩:=hk.flat vS
    have c_:=w2.obj id
    rw[Wk.bm]at c_
    obtain⟨t,ht,aW⟩:=c_
    obtain⟨xs,rfl⟩:∃ys,t=.l ys:=by cases aW<;>exact⟨_,rfl⟩
    refine⟨_,G2,[(.o id,.un)],xs,w2,f4,⟨rfl,λr=>?_⟩,ht,.inr ⟨id,rfl,hM,w9,by rw[f2];exact Hm,aW⟩⟩
    rw[show(k.set (.o id) .un).w.look r=_ from qm r,rB]
    by_cases o4:aK.o id=r
    ·subst o4;simp
    ·simp only[o4,if_false,Option.none_or]
     exact(St.bP _ _ o4).symm
  ·cases h
 ·cases h
def Am(G:Gh)(w:World)(jA:Bool)(lI:Option Nat)(ys:List (List T))(cv:Nat->Nat->Value):Prop:=
 (jA=false∧∀i j t,cP ys i j=some t->dF G.q w t (cv i j))∨
 ((∀i j t,cP ys i j=some t->cF t=true∧dF (er G.ω) w t (cv i j)))∨
 (∃id,jA=true∧lI=some id∧(∀i j zs,cP ys i j=some (.l zs)->dx G w id true [(i,j)] (.l zs))∧(∀i j v,cP ys i j=some (.c v)->cv i j=v∧iY v=true)∧∀i j zs,cP ys i j=some (.l zs)->cv i j=G.H id [(i,j)])
theorem jJ.get{kA kx:Wk}{W:St}(h:jJ kA kx W){r:aK}(hr:W.look r=none):kA.get r=kx.get r:=by
 unfold Wk.get
 rw[h.2,hr,h.1]
 simp
theorem dx.rows{G1:Gh}{id:Nat}{ys:List (List T)}(h:dx G1 w id true [] (.l ys)):∀i j zs,cP ys i j=some (.l zs)->dx G1 w id true [(i,j)] (.l zs):=by
 intro i j zs aS
 have:=dx.nC [(i,j)] h (by simp[gf,aS]) ⟨zs,rfl⟩
 simpa using this
theorem JZ{G1:Gh}{id:Nat}{dp:Bool}{ys:List (List T)}{v:Value}(h:dx G1 w id dp [] (.l ys))(hv:v=G1.H id []){sz:Nat}(fF:0<sz)(dP:okW sz ys=true){tx e':TypeId}(ht:P.underlying tx=some (.slice e')):
  ∃cv:Nat->Nat->Value,Src P sz tx v ys.length (pQ cv sz ys.length) w∧(∀r∈ys,r.length=sz)∧(∀i j v,cP ys i j=some (.c v)->cv i j=v∧iY v=true)∧
   (dp=true->∀i j zs,cP ys i j=some (.l zs)->cv i j=G1.H id [(i,j)])∧(dp=false->∀i j t,cP ys i j=some t->dF G1.q w t (cv i j)):=by
 have db:=h.den
 rw[<-hv]at db
 obtain⟨cv,h1,h2,h3,h4⟩:=D1 (P:=P) db fF dP ht
 refine⟨cv,h1,h2,λi j u aS=>?_,λhd i j zs aS=>?_,λhd i j t aS=>?_⟩
 ·exact(h3 i j _ aS).scalar
 ·cases h with
  |nil=>simp[cP]at aS
  | @l _ _ _ b wd cap aN elem fr qn g1 g2 g3 g4 g5 g6 g7 g8 g9 qU wQ=>
   have hc:=h4 b 0 _ _ (by rw[hv];exact g1) i j _ aS
   have mf:wd=sz:=by
    obtain⟨r,_,hm,_⟩:=qd aS
    rw[<-g6 r hm,h2 r hm]
   subst mf
   rw[sq g4,Nat.zero_add,g7 i j _ aS]at hc
   rw[<-Option.some.inj hc]
   simpa using qU i j zs aS hd
 ·cases h with
  |nil=>simp[cP]at aS
  | @l _ _ _ b wd cap aN elem fr qn g1 g2 g3 g4 g5 g6 g7 g8 g9 qU wQ=>
   have hc:=h4 b 0 _ _ (by rw[hv];exact g1) i j _ aS
   have mf:wd=sz:=by
    obtain⟨r,_,hm,_⟩:=qd aS
    rw[<-g6 r hm,h2 r hm]
   subst mf
   rw[sq g4,Nat.zero_add,g7 i j _ aS]at hc
   rw[<-Option.some.inj hc]
   cases t with
   |c u=>obtain⟨e1,e2⟩:=g8 i j u aS;rw[e1];exact .c e2
   |l zs=>exact g9 i j zs aS hd
theorem jJ.same{kA kx kB:Wk}{W:St}(h:jJ kA kx W)(hs:kA.dL kB):jJ kB kx W:=⟨hs.r.trans h.1,λr=>by rw[hs.w];exact h.2 r⟩
theorem TU{kA kB:Wk}{Y:SV}{lb:Lf}{sl fz yK:Bool}(h:wx sl fz kA Y=some (kB,lb,yK))(hd:kB.aO S ρ):kA.aO S ρ:=by
 unfold wx at h
 split at h
 ·simp only[aH,Prod.mk.injEq]at h;rw[h.1];exact hd
 ·simp only[aH,Prod.mk.injEq]at h;rw[h.1];exact hd
 ·cases qu:sl with
  |false=>
   simp only[qu,cond_false,bU,aH,Prod.mk.injEq]at h
   obtain⟨⟨k2,x2⟩,hv,rfl,_⟩:=h
   exact Wk.lc hv hd
  |true=>
   simp only[qu,cond_true]at h
   split at h
   ·rename_i dp x hx
    cases hc:(dp&& !fz)with
    |true=>simp only[hc,cond_true,aH,Prod.mk.injEq]at h;rw[<-h.1]at hd;exact hd
    |false=>simp only[hc,cond_false,aH,Prod.mk.injEq]at h;rw[<-h.1]at hd;exact hd
   ·simp only[aH,Prod.mk.injEq]at h;rw[h.1];exact hd
   ·cases qY:fz with
    |true=>simp[qY]at h
    |false=>simp only[qY,cond_false,aH,Prod.mk.injEq]at h;rw[<-h.1]at hd;exact hd
   ·cases h
 ·cases h
theorem TV{kA kB kx:Wk}{G1:Gh}{WA:St}{Y:SV}{vb:Value}{lb:Lf}{sl fz yK jA:Bool}(hk:cG M B d up ρ G a w kx G1)(ho:jJ kA kx WA)(rG:∀r u,WA.look r=some u->u=.un)
  (hr:ca G1 w ρ Y vb)(hm:∀i∈cD Y,M i)(h:wx sl fz kA Y=some (kB,lb,yK))(hd:kB.aO S ρ)(eV:jA=true->yK=true):
  kA.aO S ρ∧kB.ct.i=kA.ct.i∧∃ky G3 WB t lI,cG M B d up ρ G a w ky G3∧jJ kB ky (WB++WA)∧((WB=[]∧lI=none)∨∃i,lI=some i∧WB=[(.o i,.un)]∧WA.look (.o i)=none∧M i)∧
   lb.eE ρ=some t∧G3.H=G1.H∧cJ (λl=>∃i p,l=.o i p∧WA.look (.o i)=none) (λ_=>False) G1 w G3 w∧(∀i p,∀b,G3.ω b=some (.o i p)->G1.ω b=some (.o i p))∧
   ∀ys sz tx e',t=.l ys->0<sz->okW sz ys=true->(sl=false->ys.all (·.all cF)=true)->P.underlying tx=some (.slice e')->
    ∃cv,Src P sz tx vb ys.length (pQ cv sz ys.length) w∧(∀r∈ys,r.length=sz)∧Am G3 w jA lI ys cv:=by
 have stay:cJ (λl=>∃i p,l=.o i p∧WA.look (.o i)=none) (λ_=>False) G1 w G1 w:=(cJ.refl G1 w).mono (λ_ hf=>hf.elim) λ_ hf=>hf
 have rH:∀ys:List (List T),ys.all (·.all cF)=true->∀i j t,cP ys i j=some t->cF t=true:=by
  intro ys hs i j t aS
  obtain⟨r,_,il,Cn,_⟩:=qd aS
  exact List.all_eq_true.1 (List.all_eq_true.1 hs r il) t (List.mem_of_getElem? Cn)
 unfold wx at h
 split at h
 ·
  simp only[aH,Prod.mk.injEq]at h
  obtain⟨rfl,rfl,rfl⟩:=h
  obtain⟨e,he,n_,_⟩:=hr
  cases he
  refine⟨hd,rfl,kx,G1,[],.l [],none,hk,ho,.inl ⟨rfl,rfl⟩,rfl,rfl,stay,λ_ _ _ h=>h,λys sz tx e' ht fF dP _ im=>?_⟩
  cases ht
  rw[show vb=_ from n_]
  obtain⟨cv,h1,h2,_,_⟩:=D1 (P:=P) (.nil:dF G1.q w (.l []) (.slice none 0 0)) fF dP im
  exact⟨cv,h1,h2,.inr (.inl λi j t aS=>by simp[cP]at aS)⟩
 ·
  simp only[aH,Prod.mk.injEq]at h
  obtain⟨rfl,rfl,rfl⟩:=h
  obtain⟨e,he,n_,_⟩:=hr
  cases he
  obtain⟨t,ht,db⟩:=n_
  refine⟨hd,rfl,kx,G1,[],t,none,hk,ho,.inl ⟨rfl,rfl⟩,ht,rfl,stay,λ_ _ _ h=>h,λys sz tx e' ht fF dP lA im=>?_⟩
  subst ht
  obtain⟨cv,h1,h2,h3,_⟩:=D1 (P:=P) db fF dP im
  refine⟨cv,h1,h2,?_⟩
  cases hb:jA with
  |false=>exact .inl ⟨rfl,h3⟩
  |true=>
   have:=eV hb
   have qu:sl=false:=by simpa using this
   exact .inr (.inl λi j t aS=>⟨rH ys (lA qu) i j t aS,(h3 i j t aS).er⟩)
 ·
  rename_i id q
  obtain⟨e,he,n_,_⟩:=hr
  cases he
  have Ho:M id:=hm id (by simp[cD,cT])
  cases qu:sl with
  |false=>
   simp only[qu,cond_false,bU,aH,Prod.mk.injEq]at h
   obtain⟨⟨k2,x2⟩,hv,rfl,rfl,rfl⟩:=h
   have cN:WA.look (.o id)=none:=by
    cases hl:WA.look (.o id)with
    |none=>rfl
    |some u=>
     exfalso
     have hu:=rG _ _ hl
     subst hu
     have:kA.get (.o id)=.un:=by unfold Wk.get;rw[ho.2,hl];simp
     simp[Wk.val,this]at hv
   obtain⟨t,ht,db⟩:=Wk.jW hv hd n_ λi hi=>by
    simp[cT]at hi
    subst hi
    rw[ho.get cN]
    exact hk.obj i
   refine⟨Wk.lc hv hd,(Wk.cX hv).i,kx,G1,[],t,none,hk,ho.same (Wk.cX hv),.inl ⟨rfl,rfl⟩,ht,rfl,stay,λ_ _ _ h=>h,λys sz tx e' ht fF dP lA im=>?_⟩
   subst ht
   obtain⟨cv,h1,h2,h3,_⟩:=D1 (P:=P) db fF dP im
   exact⟨cv,h1,h2,.inr (.inl λi j t aS=>⟨rH ys (lA rfl) i j t aS,h3 i j t aS⟩)⟩
  |true=>
   simp only[qu,cond_true]at h
   have cN:kA.get (.o id)≠.un->WA.look (.o id)=none:=by
    intro cW
    cases hl:WA.look (.o id)with
    |none=>rfl
    |some u=>
     exfalso
     have hu:=rG _ _ hl
     subst hu
     exact cW (by unfold Wk.get;rw[ho.2,hl];simp)
   obtain⟨p,hp,J0⟩:=n_
   split at h
   ·rename_i dp x hx
    have hn:=cN (by rw[hx];simp)
    simp only[lu,aH]at hp
    subst hp
    have J1:kx.get (.o id)=.ob dp x:=by rw[<-ho.get hn];exact hx
    have rI:jA=false->∃ky G3,ky=kx.set (.o id) (.ob false x)∧cG M B d up ρ G a w ky G3∧G3.H=G1.H∧cJ (λl=>∃i p,l=.o i p∧WA.look (.o i)=none) (λ_=>False) G1 w G3 w∧(∀i p,∀b,G3.ω b=some (.o i p)->G1.ω b=some (.o i p))∧
      ∃t,x.eE ρ=some t∧∀ys sz tx e',t=.l ys->0<sz->okW sz ys=true->P.underlying tx=some (.slice e')->∃cv,Src P sz tx vb ys.length (pQ cv sz ys.length) w∧(∀r∈ys,r.length=sz)∧∀lI,Am G3 w jA lI ys cv:=by
     intro TW
     have hG:cG M B d up ρ G a w (kx.set (.o id) (.ob false x)) (G1.free id false):=by
      have hx3:=J1
      rw[Wk.aD]at hx3
      refine⟨(hk.rel.flat hx3).congr (Cc _ _ _ _),(hk.aF.mono (λl hl=>Cb hl) λ_ hn=>hn).trans ((G1.ek id false w).mono ?_ λ_ hn=>hn)⟩
      rintro l ⟨p,rfl⟩
      show(kx.w.set _ _).look (.o id)≠none
      rw[St.aJ];simp
     refine⟨_,G1.free id false,rfl,hG,rfl,(G1.ek id false w).mono (λl ⟨p,hp⟩=>⟨id,p,hp,hn⟩) (λ_ hf=>hf),λi p b hb=>?_,?_⟩
     ·simp only[Gh.free]at hb
      split at hb
      ·split at hb
       ·cases hb
       ·rename_i hw _;rw[hw];exact hb
      ·exact hb
     ·have c_:=hG.obj id
      rw[Wk.bm]at c_
      obtain⟨t,ht,aW⟩:=c_
      refine⟨t,ht,λys sz tx e' mV fF dP im=>?_⟩
      subst mV
      obtain⟨cv,h1,h2,_,_,h5⟩:=JZ (P:=P) aW J0 fF dP im
      exact⟨cv,h1,h2,λ_=>.inl ⟨TW,h5 rfl⟩⟩
    cases hc:(dp&& !fz)with
    |true=>
     simp only[hc,cond_true,aH,Prod.mk.injEq]at h
     obtain⟨rfl,rfl,rfl⟩:=h
     simp only[bd]at hc
     cases Cs:jA with
     |false=>
      obtain⟨ky,G3,rfl,w3,e3,kp,e4,t,ht,mZ⟩:=rI Cs
      refine⟨hd,rfl,_,G3,[(.o id,.un)],t,some id,w3,⟨ho.1,λr=>?_⟩,.inr ⟨id,rfl,rfl,hn,Ho⟩,ht,e3,kp,e4,λys sz tx e' mV fF dP _ im=>?_⟩
      ·rw[show(kA.set (.o id) .un).w.look r=_ from qm r,jz,rB,ho.2]
       by_cases o4:aK.o id=r
       ·subst o4;simp
       ·simp only[o4,if_false,Option.none_or]
        rw[show(kx.set (.o id) (.ob false x)).w.look r=_ from St.bP _ _ o4]
      ·obtain⟨cv,h1,h2,h3⟩:=mZ ys sz tx e' mV fF dP im
       rw[<-Cs]
       exact⟨cv,h1,h2,h3 _⟩
     |true=>
      have c_:=hk.obj id
      rw[J1,hc.1]at c_
      obtain⟨t,ht,aW⟩:=c_
      refine⟨hd,rfl,kx,G1,[(.o id,.un)],t,some id,hk,⟨ho.1,λr=>?_⟩,.inr ⟨id,rfl,rfl,hn,Ho⟩,ht,rfl,stay,λ_ _ _ h=>h,λys sz tx e' mV fF dP _ im=>?_⟩
      ·rw[show(kA.set (.o id) .un).w.look r=_ from qm r,jz,ho.2,Option.or_assoc]
      ·subst mV
       obtain⟨cv,h1,h2,h3,h4,_⟩:=JZ (P:=P) aW J0 fF dP im
       exact⟨cv,h1,h2,.inr (.inr ⟨id,rfl,rfl,aW.rows,h3,h4 rfl⟩)⟩
    |false=>
     simp only[hc,cond_false,aH,Prod.mk.injEq]at h
     obtain⟨rfl,rfl,rfl⟩:=h
     have Cs:jA=false:=by cases jA with|false=>rfl|true=>exact absurd (eV rfl) (by simp)
     obtain⟨ky,G3,rfl,w3,e3,kp,e4,t,ht,mZ⟩:=rI Cs
     refine⟨hd,rfl,_,G3,[],t,none,w3,⟨ho.1,λr=>?_⟩,.inl ⟨rfl,rfl⟩,ht,e3,kp,e4,λys sz tx e' mV fF dP _ im=>?_⟩
     ·by_cases o4:aK.o id=r
      ·subst o4
       rw[show(kA.set (.o id) (.ob false x)).w.look (.o id)=_ from St.aJ _ _ _,List.nil_append,hn]
       simp only[Option.none_or]
       exact(St.aJ _ _ _).symm
      ·rw[show(kA.set (.o id) (.ob false x)).w.look r=_ from St.bP _ _ o4,ho.2,List.nil_append,show(kx.set (.o id) (.ob false x)).w.look r=_ from St.bP _ _ o4]
     ·obtain⟨cv,h1,h2,h3⟩:=mZ ys sz tx e' mV fF dP im
      exact⟨cv,h1,h2,h3 _⟩
   ·rename_i x hx
    have hn:=cN (by rw[hx];simp)
    simp only[lu,aH]at hp
    subst hp
    simp only[aH,Prod.mk.injEq]at h
    obtain⟨rfl,rfl,rfl⟩:=h
    have Cs:jA=false:=by cases jA with|false=>rfl|true=>exact absurd (eV rfl) (by simp)
    have c_:=hk.obj id
    rw[<-ho.get hn,hx]at c_
    obtain⟨t,ht,db,_⟩:=c_
    refine⟨hd,rfl,kx,G1,[],t,none,hk,ho,.inl ⟨rfl,rfl⟩,ht,rfl,stay,λ_ _ _ h=>h,λys sz tx e' mV fF dP _ im=>?_⟩
    subst mV
    rw[<-J0]at db
    obtain⟨cv,h1,h2,h3,_⟩:=D1 (P:=P) db fF dP im
    exact⟨cv,h1,h2,.inl ⟨Cs,h3⟩⟩
   ·rename_i x hx
    have hn:=cN (by rw[hx];simp)
    simp only[lu,aH]at hp
    subst hp
    cases qY:fz with
    |true=>simp[qY]at h
    |false=>
     simp only[qY,cond_false,aH,Prod.mk.injEq]at h
     obtain⟨rfl,rfl,rfl⟩:=h
     have c_:=hk.obj id
     rw[<-ho.get hn,hx]at c_
     obtain⟨h40,ys,ht,db,rA,aW⟩:=c_
     refine⟨hd,rfl,kx,G1,[(.o id,.un)],_,some id,hk,⟨ho.1,λr=>?_⟩,.inr ⟨id,rfl,rfl,hn,Ho⟩,ht,rfl,stay,λ_ _ _ h=>h,λQT sz tx e' mV fF dP _ im=>?_⟩
     ·rw[show(kA.set (.o id) .un).w.look r=_ from qm r,jz,ho.2,Option.or_assoc]
     ·cases mV
      have mw:=db
      rw[<-J0]at mw
      obtain⟨cv,h1,h2,h3,h4⟩:=D1 (P:=P) mw fF dP im
      refine⟨cv,h1,h2,?_⟩
      cases hb:jA with
      |false=>exact .inl ⟨rfl,h3⟩
      |true=>
       refine .inr (.inr ⟨id,rfl,rfl,aW,λi j v aS=>(h3 i j _ aS).scalar,λi j zs aS=>?_⟩)
       obtain⟨ad,cap,qV,_⟩:=mw.rows
       cases ad with
       |none=>
        rw[qV]at mw
        generalize qS:Value.slice none ys.length cap=vv at mw
        cases mw with
        |nil=>simp[cP]at aS
        |l=>cases qS
       |some ad=>
        obtain⟨b,off,r0⟩:=ad
        rw[qV]at mw
        generalize qS:Value.slice (some ⟨b,off,r0⟩) ys.length cap=vv at mw
        cases mw with
        |nil=>simp[cP]at aS
        | @l _ b2 ahA wd Ab cv2 g1 g2 g3 g4 g5 g6=>
         cases qS
         obtain⟨yI,w1,w2⟩:=rA b off _ _ (by rw[<-J0];exact qV)
         have e1:=h4 b off _ _ qV i j _ aS
         have e2:=w2 i j zs aS
         obtain⟨row,_,il,_⟩:=qd aS
         rw[<-w1 row il,h2 row il,e1]at e2
         simpa using e2
   ·cases h
 ·cases h
theorem J2{sc:Bool}{sz:Nat}{xs:List (List T)}{t r:T}(h:Prim.ev (.app sc sz) [.l xs,t]=some r):
  ∃ys,t=.l ys∧xs.length+ys.length<tQ∧(sc=true->ys.all (·.all cF)=true)∧okW sz xs=true∧okW sz ys=true∧r=.l (xs++ys):=by
 cases t with
 |c v=>simp[Prim.ev]at h
 |l ys=>
  simp only[Prim.ev]at h
  split at h
  ·rename_i h1
   split at h
   ·rename_i h2
    split at h
    ·rename_i h3
     split at h
     ·rename_i h4
      simp only[aH]at h
      exact⟨ys,rfl,h1,λhs=>by subst hs;simpa using h2,h3,h4,h.symm⟩
     ·cases h
    ·cases h
   ·cases h
  ·cases h
theorem TX{G1:Gh}{id:Nat}{dp:Bool}{xs:List (List T)}{v:Value}(h:dx G1 w id dp [] (.l xs))(hv:v=G1.H id []){sz:Nat}(dP:okW sz xs=true):
  ∃(cv:Nat->Nat->Value) (b0:Option Nat),Aj w sz v xs.length b0 cv∧(∀b,b0=some b->G1.ω b=some (.o id []))∧oJ G1 w id dp sz 0 xs cv:=by
 cases h with
 |nil hH=>
  refine⟨λ_ _=>undef,none,.inl ⟨by rw[hv,hH],rfl,rfl⟩,λb hb=>(by cases hb),⟨λr hr=>(by cases hr),?_,?_,?_,?_⟩⟩<;>intro i j t aS<;>simp[cP]at aS
 | @l _ _ _ b wd cap aN elem fr cv g1 g2 g3 g4 g5 g6 g7 g8 g9 qU wQ=>
  by_cases hx:xs=[]
  ·subst hx
   have j3:=g2.2 rfl
   subst j3
   refine⟨cv,some b,.inr ⟨b,0,aN,elem,fr,by rw[hv,g1],rfl,g4,⟨by rw[g5.1];simp,g5.2⟩,Nat.le_refl _,λ_=>rfl,λi j hi _=>by simp at hi⟩,λc hc=>by cases hc;exact g3,⟨λr hr=>(by cases hr),?_,?_,?_,?_⟩⟩<;>intro i j t aS<;>simp[cP]at aS
  ·have mf:wd=sz:=by
    cases xs with
    |nil=>exact absurd rfl hx
    |cons r xs=>rw[<-g6 r (by simp)];exact cO dP
   subst mf
   refine⟨cv,some b,.inr ⟨b,cap,aN,elem,fr,by rw[hv,g1],rfl,g4,g5,g2.1,λh0=>g2.2 (List.eq_nil_of_length_eq_zero h0),λi j hi hj=>?_⟩,λc hc=>by cases hc;exact g3,⟨g6,g8,g9,?_,?_⟩⟩
   ·obtain⟨t,aS⟩:=Ai g6 hi hj
    exact g7 i j t aS
   ·intro i j ys aS hd
    simpa using qU i j ys aS hd
   ·intro i j ys aS hd
    simpa using wQ i j ys aS hd
end
def qZ(ja jb:Option Nat)(i n:Nat):Lb->Option Lb
 | .f=>some .f
 | .x b=>some (.x b)
 | .o j p=>
  if ja=some j then(match p with| []=>some (.o j [])|x::p=>some (.o i (x::p)))
  else if jb=some j then(match p with| []=>some (.o j [])|(r,c)::p=>some (.o i ((n+r,c)::p)))
  else some (.o j p)
theorem D2(i:Nat):df i%2=0:=by unfold df;omega
theorem D3{ja jb:Option Nat}{i n:Nat}(hi:i%2=0)(l l':Lb)(hq:qt l=true)(h:qZ ja jb i n l=some l'):qt l'=true:=by
 cases l with
 |o j p=>
  cases p with
  |nil=>
   simp only[qZ]at h
   split at h
   ·cases h;exact hq
   ·split at h
    ·cases h;exact hq
    ·cases h;exact hq
  |cons x p=>
   obtain⟨r,c⟩:=x
   simp only[qZ]at h
   split at h
   ·cases h;exact rp hi (by simp)
   ·split at h
    ·cases h;exact rp hi (by simp)
    ·cases h;exact hq
 |_=>simp[qt]at hq
def qv(G:Gh)(ja jb:Option Nat)(n:Nat)(v:Value):List (Nat×Nat)->Value
 | []=>v
 |(r,c)::p=>if r<n then(match ja with|some j=>G.H j ((r,c)::p)|none=>.slice none 0 0)else(match jb with|some j=>G.H j ((r-n,c)::p)|none=>.slice none 0 0)
theorem TY{G:Gh}{ja jb:Option Nat}{n:Nat}{v:Value}(hv:∃a m c,v=.slice a m c)(p:List (Nat×Nat)):∃a m c,qv G ja jb n v p=.slice a m c:=by
 cases p with
 |nil=>exact hv
 |cons x p=>
  obtain⟨r,k⟩:=x
  by_cases hr:r<n
  ·simp only[qv,if_pos hr]
   cases ja with
   |none=>exact⟨_,_,_,rfl⟩
   |some j=>exact G.hs j _
  ·simp only[qv,if_neg hr]
   cases jb with
   |none=>exact⟨_,_,_,rfl⟩
   |some j=>exact G.hs j _
section
variable {M:Nat->Prop} {B:dE} {d:Nat} {up:Nat->Nat->Value} {ρ:List T} {G:Gh} {a:Act} {w:World} {S:Nat->ai} {P:Program}
variable {cx:Cx} {bY dS oi:Nat} {s:St} {R:List aK} {ct:Ct} {k':Wk} {o:Oper} {Q:Exit->Act->World->Prop}
theorem TZ{G3:Gh}{w':World}{jS i n:Nat}{jA:Bool}{sz:Nat}{xs:List (List T)}{cv:Nat->Nat->Value}(h:oJ G3 w jS jA sz 0 xs cv)(hn:xs.length<=n)
  {nb:Option Nat}{jb:Option Nat}{v:Value}{lg:∀p,∃a m c,qv G3 (some jS) jb n v p=.slice a m c}(pO:∀c,nb=some c->c=w.heap.size∨G3.ω c=some (.o jS []))(hA2:jS%4≠2)
  (hi:i%2=0)(iE:∀b l,G3.ω b=some l->b<w.heap.size)(fF:w.heap.size<=w'.heap.size)(hh:∀c,c<w.heap.size->nb≠some c->w'.heap[c]?=w.heap[c]?):
  oJ (G3.cd nb i (qZ (some jS) jb i n) (qv G3 (some jS) jb n v) lg) w' i jA sz 0 xs cv:=by
 have oF:∀b,b<w.heap.size->G3.q b=none->(G3.cd nb i (qZ (some jS) jb i n) (qv G3 (some jS) jb n v) lg).q b=none∧w'.heap[b]?=w.heap[b]?:=by
  intro b hb h0
  have cW:nb≠some b:=by
   intro e
   rcases pO b e with rfl|h1
   ·omega
   ·exact B_ h1 (zQ hA2) h0
  exact⟨Ag (D3 hi) cW h0,hh b hb cW⟩
 refine⟨h.wd,h.sc,λr c ys aS hd=>(h.pl r c ys aS hd).aF fF oF,λr c ys aS hd=>?_,λr c ys aS hd=>?_⟩
 ·have bI:r<n:=by obtain⟨_,_,_,_,q1,_⟩:=qd aS;omega
  have:=h.hd r c ys aS hd
  simp only[Nat.zero_add]at this⊢
  rw[this]
  simp[Gh.cd,qv,bI]
 ·have bI:r<n:=by obtain⟨_,_,_,_,q1,_⟩:=qd aS;omega
  have:=h.ow r c ys aS hd
  simp only[Nat.zero_add]at this⊢
  refine this.move rfl (λe q he=>?_) λq=>by simp[Gh.cd,qv,bI]
  have rE:=iE e _ he
  have cW:nb≠some e:=by
   intro e'
   rcases pO e e' with rfl|h1
   ·omega
   ·rw[he]at h1;simp at h1
  refine⟨?_,hh e rE cW⟩
  simp only[Gh.cd,cW,if_false,he,Option.bind_some,qZ,if_true]
  rfl
theorem T0{G3:Gh}{w':World}{i n:Nat}{ja:Option Nat}{jA:Bool}{sz:Nat}{ys:List (List T)}{cv:Nat->Nat->Value}{lI:Option Nat}(h:Am G3 w jA lI ys cv)(eV:∀id,lI=some id->ja≠some id)
  (hw:∀r∈ys,r.length=sz){nb:Option Nat}{v:Value}{lg:∀p,∃a m c,qv G3 ja lI n v p=.slice a m c}
  (pO:∀c,nb=some c->c=w.heap.size∨∃j,ja=some j∧G3.ω c=some (.o j [])∧j%4≠2)
  (hi:i%2=0)(iE:∀b l,G3.ω b=some l->b<w.heap.size)(fF:w.heap.size<=w'.heap.size)(hh:∀c,c<w.heap.size->nb≠some c->w'.heap[c]?=w.heap[c]?):
  oJ (G3.cd nb i (qZ ja lI i n) (qv G3 ja lI n v) lg) w' i jA sz n ys cv:=by
 have oF:∀b,b<w.heap.size->G3.q b=none->(G3.cd nb i (qZ ja lI i n) (qv G3 ja lI n v) lg).q b=none∧w'.heap[b]?=w.heap[b]?:=by
  intro b hb h0
  have cW:nb≠some b:=by
   intro e
   rcases pO b e with rfl|⟨j,_,h1,uQ⟩
   ·omega
   ·exact B_ h1 (zQ uQ) h0
  exact⟨Ag (D3 hi) cW h0,hh b hb cW⟩
 have plain:jA=false->(∀i j t,cP ys i j=some t->dF G3.q w t (cv i j))->oJ (G3.cd nb i (qZ ja lI i n) (qv G3 ja lI n v) lg) w' i jA sz n ys cv:=by
  intro hf db
  exact⟨hw,λr c u aS=>(db r c _ aS).scalar,λr c zs aS _=>(db r c _ aS).aF fF oF,λr c zs _ hd=>(by rw[hf]at hd;cases hd),λr c zs _ hd=>(by rw[hf]at hd;cases hd)⟩
 rcases h with⟨hf,db⟩|lA|⟨id,lz,iX,aW,hs,hl⟩
 ·exact plain hf db
 ·refine⟨hw,λr c u aS=>(lA r c _ aS).2.scalar,λr c zs aS _=>?_,λr c zs aS _=>?_,λr c zs aS _=>?_⟩<;>have:=(lA r c _ aS).1<;>simp[cF]at this
 ·subst iX
  refine⟨hw,hs,λr c zs aS hd=>?_,λr c zs aS hd=>?_,λr c zs aS hd=>?_⟩
  ·rw[lz]at hd;cases hd
  ·rw[hl r c zs aS]
   simp[Gh.cd,qv,show¬(n+r<n) by omega]
  ··have:=aW r c zs aS
    refine this.move rfl (λe q he=>?_) λq=>by simp[Gh.cd,qv,show¬(n+r<n) by omega]
    have rE:=iE e _ he
    have cW:nb≠some e:=by
     intro e'
     rcases pO e e' with rfl|⟨j,hj,h1,_⟩
     ·omega
     ·rw[he]at h1;simp at h1
    have hja:ja≠some id:=eV id rfl
    refine⟨?_,hh e rE cW⟩
    simp[Gh.cd,cW,he,qZ,hja]
theorem T1{ja jb:Option Nat}{i n:Nat}{l l':Lb}(h:qZ ja jb i n l=some l'):l'.id=l.id∨l'.id=i:=by
 cases l with
 |f=>simp only[qZ,aH]at h;subst h;exact .inl rfl
 |x b=>simp only[qZ,aH]at h;subst h;exact .inl rfl
 |o j p=>
  simp only[qZ]at h
  split at h
  ·cases p with
   |nil=>simp only[aH]at h;subst h;exact .inl rfl
   |cons x p=>simp only[aH]at h;subst h;exact .inr rfl
  ·split at h
   ·cases p with
    |nil=>simp only[aH]at h;subst h;exact .inl rfl
    |cons x p=>simp only[aH]at h;subst h;exact .inr rfl
   ·simp only[aH]at h;subst h;exact .inl rfl
theorem T2{ti tj te:TI}{t tx:Nat}(cQ:dg P cx)(eh:cx.ty t=some ti)(Hp:cx.ty tx=some tj)(mK:cx.ty ti.el=some te)(o3:ti.kd=3)(hj3:tj.kd=3)(Al:te.bytes<=32768)(fF:0<te.sz)
  (h:Rel M B d up s ρ G a w)(hn:∀n,o.dst=some n->n<a.tmps.size){c:Call}{x y:Operand}(ho:o.op=.call c)(hc:c.callee=.builtin .append)(dH:c.args.toList=[x,y])(aS:c.argTypes.toList=[t,tx])
  {k5 ky kw:Wk}{G3:Gh}{WA WB:St}{jS lI:Option Nat}{xs ys:List (List T)}{jA:Bool}{r:Lf}(w3:cG M B d up ρ G a w ky G3)(agn:jJ k5 ky (WB++WA))(jY:k5.ct.i%2=0)(hM:¬M k5.ct.i)
  (rG:(jS=none∧WA=[]∧a.eval x=.slice none 0 0∧xs=[])∨∃i,jS=some i∧WA=[(.o i,.un)]∧M i∧i%4≠2∧a.eval x=G3.H i []∧dx G3 w i jA [] (.l xs))
  (J3:(WB=[]∧lI=none)∨∃i,lI=some i∧WB=[(.o i,.un)]∧WA.look (.o i)=none∧M i)
  (D4:okW te.sz xs=true)(bI:xs.length+ys.length<tQ){cv:Nat->Nat->Value}{e':TypeId}(mZ:Src P te.sz tx (a.eval y) ys.length (pQ cv te.sz ys.length) w)(hwy:∀r∈ys,r.length=te.sz)
  (lB:Am G3 w jA lI ys cv)(hr:r.eE ρ=some (.l (xs++ys)))(JT:∀r',kw.w.look r'=(St.look ((.o k5.ct.i,.ob jA r)::(WB++WA)) r').or (ky.w.look r')):
  bf P (Mn M k5.ct.i (k5.ct.i+1)) B d up ρ a w s o (bn d o kw (.v false [.o k5.ct.i []])).w Q:=by
 have hT:=cQ.ty _ _ eh
 have hE:=cQ.ty _ _ mK
 obtain⟨i,z,o5,iU,Hk,yJ,sR⟩:=hE.info
 have hu:=hT.sl o3
 have uX:z.cells.size=te.sz:=by
  have:=(Ch (G:=G) (w:=w) (ρ:=ρ) sR).1.length
  rw[hE.wO]at this
  simpa using this.symm
 have iE:∀b l,G3.ω b=some l->b<w.heap.size:=λb l hb=>(w3.rel.fE b l hb).2
 obtain⟨uY,b0,oK,D5,iy⟩:∃(uY:Nat->Nat->Value) (b0:Option Nat),Aj w te.sz (a.eval x) xs.length b0 uY∧(∀b,b0=some b->∃j,jS=some j∧G3.ω b=some (.o j [])∧j%4≠2)∧
   (xs=[]∨∃j,jS=some j∧oJ G3 w j jA te.sz 0 xs uY):=by
  rcases rG with⟨rfl,_,hv,rfl⟩|⟨j,rfl,_,_,uQ,hv,aW⟩
  ·exact⟨λ_ _=>undef,none,.inl ⟨hv,rfl,rfl⟩,λb hb=>(by cases hb),.inl rfl⟩
  ·obtain⟨uY,b0,h1,h2,h3⟩:=TX aW hv D4
   exact⟨uY,b0,h1,λb hb=>⟨j,rfl,h2 b hb,uQ⟩,.inr ⟨j,rfl,h3⟩⟩
 obtain⟨v',w',nb,da,gA⟩:=JY (P:=P) (w:=w) (ty:=o.type) hu o5 yJ iU uX fF (by rw[Hk];exact Al) oK mZ bI
 have fG:(execOp a.eval o).run P w=.ok (.value v') w':=by
  refine Hg ho hc ?_
  have hA:c.args=#[x,y]:=Array.ext' dH
  have hB:c.argTypes=#[t,tx]:=Array.ext' aS
  rw[hA,hB]
  show Sem.run P (do let v <-Builtin.append_ #[t,tx] o.type (#[x,y].map a.eval);pure (Next.value v)) w=_
  rw[Sem.run_bind]
  simp only[List.map_toArray,List.map_cons,List.map_nil]
  rw[da];rfl
 have T3:∃a m c,v'=.slice a m c:=by
  rcases gA.row with⟨_,rfl,_⟩|⟨b,cap,_,_,_,_,rfl,_⟩<;>exact⟨_,_,_,rfl⟩
 have pO:∀c,nb=some c->c=w.heap.size∨∃j,jS=some j∧G3.ω c=some (.o j [])∧j%4≠2:=by
  intro c hc
  rcases(gA.at_ c hc).1 with h1|h1
  ·exact .inl h1
  ·exact .inr (D5 c h1)
 have T4:∀j,lI=some j->jS≠some j:=by
  intro j hj he
  rcases J3 with⟨_,h1⟩|⟨j',h1,_,h2,_⟩
  ·rw[hj]at h1;cases h1
  ·rw[hj]at h1
   cases h1
   rcases rG with⟨h3,_⟩|⟨j'',h3,h4,_⟩
   ·rw[he]at h3;cases h3
   ·rw[he]at h3
    cases h3
    rw[h4,rB]at h2
    simp at h2
 have An:∀r u,(WB++WA).look r=some u->∃j,r=.o j∧u=.un∧M j:=by
  intro r u w_
  rw[jz]at w_
  rcases J3 with⟨rfl,_⟩|⟨j,_,rfl,_,hm⟩
  ·simp only[St.look,Option.none_or]at w_
   rcases rG with⟨_,rfl,_⟩|⟨j',_,rfl,vO,_⟩
   ·cases w_
   ·rcases gJ w_ with⟨e1,e2⟩|hl
    ·exact⟨j',e1,e2,vO⟩
    ·cases hl
  ·cases hl:St.look [(aK.o j,SV.un)] r with
   |some u'=>
    rw[hl]at w_
    simp only[Option.some_or,aH]at w_
    subst w_
    rcases gJ hl with⟨e1,e2⟩|hl
    ·exact⟨j,e1,e2,hm⟩
    ·cases hl
   |none=>
    rw[hl]at w_
    simp only[Option.none_or]at w_
    rcases rG with⟨_,rfl,_⟩|⟨j',_,rfl,vO,_⟩
    ·cases w_
    ·rcases gJ w_ with⟨e1,e2⟩|hl
     ·exact⟨j',e1,e2,vO⟩
     ·cases hl
 have xa:∀j,jS=some j->(WB++WA).look (.o j)≠none:=by
  intro j hj
  rcases rG with⟨h1,_⟩|⟨j',h1,rfl,_⟩
  ·rw[hj]at h1;cases h1
  ·rw[hj]at h1
   cases h1
   rw[jz,rB]
   intro e
   have:=(Option.or_eq_none_iff.1 e).2
   simp at this
 have D6:∀j,lI=some j->(WB++WA).look (.o j)≠none:=by
  intro j hj
  rcases J3 with⟨_,h1⟩|⟨j',h1,rfl,_⟩
  ·rw[hj]at h1;cases h1
  ·rw[hj]at h1
   cases h1
   rw[jz,rB]
   intro e
   have:=(Option.or_eq_none_iff.1 e).1
   simp at this
 let kk:Wk:={ky with ct:=k5.ct}
 have wk:cG M B d up ρ G a w kk G3:=⟨w3.rel,w3.aF⟩
 refine JS (k:=kk) (nb:=nb) (f:=qZ jS lI k5.ct.i xs.length) (Hn:=qv G3 jS lI xs.length v') (lg:=TY T3) (W1:=WB++WA) (y:=r) (t:=.l (xs++ys)) (v:=v') (w':=w') (dp:=jA)
  h wk hn hM JT (λr u hu=>by obtain⟨j,e1,e2,e3⟩:=An r u hu;subst e2;exact⟨j,e1,trivial,e3,λi hi=>by simp[cD]at hi⟩) (λl hl=>?_) (λl l' ⟨b,hb⟩ he=>?_) (D3 jY) (λc hc=>?_) gA.size (λc hc=>(gA.at_ c hc).2) (λb hb cW=>gA.Ak b hb cW) gA.so rfl hr ?_ fG
 ·cases l with
  |f=>rfl
  |x b=>rfl
  |o j p=>
   have:=hl j p rfl
   have h1:jS≠some j:=λe=>xa j e this
   have h2:lI≠some j:=λe=>D6 j e this
   simp[qZ,h1,h2]
 ·rcases T1 he with h1|h1
  ·rw[h1];exact .inl (w3.rel.fE b _ hb).1
  ·exact .inr h1
 ·rcases pO c hc with h1|⟨j,h1,h2,h3⟩
  ·exact .inl h1
  ·exact .inr ⟨j,h2,xa j h1,h3⟩
 ·have qw:oJ (G3.cd nb k5.ct.i (qZ jS lI k5.ct.i xs.length) (qv G3 jS lI xs.length v') (TY T3)) w' k5.ct.i jA te.sz xs.length ys cv:=
   T0 (w:=w) lB (λj hj=>T4 j hj) hwy pO jY iE gA.size gA.Ak
  have Q4:oJ (G3.cd nb k5.ct.i (qZ jS lI k5.ct.i xs.length) (qv G3 jS lI xs.length v') (TY T3)) w' k5.ct.i jA te.sz 0 xs uY:=by
   rcases iy with rfl|⟨j,rfl,uP⟩
   ·exact⟨λr hr=>(by cases hr),λ_ _ _ h=>(by simp[cP]at h),λ_ _ _ h=>(by simp[cP]at h),λ_ _ _ h=>(by simp[cP]at h),λ_ _ _ h=>(by simp[cP]at h)⟩
   ·have uQ:j%4≠2:=by
     rcases rG with⟨h1,_⟩|⟨i',h1,_,_,h2,_⟩
     ·cases h1
     ·cases h1;exact h2
    refine TZ (w:=w) uP (Nat.le_refl _) (λc hc=>?_) uQ jY iE gA.size gA.Ak
    rcases pO c hc with h1|⟨j',h1,h2,_⟩
    ·exact .inl h1
    ·cases h1;exact .inr h2
  rcases gA.row with⟨rfl,yL,uS,T5⟩|⟨b,cap,aN,elem,fr,rfl,yL,oL,rF,hle,Hh,g1,g2⟩
  ·have e1:xs++ys=[]:=by rw[List.eq_nil_of_length_eq_zero uS,List.eq_nil_of_length_eq_zero T5];rfl
   rw[e1]
   exact .nil (by simp[Gh.cd,qv,yL,kk])
  ·refine Q4.join qw (by simp only[Gh.cd,if_true,qv];exact yL) ⟨hle,λhe=>Hh (by have:=congrArg List.length he;simpa using this)⟩ (by simp[Gh.cd]) oL rF g1 g2
end
theorem dx.grow{G:Gh}{w w':World}{id b0 n cap sz:Nat}{p:List (Nat×Nat)}(hh:∀c q,G.ω c=some (.o id q)->c≠b0->w'.heap[c]?=w.heap[c]?)(hH:G.H id p=.slice (some ⟨b0,0,none⟩) n cap)
  (fA:G.ω b0=some (.o id p))(TL:n<=cap){a0 a1:Array Value}{e0 e1:TypeId}{f0 f1:Nat×Nat}(h0:w.heap[b0]?=some (.cells a0 e0 f0))(yM:a0.size=cap*sz)(h1:w'.heap[b0]?=some (.cells a1 e1 f1))(iZ:a1.size=a0.size)(hf1:qa f1 a1.size)
  (ha:∀i j,i<n->j<sz->a1[i*sz+j]?=a0[i*sz+j]?){p0:List (Nat×Nat)}{t:T}{dp:Bool}(h:dx G w id dp p0 t)(eV:dp=true):dx G w' id dp p0 t:=by
 induction h with
 |nil h=>exact .nil h
 | @l dp p0 xs b wd Ab aN elem fr cv g1 g2 g3 g4 g5 g6 g7 g8 g9 qU wQ ih=>
  have hv:∀i j ys,cP xs i j=some (.l ys)->dp=true->dx G w' id true (p0++[(i,j)]) (.l ys):=λi j ys hy hd=>ih i j ys hy hd rfl
  by_cases hb:b=b0
  ·subst hb
   rw[fA]at g3
   cases g3
   rw[hH]at g1
   cases g1
   rw[h0]at g4
   cases g4
   refine .l hH g2 fA h1 ⟨by rw[iZ];exact g5.1,hf1⟩ g6 (λi j t ht=>?_) g8 (λi j ys hy hd=>by rw[eV]at hd;cases hd) qU hv
   obtain⟨r,q1,q2,q3,q4,q5⟩:=qd ht
   have j3:0<cap:=by omega
   have mf:wd=sz:=Nat.eq_of_mul_eq_mul_left j3 (by rw[<-g5.1,yM])
   subst mf
   have hr:=g6 r q2
   rw[ha i j q4 (by rw[<-hr];exact q5)]
   exact g7 i j t ht
  ·exact .l g1 g2 g3 ((hh b p0 g3 hb).trans g4) g5 g6 g7 g8 (λi j ys hy hd=>by rw[eV]at hd;cases hd) qU hv
theorem dx.flatten{G:Gh}{w:World}{id:Nat}{t:T}(h:dx G w id true [] t):dx (G.free id false) w id false [] t:=by
 cases h with
 |nil h=>exact .nil h
 | @l _ _ xs b wd cap aN elem fr cv h1 h2 h3 h4 h5 h6 h7 h8 h9 jI ru=>
  refine .l (cv:=cv) h1 h2 (by simp[Gh.free,h3]) h4 h5 h6 h7 h8 (λp j ys hy _=>?_) (λ_ _ _ _ hf=>by cases hf) (λ_ _ _ _ hf=>by cases hf)
  rw[jI p j ys hy rfl]
  exact(ru p j ys hy rfl).oB (by simp) rfl
section
variable {M:Nat->Prop} {B:dE} {d:Nat} {up:Nat->Nat->Value} {ρ:List T} {G:Gh} {a:Act} {w:World} {S:Nat->ai} {P:Program}
variable {cx:Cx} {bY dS oi:Nat} {s:St} {R:List aK} {ct:Ct} {k':Wk} {o:Oper} {Q:Exit->Act->World->Prop}
theorem T6(cQ:dg P cx)(h:Rel M B d up s ρ G a w)(hn:∀n,o.dst=some n->n<a.tmps.size){c:Call}{x y:Operand}(ho:o.op=.call c)(hc:c.callee=.builtin .append)(dH:c.args.toList=[x,y])
  {t tx:Nat}(aS:c.argTypes.toList=[t,tx]){ti tj te:TI}(eh:cx.ty t=some ti)(Hp:cx.ty tx=some tj)(mK:cx.ty ti.el=some te)(o3:ti.kd=3)(hj3:tj.kd=3)(Al:te.bytes<=32768)(fF:0<te.sz)
  {k3:Wk}{r:Lf}(hA:Db ⟨s.only R,[],ct,[]⟩ (te.zero.any dU) te.sz (bC d (Wk.get ⟨s.only R,[],ct,[]⟩) x) (bC d (Wk.get ⟨s.only R,[],ct,[]⟩) y)=some (k3,r))(hd:k3.aO S ρ):
  k3.ct.i=ct.i∧bf P M B d up ρ a w s o (bn d o k3 (.v false [.p r])).w Q:=by
 have hw:=cG.start h R ct
 unfold Db at hA
 split at hA
 ·rename_i id s0 q hx
  split at hA
  ·rename_i v hv
   cases qu:te.zero.any dU with
   |true=>simp[qu]at hA
   |false=>
   simp only[qu,cond_false,bU,aH,Prod.mk.injEq]at hA
   obtain⟨⟨kb,lb⟩,mY,rfl,rfl⟩:=hA
   obtain⟨hr,hm⟩:=hw.f_ x
   rw[hx]at hr hm
   obtain⟨e,he,n_,_⟩:=hr
   cases he
   obtain⟨p,hp,Hm⟩:=n_
   have sT:id%2=1:=by
    simp only[jH]at hp
    split at hp
    ·assumption
    ·cases hp
   have J4:=zR hp
   have T7:p≠[]:=by
    obtain⟨ix,wd,j⟩:=s0
    simp only[fm,bU,aH]at J4
    obtain⟨i,_,p',_,rfl⟩:=J4
    simp
   have Aa:qt (.o id p)=false:=zP (ρ:=ρ) (.inr sT) (by omega)
   have c_:=hw.obj id
   rw[hv]at c_
   obtain⟨t0,yC,aW⟩:=c_
   obtain⟨rows,rfl⟩:∃ys,t0=.l ys:=by cases aW<;>exact⟨_,rfl⟩
   have xb:(kb.em (.app true te.sz) [(Wk.down ⟨s.only R,[],ct,[]⟩ v (s0::q)).2,lb]).1.aO S ρ:=hd
   obtain⟨Cs,rr,o4,me⟩:=Wk.be xb
   have iZ:=Wk.dK (s0::q) ⟨s.only R,[],ct,[]⟩ v
   obtain⟨uR,lm,ty,hty,hdy⟩:=Wk.eK (hw.same iZ) mY Cs (hw.f_ y).1
   obtain⟨u,hu,Tz,zY⟩:=Wk.fL (s0::q) _ v uR yC J4 (.inr ⟨_,rfl⟩)
   obtain⟨xs,rfl⟩:=zY.resolve_left (by simp)
   simp only[List.map_cons,List.map_nil,Lf.a_ Tz,Lf.a_ hty]at o4
   obtain⟨ys,rfl,bI,lA,D4,T8,rfl⟩:=J2 o4
   have i_:dx G w id true p (.l xs):=by simpa using dx.nC p aW hu ⟨xs,rfl⟩
   have hT:=cQ.ty _ _ eh
   have hE:=cQ.ty _ _ mK
   obtain⟨i,z,o5,iU,Hk,yJ,sR⟩:=hE.info
   have hut:=hT.sl o3
   have uX:z.cells.size=te.sz:=by
    have:=(Ch (G:=G) (w:=w) (ρ:=ρ) sR).1.length
    rw[hE.wO]at this
    simpa using this.symm
   obtain⟨cvy,s1,s2,s3,_⟩:=D1 (P:=P) hdy fF T8 ((cQ.ty _ _ Hp).sl hj3)
   have iE:∀b l,G.ω b=some l->b<w.heap.size:=λb l hb=>(h.fE b l hb).2
   obtain⟨uY,b0,oK,D5,T9,hwx⟩:∃(uY:Nat->Nat->Value) (b0:Option Nat),Aj w te.sz (a.eval x) xs.length b0 uY∧(∀b,b0=some b->G.ω b=some (.o id p)∧∃cap a0 e0 f0,G.H id p=.slice (some ⟨b,0,none⟩) xs.length cap∧xs.length<=cap∧w.heap[b]?=some (.cells a0 e0 f0)∧a0.size=cap*te.sz∧∀i j,i<xs.length->j<te.sz->a0[i*te.sz+j]?=some (uY i j))∧
     (∀i j t,cP xs i j=some t->(∀u,t=.c u->uY i j=u∧iY u=true)∧∀zs,t=.l zs->uY i j=G.H id (p++[(i,j)]))∧∀r∈xs,r.length=te.sz:=by
    cases i_ with
    |nil hH=>exact⟨λ_ _=>undef,none,.inl ⟨by rw[Hm,hH],rfl,rfl⟩,λb hb=>(by cases hb),λi j t h=>(by simp[cP]at h),λr hr=>(by cases hr)⟩
    | @l _ _ _ b wd cap aN elem fr cv g1 g2 g3 g4 g5 g6 g7 g8 g9 qU wQ=>
     by_cases su:xs=[]
     ·subst su
      have j3:=g2.2 rfl
      subst j3
      refine⟨cv,some b,.inr ⟨b,0,aN,elem,fr,by rw[Hm,g1],rfl,g4,⟨by rw[g5.1];simp,g5.2⟩,Nat.le_refl _,λ_=>rfl,λi j hi _=>by simp at hi⟩,λc hc=>?_,λi j t h=>(by simp[cP]at h),λr hr=>(by cases hr)⟩
      cases hc
      exact⟨g3,0,aN,elem,fr,g1,Nat.le_refl _,g4,by rw[g5.1];simp,λi j hi _=>by simp at hi⟩
     ·have mf:wd=te.sz:=by
       cases xs with
       |nil=>exact absurd rfl su
       |cons r xs=>rw[<-g6 r (by simp)];exact cO D4
      have rJ:∀i j,i<xs.length->j<te.sz->aN[i*te.sz+j]?=some (cv i j):=λi j hi hj=>by
       obtain⟨t,aS⟩:=Ai g6 hi (by rw[mf];exact hj)
       have:=g7 i j t aS
       rw[mf]at this
       exact this
      refine⟨cv,some b,.inr ⟨b,cap,aN,elem,fr,by rw[Hm,g1],rfl,g4,⟨by rw[g5.1,mf],g5.2⟩,g2.1,λh0=>g2.2 (List.eq_nil_of_length_eq_zero h0),rJ⟩,λc hc=>?_,λi j t aS=>⟨λu e=>by subst e;exact g8 i j u aS,λzs e=>by subst e;exact qU i j zs aS rfl⟩,λr hr=>by rw[g6 r hr,mf]⟩
      cases hc
      exact⟨g3,cap,aN,elem,fr,g1,g2.1,g4,by rw[g5.1,mf],rJ⟩
   obtain⟨v',w',nb,da,gA⟩:=JY (P:=P) (w:=w) (ty:=o.type) hut o5 yJ iU uX fF (by rw[Hk];exact Al) oK s1 bI
   have fG:(execOp a.eval o).run P w=.ok (.value v') w':=by
    refine Hg ho hc ?_
    have hA:c.args=#[x,y]:=Array.ext' dH
    have hB:c.argTypes=#[t,tx]:=Array.ext' aS
    rw[hA,hB]
    show Sem.run P (do let v <-Builtin.append_ #[t,tx] o.type (#[x,y].map a.eval);pure (Next.value v)) w=_
    rw[Sem.run_bind]
    simp only[List.map_toArray,List.map_cons,List.map_nil]
    rw[da];rfl
   have pO:∀c,nb=some c->c=w.heap.size∨(b0=some c∧G.ω c=some (.o id p)):=λc hc=>(gA.at_ c hc).1.imp_right λe=>⟨e,(D5 c e).1⟩
   have sV:∀b l,G.ω b=some l->l≠.o id p->w'.heap[b]?=w.heap[b]?:=λb l hb hl=>gA.Ak b (iE b l hb) λe=>by
    rcases pO b e with h1|⟨_,h1⟩
    ·have:=iE b l hb;omega
    ·rw[hb]at h1;cases h1;exact hl rfl
   have Cu:dx G w' id true [] (.l rows):=by
    by_cases hs:∃b,nb=some b∧b0=some b
    ·obtain⟨b,e1,e2⟩:=hs
     obtain⟨g0,cap,a0,e0,f0,g1,g2,g3,g4,g5⟩:=D5 b e2
     obtain⟨a1,e1',f1',f1,f2⟩:=gA.len b e2 e1 _ _ _ g3
     rcases gA.row with⟨e3,_⟩|⟨b',qk,gI,w7,TQ,e3,_,oL,T_,_,_,q1,_⟩
     ·rw[e1]at e3;cases e3
     ·rw[e1]at e3
      cases e3
      rw[f1]at oL
      cases oL
      exact aW.grow (λc q hc cW=>gA.Ak c (iE c _ hc) λe=>cW (by rw[e1]at e;cases e;rfl)) g1 g0 g2 g3 g4 f1 f2 T_.2 (λi j hi hj=>by rw[q1 i j hi hj,g5 i j hi hj]) rfl
    ·refine aW.Tj rfl λc q hc=>gA.Ak c (iE c _ hc) λe=>?_
     rcases pO c e with h1|⟨h1,_⟩
     ·have:=iE c _ hc;omega
     ·exact hs ⟨c,e,h1⟩
   have hK:cJ (mU (dN d o (.v false [.p (kb.em (.app true te.sz) [(Wk.down ⟨s.only R,[],ct,[]⟩ v (s0::q)).2,lb]).2])++[(.o id,.ob false v)])) (λ_=>False) G w (G.free id false) w':=by
    refine⟨gA.size,λb hb h0=>⟨Gh.oA h0,gA.Ak b hb λe=>?_⟩,λb _ h0=>Gh.fM h0,λb l hb hl=>?_,λi _=>⟨rfl,λ_ _=>rfl⟩⟩
    ·rcases pO b e with h1|⟨_,h1⟩
     ·omega
     ·exact B_ h1 Aa h0
    ·have qX:∀q,l≠.o id q:=λq e=>hl (by
      subst e
      show St.look _ (aK.o id)≠none
      rw[jz,rB];simp)
     refine⟨?_,sV b l hb (qX p)⟩
     cases l with
     |f=>simp[Gh.free,hb]
     |x j=>simp[Gh.free,hb]
     |o j q'=>
      have:j≠id:=λe=>qX q' (by rw[e])
      simp[Gh.free,hb,this]
   have db:dF (G.free id false).q w' (.l (xs++ys)) v':=by
    rcases gA.row with⟨_,yL,uS,T5⟩|⟨b,qk,gI,w7,TQ,e3,yL,oL,rF,hle,Hh,q1,q2⟩
    ·rw[List.eq_nil_of_length_eq_zero uS,List.eq_nil_of_length_eq_zero T5,yL]
     exact .nil
    ·rw[yL,<-List.length_append]
     refine .l (wd:=te.sz) (cv:=λi j=>if i<xs.length then uY i j else cvy (i-xs.length) j) (λr hr=>?_) (by rw[List.length_append];exact hle) ?_ (Ca oL) (λi j t aS=>?_) λi j t aS=>?_
     ·rcases List.mem_append.1 hr with hr|hr
      ·exact hwx r hr
      ·exact s2 r hr
     ·rcases pO b e3 with h1|⟨_,h1⟩
      ·exact uN (Gh.fM (Jx h (by omega)))
      ·exact uN (Gh.oz h1 rfl (.inr T7))
     ·rw[sq oL,Nat.zero_add]
      rcases D0 aS with⟨hi,h1⟩|⟨hi,h1⟩
      ·obtain⟨r,g1,g2,g3,g4,g5⟩:=qd h1
       rw[if_pos hi,q1 i j hi (by rw[<-hwx r g2];exact g5)]
      ·obtain⟨r,g1,g2,g3,g4,g5⟩:=qd h1
       have:=q2 (i-xs.length) j g4 (by rw[<-s2 r g2];exact g5)
       rw[show xs.length+(i-xs.length)=i by omega]at this
       rw[if_neg (by omega),this]
     ·rcases D0 aS with⟨hi,h1⟩|⟨hi,h1⟩
      ·rw[if_pos hi]
       obtain⟨f1,f2⟩:=T9 i j t h1
       cases t with
       |c u=>obtain⟨e1,e2⟩:=f1 u rfl;rw[e1];exact .c e2
       |l zs=>
        rw[f2 zs rfl]
        have J5:dx G w' id true p (.l xs):=by simpa using dx.nC p Cu hu ⟨xs,rfl⟩
        have:=dx.nC [(i,j)] J5 (by simp[gf,h1]) ⟨zs,rfl⟩
        exact this.oB (by simp) rfl
      ·rw[if_neg (by omega)]
       have cM:=lA rfl
       obtain⟨r,g1,g2,g3,g4,g5⟩:=qd h1
       have:cF t=true:=by
        have h3:=List.all_eq_true.1 cM r g2
        exact List.all_eq_true.1 h3 t (List.mem_of_getElem? g3)
       obtain⟨u,rfl⟩:=DE this
       obtain⟨e1,e2⟩:=(s3 _ _ _ h1).scalar
       rw[e1];exact .c e2
   have T':∀A,v'≠.agg A:=by
    intro A e
    rcases gA.row with⟨_,yL,_⟩|⟨b,qk,_,_,_,_,yL,_⟩<;>rw[yL]at e<;>cases e
   have hM:M id:=hm id (by simp[cD,cT])
   have hkb:=((hw.same iZ).same lm).same (Wk.aT kb (.app true te.sz) [(Wk.down ⟨s.only R,[],ct,[]⟩ v (s0::q)).2,lb])
   refine⟨by show kb.ct.i=ct.i;rw[lm.i,iZ.i],?_⟩
   simp only[bf,Oper.wp,fG,Oper.upon]
   have Ua:∃G',Rel M B d up (s.dV (bn d o ((kb.em (.app true te.sz) [(Wk.down ⟨s.only R,[],ct,[]⟩ v (s0::q)).2,lb]).1.set (.o id) (.ob false v)) (.v false [.p (kb.em (.app true te.sz) [(Wk.down ⟨s.only R,[],ct,[]⟩ v (s0::q)).2,lb]).2])).w) ρ G' (a.put o.dst v') w':=by
    refine⟨G.free id false,Ci h hkb (W2:=dN d o (.v false [.p (kb.em (.app true te.sz) [(Wk.down ⟨s.only R,[],ct,[]⟩ v (s0::q)).2,lb]).2])++[(.o id,.ob false v)]) (DM (W2:=[(.o id,.ob false v)]) λr=>by exact qm r)
     hK (λi hi=>hi.elim) (λi hi=>hi) (λn n9=>Cl n9) gA.so ?_⟩
    refine⟨λe n u he hl=>?_,λb u hl=>?_,λi u hl=>?_,λr u hl i hi=>?_,λi hi=>?_,λb l hb=>?_⟩
    ·rcases iW hl with⟨n',fi,e1,rfl⟩|hl
     ·cases e1
      rw[fi,Hb (hn n fi)]
      exact⟨_,rfl,⟨_,me,db⟩,T'⟩
     ·rcases gJ hl with⟨e1,_⟩|hl
      ·cases e1
      ·cases hl
    ·rcases iW hl with⟨n',fi,e1,rfl⟩|hl
     ·cases e1
     ·rcases gJ hl with⟨e1,rfl⟩|hl
      ·cases e1
      ·cases hl
    ·rcases iW hl with⟨n',fi,e1,rfl⟩|hl
     ·cases e1
     ·rcases gJ hl with⟨e1,rfl⟩|hl
      ·cases e1
       exact⟨_,yC,Cu.flatten⟩
      ·cases hl
    ·rcases iW hl with⟨n',fi,e1,rfl⟩|hl
     ·simp[cD,cT]at hi
     ·rcases gJ hl with⟨e1,rfl⟩|hl
      ·simp[cD]at hi
      ·cases hl
    ·have:∀r:aK,(r=.x i∨r=.o i)->St.look (dN d o (.v false [.p (kb.em (.app true te.sz) [(Wk.down ⟨s.only R,[],ct,[]⟩ v (s0::q)).2,lb]).2])++[(aK.o id,SV.ob false v)]) r≠none->i=id:=by
      intro r hr hl
      obtain⟨u,hu⟩:=Option.ne_none_iff_exists'.1 hl
      rcases iW hu with⟨n',fi,e1,rfl⟩|hl
      ·rcases hr with rfl|rfl<;>cases e1
      ·rcases gJ hl with⟨e1,rfl⟩|hl
       ·rcases hr with rfl|rfl
        ·cases e1
        ·cases e1;rfl
       ·cases hl
     rcases hi with hi|hi
     ·rw[this _ (.inl rfl) hi];exact hM
     ·rw[this _ (.inr rfl) hi];exact hM
    ·obtain⟨l',h1,h2⟩:∃l',G.ω b=some l'∧l'=l:=by
      simp only[Gh.free]at hb
      split at hb
      ·split at hb
       ·cases hb
       ·rename_i Hl _;exact⟨_,Hl,Option.some.inj hb⟩
      ·exact⟨_,hb,rfl⟩
     subst h2
     exact⟨(h.fE b _ h1).1,Nat.lt_of_lt_of_le (h.fE b _ h1).2 gA.size⟩
   obtain⟨G',hG'⟩:=Ua
   exact⟨G',hG',vN _ _ _⟩
  ·cases hA
 ·cases hA
end
theorem J6{us:List (List T)}{n k:Nat}(h:n+k<=us.length):(B4 us n k).length=us.length:=by
 simp only[B4,List.length_append,List.length_take,List.length_replicate,List.length_drop];omega
theorem J7{us:List (List T)}{n k i:Nat}{r:List T}(h:n+k<=us.length)(hg:(B4 us n k)[i]?=some r)(hr:r≠[]):us[i]?=some r∧(i<n∨n+k<=i):=by
 unfold B4 at hg
 by_cases h1:i<n
 ·rw[List.append_assoc,List.getElem?_append_left (by rw[List.length_take];omega),List.getElem?_take,if_pos h1]at hg
  exact⟨hg,.inl h1⟩
 ·rw[List.append_assoc,List.getElem?_append_right (by rw[List.length_take];omega)]at hg
  have hl:(us.take n).length=n:=by rw[List.length_take];omega
  rw[hl]at hg
  by_cases h2:i<n+k
  ·rw[List.getElem?_append_left (by rw[List.length_replicate];omega),List.getElem?_replicate]at hg
   split at hg
   ·cases hg;exact absurd rfl hr
   ·cases hg
  ·rw[List.getElem?_append_right (by rw[List.length_replicate];omega),List.length_replicate,List.getElem?_drop]at hg
   rw[show n+k+(i-n-k)=i by omega]at hg
   exact⟨hg,.inr (by omega)⟩
theorem J8{us:List (List T)}{n k i:Nat}(h:n+k<=us.length)(hf:wv us n k=true)(hi:i<k):∃r,us[n+i]?=some r∧r≠[]:=by
 have bI:n+i<us.length:=by omega
 refine⟨us[n+i],List.getElem?_eq_getElem bI,λhe=>?_⟩
 have hm:us[n+i]∈(us.drop n).take k:=by
  refine List.mem_of_getElem? (i:=i) ?_
  rw[List.getElem?_take,if_pos hi,List.getElem?_drop]
  exact List.getElem?_eq_getElem bI
 have:=List.all_eq_true.1 hf _ hm
 rw[he]at this
 cases this
theorem Ub{m lo y r:T}(h:Prim.ev .yv [m,lo,y]=some r):∃us kk n ys,m=.l us∧lo=.c (.int kk n)∧0<=n∧y=.l ys∧n.toNat+ys.length<=us.length∧wv us n.toNat ys.length=true∧r=.l (B4 us n.toNat ys.length):=by
 cases m with
 |c v=>simp[Prim.ev]at h
 |l us=>
  cases lo with
  |l _=>simp[Prim.ev]at h
  |c v=>
   cases v with
   |int kk n=>
    cases y with
    |c _=>simp[Prim.ev]at h
    |l ys=>
     simp only[Prim.ev]at h
     split at h
     ·split at h
      ·split at h
       ·cases h
        exact⟨us,kk,n,ys,rfl,rfl,by assumption,rfl,by assumption,by assumption,rfl⟩
       ·cases h
      ·cases h
     ·cases h
   |_=>cases y<;>simp[Prim.ev]at h
section
variable {M M':Nat->Prop} {B:dE} {d:Nat} {up:Nat->Nat->Value} {ρ:List T} {G:Gh} {a:Act} {w:World} {S:Nat->ai} {P:Program} {s:St}
theorem Rel.J9(h:Rel M B d up s ρ G a w){G':Gh}{W:St}{N:Nat->Prop}(k:cJ (mU W) N G w G' w)(hN:∀i,N i->¬M i)(hM:∀i,M i->M' i)
  (hW:∀r u,W.look r=some u->∃i,r=.o i∧cb G' w ρ i u∧M' i∧∀j∈cD u,M' j)(fE:∀b l,G'.ω b=some l->M' l.id∧b<w.heap.size):Rel M' B d up (s.dV W) ρ G' a w:=by
 have ha:a.put none undef=a:=rfl
 rw[<-ha]
 refine h.step (v:=undef) k hN hM (λn hn=>by cases hn) ⟨rfl,rfl,rfl⟩ ⟨λe n u _ hl=>?_,λb u hl=>?_,λi u hl=>?_,λr u hl j hj=>?_,λi hi=>?_,fE⟩
 ·obtain⟨i,e1,_⟩:=hW _ _ hl;cases e1
 ·obtain⟨i,e1,_⟩:=hW _ _ hl;cases e1
 ·obtain⟨j,e1,e2,_⟩:=hW _ _ hl;cases e1;exact e2
 ·obtain⟨i,_,_,_,e4⟩:=hW _ _ hl;exact e4 j hj
 ·rcases hi with hi|hi
  ·obtain⟨u,hu⟩:=Option.ne_none_iff_exists'.1 hi
   obtain⟨j,e1,_⟩:=hW _ _ hu;cases e1
  ·obtain⟨u,hu⟩:=Option.ne_none_iff_exists'.1 hi
   obtain⟨j,e1,_,e3,_⟩:=hW _ _ hu;cases e1;exact e3
def Gh.fk(G:Gh)(tk j n k:Nat):Gh where
 ω:=λb=>match G.ω b with
  |some (.o i ((r,c)::p))=>if i=tk∧n<=r∧r<n+k then some (.o j ((r-n,c)::p))else some (.o i ((r,c)::p))
  |l=>l
 β:=G.β
 H:=λi p=>if i=j then(match p with| []=>G.H j []|(r,c)::p=>G.H tk ((n+r,c)::p))else G.H i p
 hs:=λi p=>by
  by_cases h:i=j
  ·subst h
   cases p with
   |nil=>simp only[if_true];exact G.hs i []
   |cons x p=>obtain⟨r,c⟩:=x;simp only[if_true];exact G.hs tk _
  ·simp only[h,if_false];exact G.hs i p
theorem Uc{tk j n k:Nat}(h4:j%4=0){I:Lb->Prop}(hI:∀p,I (.o tk p))(hJ:∀p,I (.o j p)):cJ I (λ_=>False) G w (G.fk tk j n k) w:=by
 refine⟨Nat.le_refl _,λb _ hb=>⟨B' hb (λh0=>by simp[Gh.fk,h0]) λl hl hq=>?_,rfl⟩,λb _ hb=>by simp[Gh.fk,hb],λb l hl hn=>⟨?_,rfl⟩,λi _=>⟨rfl,λp hp=>?_⟩⟩
 ·cases l with
  |o i p=>
   cases p with
   |nil=>exact .inr ⟨_,by simp[Gh.fk,hl],hq⟩
   |cons x p=>
    obtain⟨r,c⟩:=x
    simp only[Gh.fk,hl]
    split
    ·exact .inr ⟨_,rfl,rp (by omega) (by simp)⟩
    ·exact .inr ⟨_,rfl,hq⟩
  |_=>simp[qt]at hq
 ·cases l with
  |o i p=>
   cases p with
   |nil=>simp[Gh.fk,hl]
   |cons x p=>
    obtain⟨r,c⟩:=x
    have:i≠tk:=λe=>hn (e▸hI _)
    simp[Gh.fk,hl,this]
  |_=>simp[Gh.fk,hl]
 ·by_cases hi:i=j
  ·subst hi
   rcases hp with rfl|hp|hp
   ·simp[Gh.fk]
   ·exact absurd h4 hp
   ·exact absurd (hJ []) (hp [])
  ·simp[Gh.fk,hi]
theorem Ud{kA yN kx:Wk}{G1:Gh}{WA:St}{Y:SV}(hk:cG M B d up ρ G a w kx G1)(ho:jJ kA kx WA)(rG:∀r u,WA.look r=some u->u=.un)
  (h:kA.fk Y=some yN)(hd:yN.aO S ρ):
  kA.aO S ρ∧yN.ct.i=kA.ct.i∧∃yO G2,cG M B d up ρ G a w yO G2∧jJ yN yO WA∧cJ (λl=>∃i p,l=.o i p∧WA.look (.o i)=none) (λ_=>False) G1 w G2 w∧∀i,G2.H i []=G1.H i []:=by
 unfold Wk.fk at h
 split at h
 ·rename_i j
  split at h
  ·rename_i tk x0 lo y hj
   split at h
   ·rename_i y0 m Ao
    cases hc:(x0.beq y0&&Nat.beq (j%4) 0)with
    |false=>simp[hc]at h
    |true=>
     simp only[hc,cond_true,aH]at h
     simp only[bd]at hc
     have J_:=Lf.beq_eq hc.1
     subst J_
     have hj4:j%4=0:=cO hc.2
     subst h
     have cN:∀{i:Nat} {u:SV},kA.get (.o i)=u->u≠.un->WA.look (.o i)=none:=by
      intro i u hu cW
      cases hl:WA.look (.o i)with
      |none=>rfl
      |some u'=>
       exfalso
       have:=rG _ _ hl
       subst this
       refine cW ?_
       rw[<-hu]
       unfold Wk.get
       rw[ho.2,hl];simp
     have Q5:=cN hj (by simp)
     have mN:=cN Ao (by simp)
     have gy:(kA.em .yv [m,lo,y]).1.aO S ρ:=hd
     obtain⟨xb,r,hr,me⟩:=Wk.be gy
     have obj:=hk.obj j
     have J':=hk.obj tk
     rw[<-ho.get Q5,hj]at obj
     rw[<-ho.get mN,Ao]at J'
     obtain⟨t,ht,db,h2,F,n,zs,hF,mW,rfl,uX,rA,_⟩:=obj
     obtain⟨_,F',u,Ka,hu,hlen,lB⟩:=J'
     rw[hF]at Ka
     cases Ka
     simp only[List.map_cons,List.map_nil,Lf.a_ ht,Lf.a_ hu]at hr
     obtain⟨us,kk,n',ys,e1,e2,h0,e3,hle,Ad,rfl⟩:=Ub hr
     cases e1
     cases e3
     have fi:n'.toNat=n:=by
      unfold k_ at mW
      split at mW
      ·rename_i k2 n2 qX
       have:=Lf.a_ qX
       rw[this]at e2
       cases e2
       rw[if_pos h0]at mW
       exact Option.some.inj mW
      ·cases mW
     rw[fi]at hle Ad me
     have hjt:j≠tk:=by omega
     let yO:Wk:={kx with w:=(kx.w.set (.o tk) (.tk x0 (kA.em .yv [m,lo,y]).2)).set (.o j) (.fr y)}
     let G2:=G1.fk tk j n zs.length
     have key:∀i p,(i=tk∨i=j)->mU [(aK.o j,SV.fr y),(aK.o tk,SV.tk x0 (kA.em .yv [m,lo,y]).2)] (.o i p):=by
      intro i p hi
      show St.look _ (aK.o i)≠none
      rcases hi with rfl|rfl
      ·simp only[St.look]
       cases(aK.o j).beq (.o i)<;>simp[(aK.beq_iff (r:=aK.o i)).2 rfl]
      ·simp[St.look,(aK.beq_iff (r:=aK.o i)).2 rfl]
     have K:cJ (mU [(aK.o j,SV.fr y),(aK.o tk,SV.tk x0 (kA.em .yv [m,lo,y]).2)]) (λ_=>False) G1 w G2 w:=
      Uc hj4 (λp=>key tk p (.inl rfl)) λp=>key j p (.inr rfl)
     have Mj:M j:=hk.rel.key j (.inr (by rw[<-Wk.aD,<-ho.get Q5,hj];simp))
     have Mt:M tk:=hk.rel.key tk (.inr (by rw[<-Wk.aD,<-ho.get mN,Ao];simp))
     have rel:=hk.rel.J9 (M':=M) K (λi hf=>hf.elim) (λi hi=>hi) (λr u' hl=>by
      rcases gJ hl with⟨e1,e2⟩|hl
      ·subst e1 e2
       refine⟨j,rfl,?_,Mj,λi hi=>by simp[cD]at hi⟩
       refine⟨hj4,zs,ht,?_,?_,λi c l' aS=>?_⟩
       ·have:G2.H j []=G1.H j []:=by simp[G2,Gh.fk]
        rw[this];exact db.aF K.size K.free
       ·have:G2.H j []=G1.H j []:=by simp[G2,Gh.fk]
        rw[this]
        intro b off k2 c2 hv
        obtain⟨wd,w1,w2⟩:=rA b off k2 c2 hv
        refine⟨wd,w1,λi c l' aS=>?_⟩
        rw[w2 i c l' aS]
        simp[G2,Gh.fk]
       ·obtain⟨row,fC,_,pR,JD,_⟩:=qd aS
        obtain⟨r',nF,rz⟩:=J8 hle Ad JD
        obtain⟨g1,g2⟩:=lB _ _ nF rz
        rw[uX i row fC]at g1
        cases g1
        refine(g2 c l' pR).move rfl (λb q hb=>⟨?_,rfl⟩) λq=>?_
        ·simp only[List.cons_append,List.nil_append]at hb⊢
         simp only[G2,Gh.fk,hb]
         rw[if_pos (by refine⟨?_,?_,?_⟩<;>first|trivial|omega),show n+i-n=i by omega]
        ·simp[G2,Gh.fk]
      ·rcases gJ hl with⟨e1,e2⟩|hl
       ·subst e1 e2
        refine⟨tk,rfl,⟨h2,F,_,hF,me,by rw[J6 hle];exact hlen,λi r hg cW=>?_⟩,Mt,λi hi=>by simp[cD]at hi⟩
        obtain⟨g1,g2⟩:=J7 hle hg cW
        obtain⟨g3,g4⟩:=lB i r g1 cW
        refine⟨g3,λc l' pR=>(g4 c l' pR).move rfl (λb q hb=>⟨?_,rfl⟩) λq=>?_⟩
        ·simp only[List.cons_append,List.nil_append]at hb⊢
         simp only[G2,Gh.fk,hb]
         rw[if_neg (by omega)]
        ·simp[G2,Gh.fk,Ne.symm hjt]
       ·cases hl) λb l hb=>by
      cases hg:G1.ω b with
      |none=>simp[G2,Gh.fk,hg]at hb
      |some l0=>
       have rK:=hk.rel.fE b l0 hg
       refine⟨?_,rK.2⟩
       cases l0 with
       |o i p=>
        cases p with
        |nil=>simp[G2,Gh.fk,hg]at hb;subst hb;exact rK.1
        |cons x p=>
         obtain⟨r,c⟩:=x
         simp only[G2,Gh.fk,hg]at hb
         split at hb
         ·cases hb;exact Mj
         ·cases hb;exact rK.1
       |_=>simp[G2,Gh.fk,hg]at hb;subst hb;exact rK.1
     have hgx:∀r,(kx.r.dV yO.w).get r=((kx.r.dV kx.w).dV [(aK.o j,SV.fr y),(aK.o tk,SV.tk x0 (kA.em .yv [m,lo,y]).2)]).get r:=by
      intro r
      show(kx.r.dV ((kx.w.set (.o tk) _).set (.o j) _)).get r=_
      rw[Cc]
      simp only[St.dV]
      by_cases h1:aK.o j=r
      ·subst h1;rw[St.bm,St.bm]
      ·rw[St.dl _ _ h1,St.dl _ _ h1,Cc]
     have look:∀(K0:Wk) (v1 v2:SV) (r:aK),((K0.w.set (.o tk) v1).set (.o j) v2).look r=if aK.o j=r then some v2 else if aK.o tk=r then some v1 else K0.w.look r:=by
      intro K0 v1 v2 r
      by_cases h1:aK.o j=r
      ·subst h1;rw[if_pos rfl,St.aJ]
      ·rw[if_neg h1,St.bP _ _ h1]
       by_cases h2:aK.o tk=r
       ·subst h2;rw[if_pos rfl,St.aJ]
       ·rw[if_neg h2,St.bP _ _ h2]
     refine⟨xb,rfl,yO,G2,⟨rel.congr hgx,?_⟩,⟨ho.1,λr=>?_⟩,K.mono ?_ λ_ hf=>hf,λi=>?_⟩
     ·refine(hk.aF.mono (λl hl=>?_) λ_ hf=>hf).trans (K.mono (λl hl=>?_) λ_ hf=>hf)
      ·exact Cb (Cb hl)
      ·cases l with
       |o i p=>
        show((kx.w.set (.o tk) _).set (.o j) _).look (.o i)≠none
        rw[look]
        split
        ·simp
        ·split
         ·simp
         ·rename_i h1 h2
          exfalso
          refine hl ?_
          simp only[St.look]
          have b1:(aK.o j).beq (.o i)=false:=by
           cases hb:(aK.o j).beq (.o i)with
           |false=>rfl
           |true=>exact absurd (aK.beq_iff.1 hb) h1
          have b2:(aK.o tk).beq (.o i)=false:=by
           cases hb:(aK.o tk).beq (.o i)with
           |false=>rfl
           |true=>exact absurd (aK.beq_iff.1 hb) h2
          simp[b1,b2]
       |f=>exact hl.elim
       |x b=>exact absurd rfl (by exact hl)
     ·show(((kA.em .yv [m,lo,y]).1.w.set (.o tk) _).set (.o j) _).look r=(WA.look r).or (((kx.w.set (.o tk) _).set (.o j) _).look r)
      rw[look (kA.em .yv [m,lo,y]).1,look kx]
      by_cases h1:aK.o j=r
      ·subst h1;simp[Q5]
      ·rw[if_neg h1,if_neg h1]
       by_cases h2:aK.o tk=r
       ·subst h2;simp[mN]
       ·rw[if_neg h2,if_neg h2];exact ho.2 r
     ·intro l hl
      cases l with
      |o i p=>
       refine⟨i,p,rfl,?_⟩
       have hh:i=j∨i=tk:=by
        by_cases h1:i=j
        ·exact .inl h1
        ·by_cases h2:i=tk
         ·exact .inr h2
         ·exfalso
          refine hl ?_
          have b1:(aK.o j).beq (.o i)=false:=by
           cases hb:(aK.o j).beq (.o i)with
           |false=>rfl
           |true=>have:=aK.beq_iff.1 hb;cases this;exact absurd rfl h1
          have b2:(aK.o tk).beq (.o i)=false:=by
           cases hb:(aK.o tk).beq (.o i)with
           |false=>rfl
           |true=>have:=aK.beq_iff.1 hb;cases this;exact absurd rfl h2
          simp[St.look,b1,b2]
       rcases hh with rfl|rfl
       ·exact Q5
       ·exact mN
      |f=>exact hl.elim
      |x b=>exact absurd rfl hl
     ·by_cases hi:i=j
      ·subst hi;simp[G2,Gh.fk]
      ·simp[G2,Gh.fk,hi]
   ·cases h
  ·cases h
 ·cases h
end
section
variable {M:Nat->Prop} {B:dE} {d:Nat} {up:Nat->Nat->Value} {ρ:List T} {G:Gh} {a:Act} {w:World} {S:Nat->ai} {P:Program}
variable {cx:Cx} {bY dS oi:Nat} {s:St} {R:List aK} {ct:Ct} {k':Wk} {o:Oper} {Q:Exit->Act->World->Prop}
theorem Ue(cQ:dg P cx)(h:Rel M B d up s ρ G a w)(hn:∀n,o.dst=some n->n<a.tmps.size){c:Call}{x y:Operand}(ho:o.op=.call c)(hc:c.callee=.builtin .append)(dH:c.args.toList=[x,y])
  (hk:gv cx bY dS d o oi ⟨s.only R,[],ct,[]⟩=some k')(hd:k'.aO S ρ)(hM:∀i,ct.i<=i->i<k'.ct.i->¬M i):bf P (Mn M ct.i k'.ct.i) B d up ρ a w s o k'.w Q:=by
 have hw:=cG.start h R ct
 simp only[gv,ho,hc,dH]at hk
 split at hk
 ·rename_i t tx aS
  simp only[bU]at hk
  obtain⟨ti,eh,tj,Hp,te,mK,hk⟩:=hk
  cases Cv:(Nat.beq ti.kd 3&&Nat.beq tj.kd 3&&Nat.ble te.bytes 32768&&Nat.blt 0 te.sz)with
  |false=>simp[Cv]at hk
  |true=>
   simp only[Cv,cond_true]at hk
   simp only[bd]at Cv
   obtain⟨⟨⟨c1,c2⟩,c3⟩,c4⟩:=Cv
   split at hk
   ·rename_i rN hN
    have hk:bn d o rN.1 (.v false [.p rN.2])=k':=Option.some.inj hk
    subst hk
    have g:=T6 (Q:=Q) cQ h hn ho hc dH aS eh Hp mK (cO c1) (cO c2) (Nat.le_of_ble_eq_true c3) (Nat.lt_of_succ_le (by simpa[Nat.blt]using c4)) (k3:=rN.1) (r:=rN.2) hN (bZ.1 hd)
    exact g.2.mono λi hi=>.inl hi
   simp only[bU,aH]at hk
   obtain⟨⟨kA,la,Cr⟩,hA,⟨kB,lb,yK⟩,hB,hk⟩:=hk
   simp only at hB hk
   have fF:0<te.sz:=Nat.lt_of_succ_le (by simpa[Nat.blt]using c4)
   have dG:bn d o {(kB.em (.app (!te.zero.any dU) te.sz) [la,lb]).1.set (.o (df kB.ct.i)) (.ob (Cr&&yK) (kB.em (.app (!te.zero.any dU) te.sz) [la,lb]).2)with
     ct:=⟨(kB.em (.app (!te.zero.any dU) te.sz) [la,lb]).1.ct.a,df kB.ct.i+1⟩} (.v false [.o (df kB.ct.i) []])=k':=hk
   have gy:(kB.em (.app (!te.zero.any dU) te.sz) [la,lb]).1.aO S ρ:=by
    rw[<-dG]at hd
    have h2:=bZ.1 hd
    exact h2
   obtain⟨hdB,r,hr,me⟩:=Wk.be gy
   obtain⟨q1,q2,kx,G2,WA,xs,wA,ags,D7,hla,rG⟩:=TT (jA:=Cr&&yK) hw (hw.f_ x).1 (hw.f_ x).2 hA (λhe=>by simp at he;exact he.1)
   have Kb:∀r u,WA.look r=some u->u=.un:=by
    intro r u hu
    rcases rG with⟨_,_,rfl⟩|⟨j,rfl,_⟩
    ·cases hu
    ·rcases gJ hu with⟨_,e2⟩|hl
     ·exact e2
     ·cases hl
   have hB0:∃yN,kA.sH (te.zero.any dU&& !cx.fz bY dS oi) (bC d (Wk.get ⟨s.only R,[],ct,[]⟩) y)=yN:=⟨_,rfl⟩
   obtain⟨yN,xc⟩:=hB0
   rw[xc]at hB
   have Uf:yN.aO S ρ:=TU hB hdB
   obtain⟨q1',kx,G2,wA,D7,rG⟩:yN.ct.i=kA.ct.i∧∃yO Hj,cG M B d up ρ G a w yO Hj∧jJ yN yO WA∧
     ((a.eval x=.slice none 0 0∧xs=[]∧WA=[])∨∃jS,WA=[(.o jS,.un)]∧M jS∧jS%4≠2∧a.eval x=Hj.H jS []∧dx Hj w jS (Cr&&yK) [] (.l xs)):=by
    unfold Wk.sH at xc
    split at xc
    ·rename_i kz hz
     subst xc
     have Kc:kA.fk (bC d (Wk.get ⟨s.only R,[],ct,[]⟩) y)=some kz:=by
      cases hb:(te.zero.any dU&& !cx.fz bY dS oi)with
      |true=>rw[hb]at hz;exact hz
      |false=>rw[hb]at hz;cases hz
     obtain⟨_,g2,yO,Hj,g3,g4,g5,g6⟩:=Ud wA D7 Kb Kc Uf
     refine⟨g2,yO,Hj,g3,g4,rG.imp_right ?_⟩
     rintro⟨j,e1,e2,e3,e4,e5⟩
     subst e1
     refine⟨j,rfl,e2,e3,by rw[g6];exact e4,e5.aF g5 (λp hp=>?_) λhf=>hf⟩
     obtain⟨i',p',f1,f2⟩:=hp
     cases f1
     rw[rB]at f2
     simp at f2
    ·subst xc
     exact⟨rfl,kx,G2,wA,D7,rG⟩
   have hy:ca G2 w ρ (bC d (Wk.get ⟨s.only R,[],ct,[]⟩) y) (a.eval y):=(hw.f_ y).1.aF wA.aF λ_ _ hf=>hf
   obtain⟨_,p2,ky,G3,WB,t2,lI,wB,D8,J3,hlb,JK,kp,_,mZ⟩:=TV (jA:=Cr&&yK) (P:=P) wA D7 Kb hy (hw.f_ y).2 hB hdB (λhe=>by simp at he;exact he.2)
   simp only[List.map_cons,List.map_nil,Lf.a_ hla,Lf.a_ hlb]at hr
   obtain⟨ys,rfl,bI,lA,D9,Ug,rfl⟩:=J2 hr
   have im:=(cQ.ty _ _ Hp).sl (cO c2)
   obtain⟨cv,s1,s2,s3⟩:=mZ ys te.sz tx tj.el rfl fF Ug (λhf=>lA (by rw[hf];rfl)) im
   have iv:kB.ct.i=ct.i:=by rw[p2,q1',q1]
   have mM:k'.ct.i=df ct.i+1:=by rw[<-dG,lH,<-iv]
   have jY:=uD ct.i
   rw[mM,<-dG,<-iv]
   refine bf.mono (M:=Mn M (df kB.ct.i) (df kB.ct.i+1)) ?_ (λi hi=>hi.imp_right λhi=>by rw[iv]at hi⊢;exact⟨by omega,hi.2⟩)
   refine T2 (k5:={(kB.em (.app (!te.zero.any dU) te.sz) [la,lb]).1 with ct:=⟨(kB.em (.app (!te.zero.any dU) te.sz) [la,lb]).1.ct.a,df kB.ct.i⟩}) (jS:=WA.head?.bind λz=>match z.1 with| .o j=>some j|_=>none) (WA:=WA) (WB:=WB) (G3:=G3) cQ eh Hp mK (cO c1) (cO c2) (Nat.le_of_ble_eq_true c3) fF
    h hn ho hc dH aS wB ⟨(D8.same (Wk.aT kB (.app (!te.zero.any dU) te.sz) [la,lb])).1,(D8.same (Wk.aT kB (.app (!te.zero.any dU) te.sz) [la,lb])).2⟩ (D2 _) (hM _ (by show ct.i<=df kB.ct.i;rw[iv];exact jY) (by rw[mM];show df kB.ct.i<_;rw[iv];omega)) ?_ J3 D9 bI (e':=tj.el) s1 s2 s3 me (λr'=>?_)
   ·rcases rG with⟨e1,e2,e3⟩|⟨j,e1,e2,e22,e3,e4⟩
    ·left
     subst e3
     exact⟨rfl,rfl,e1,e2⟩
    ·right
     subst e1
     refine⟨j,rfl,rfl,e2,e22,by rw[JK];exact e3,e4.aF kp (λp hp=>?_) λhf=>hf⟩
     obtain⟨i',p',e5,e6⟩:=hp
     cases e5
     rw[rB]at e6
     simp at e6
   ·show((kB.em (.app (!te.zero.any dU) te.sz) [la,lb]).1.w.set (.o (df kB.ct.i)) _).look r'=_
    rw[show((kB.em (.app (!te.zero.any dU) te.sz) [la,lb]).1.w.set (.o (df kB.ct.i)) (.ob (Cr&&yK) (kB.em (.app (!te.zero.any dU) te.sz) [la,lb]).2)).look r'=_ from qm (k:=(kB.em (.app (!te.zero.any dU) te.sz) [la,lb]).1) r']
    rw[show(Wk.w (kB.em (.app (!te.zero.any dU) te.sz) [la,lb]).1).look r'=kB.w.look r' from rfl,D8.2 r',<-Option.or_assoc]
    congr 1
    show _=St.look ((aK.o (df kB.ct.i),_)::(WB++WA)) r'
    simp only[St.look]
    cases(aK.o (df kB.ct.i)).beq r'<;>simp
 ·cases hk
end
end Go.Proofs.YtbhplkilhknciaaC

/- The walk by reflection: a part of its laws, for any function. Conditions: none. -/
import Derived.Test.YtbhplkilhknciaaKd
import Derived.ChangeSame
import Derived.JoinedOf
import Derived.JoinedAt
import Derived.RowKit3
import Derived.Carry
namespace Go.Proofs.YtbhplkilhknciaaC
set_option linter.unusedVariables false
open Go.ChangeShapes Go.WideShapes Go.ChangeAt Go.RowKit
section
variable {P:Program}
def wc(P:Program)(r:TypeId->Option (List Ty)):Nat->List Field->Option (List Ty)
 |_,[]=>some []
 |o,f::fs=>bif Nat.beq f.offset o then(r f.type).bind λa=>bif Nat.beq (P.cellsOf f.type) a.length then(wc P r (o+a.length) fs).bind λb=>some (a++b)else none else none
def tR(P:Program):Nat->TypeId->Option (List Ty)
 |0,_=>none
 |n+1,t=>
  match P.underlying t with
  |some (.int k)=>some [.i k]
  |some .bool=>some [.b]
  |some .string=>some [.s]
  |some (.slice e)=>(tR P n e).bind λfs=>bif fs.isEmpty then none else some [.sl fs]
  |some (.struct fs)=>(wc P (tR P n) 0 fs.toList).bind λts=>bif Nat.beq ts.length (P.cellsOf t)then some ts else none
  |_=>none
variable {H:Type} {enc:TypeId×Value->H} {w:World} {base:Nat} {spare:Nat->Bool} {held:Bool} {ω:Nat->Option Lb}
theorem dm.append{ω:Nat->Option Lb}:∀{ts nj:List T} {vs ql:List Value},dm ω w ts vs->dm ω w nj ql->dm ω w (ts++nj) (vs++ql)
 | [],nj,[],ql,_,h'=>h'
 |t::ts,nj,v::vs,ql,h,h'=>⟨h.1,dm.append h.2 h'⟩
 | [],_,_::_,_,h,_=>h.elim
 |_::_,_,[],_,h,_=>h.elim
theorem Kr{r:TypeId->Option (List Ty)}{cs:List Value}:∀{fl:List Field} {o:Nat} {ys:List Ty},wc P r o fl=some ys->
  (∀f∈fl,∀a,r f.type=some a->∃ts,dm ω w ts ((cs.drop f.offset).take (P.cellsOf f.type))∧fQ a ts)->∃ts,dm ω w ts ((cs.drop o).take ys.length)∧fQ ys ts
 | [],o,ys,h,_=>by
  simp only[wc,aJ]at h
  subst h
  exact⟨[],by simp[dm],rfl⟩
 |f::fl,o,ys,h,hr=>by
  unfold wc at h
  cases h1:Nat.beq f.offset o with
  |false=>simp[h1]at h
  |true=>
   simp only[h1,cond_true,bQ]at h
   obtain⟨a,ha,h⟩:=h
   cases h2:Nat.beq (P.cellsOf f.type) a.length with
   |false=>simp[h2]at h
   |true=>
    simp only[h2,cond_true,bQ,aJ]at h
    obtain⟨b,hb,rfl⟩:=h
    have e1:=cK h1
    have e2:=cK h2
    obtain⟨t1,g1,g2⟩:=hr f (.head _) a ha
    obtain⟨t2,g3,g4⟩:=Kr hb λf hf=>hr f (.tail _ hf)
    refine⟨t1++t2,?_,g2.append g4⟩
    rw[e1,e2]at g1
    rw[List.length_append,List.take_add,List.drop_drop]
    exact g1.append g3
theorem Tb:∀(n m:Nat) {t:TypeId} {cs:List Value} {x:DataW H×List MemPlace} {fs:List Ty},DataW.trod enc P w 0 spare held n t cs=some x->tR P m t=some fs->
  (∀b,ω b=none)->∃ts,dm ω w ts cs∧fQ fs ts:=by
 intro n
 induction n with
 |zero=>intro m t cs x fs h;simp[DataW.trod]at h
 |succ n ih=>
  intro m t cs x fs h ht eT
  cases m with
  |zero=>cases ht
  |succ m=>
   unfold tR at ht
   cases hu:P.underlying t with
   |none=>rw[hu]at ht;cases ht
   |some u=>
    rw[hu]at ht
    cases u with
    |int k=>
     simp only[aJ]at ht
     subst ht
     obtain⟨a,e0,e1,wa⟩:=DataW.trod_int hu h
     subst e0 e1
     exact⟨[.c (.int k a)],⟨.c rfl,trivial⟩,_,_,rfl,⟨_,rfl,wa⟩,rfl⟩
    |bool=>
     simp only[aJ]at ht
     subst ht
     obtain⟨b,rfl,_⟩:=DataW.trod_bool hu h
     exact⟨[.c (.bool b)],⟨.c rfl,trivial⟩,_,_,rfl,⟨_,rfl⟩,rfl⟩
    |string=>
     simp only[aJ]at ht
     subst ht
     obtain⟨s,rfl,_,hs⟩:=DataW.trod_string hu h
     exact⟨[.c (.string s)],⟨.c rfl,trivial⟩,_,_,rfl,⟨_,rfl,hs⟩,rfl⟩
    |slice e=>
     simp only[bQ]at ht
     obtain⟨gs,hg,ht⟩:=ht
     cases hz:gs.isEmpty with
     |true=>simp[hz]at ht
     |false=>
      simp only[hz,cond_false,aJ]at ht
      subst ht
      rcases DataW.trod_slice hu h with⟨rfl,_⟩|⟨a,len,cap,elems,rest,n',e1,rfl,_,_,hlc,hcm,E0,aR,_⟩
      ·exact⟨[.l []],⟨.nil,trivial⟩,_,_,rfl,⟨[],rfl,Nat.zero_le _,by simp⟩,rfl⟩
      ·cases e1
       have each:∀i,i<len->∃vs ts,w.cells? 0 (a.add (i*P.cellsOf e)) (P.cellsOf e)=some vs∧dm ω w ts vs∧fQ gs ts:=by
        intro i hi
        have h1:=aR i hi
        rw[<-E0]at hi
        rw[List.getElem?_eq_getElem hi,bQ]at h1
        obtain⟨vs,g1,g2⟩:=h1
        obtain⟨ts,g3,g4⟩:=ih m g2 hg eT
        exact⟨vs,ts,g1,g3,g4⟩
       by_cases h0:len=0
       ·subst h0
        exact⟨[.l []],⟨.nil,trivial⟩,_,_,rfl,⟨[],rfl,Nat.zero_le _,by simp⟩,rfl⟩
       ·have hc:=λi=>λhi:i<len=>Classical.choose_spec (each i hi)
        let vf:Nat->List Value:=λi=>if hi:i<len then Classical.choose (each i hi)else []
        have hv:∀i,i<len->∃ts,w.cells? 0 (a.add (i*P.cellsOf e)) (P.cellsOf e)=some (vf i)∧dm ω w ts (vf i)∧fQ gs ts:=by
         intro i hi
         have:vf i=Classical.choose (each i hi):=by simp[vf,hi]
         rw[this]
         exact hc i hi
        have ht:∃tf:Nat->List T,∀i,i<len->w.cells? 0 (a.add (i*P.cellsOf e)) (P.cellsOf e)=some (vf i)∧dm ω w (tf i) (vf i)∧fQ gs (tf i):=by
         refine⟨λi=>if hi:i<len then Classical.choose (hv i hi)else [],λi hi=>?_⟩
         have:=Classical.choose_spec (hv i hi)
         simpa[hi]using this
        obtain⟨tf,xh⟩:=ht
        have lm:∀i,i<len->(vf i).length=P.cellsOf e:=λi hi=>(World.cells?_some (xh i hi).1).2.1
        have Tc:∀i,i<len->(tf i).length=gs.length:=λi hi=>(xh i hi).2.2.length
        have Td:0<P.cellsOf e:=by
         have h1:=lm 0 (by omega)
         have h2:=Tc 0 (by omega)
         have h3:=(xh 0 (by omega)).2.1.length
         cases gs with
         |nil=>simp at hz
         |cons _ _=>simp at h2;omega
        obtain⟨b,off,spot⟩:=a
        have nD:∀i j,i<len->j<P.cellsOf e->w.cell? ((⟨b,off,spot⟩:Addr).add (i*P.cellsOf e) |>.add j)=(vf i)[j]?:=λi j hi hj=>(World.cells?_some (xh i hi).1).2.2 j hj
        have Kt:spot=none:=by
         have:=nD 0 0 (by omega) Td
         simp only[Nat.zero_mul,Addr.add,if_true]at this
         have hl:0<(vf 0).length:=by rw[lm 0 (by omega)];exact Td
         rw[List.getElem?_eq_getElem hl]at this
         unfold World.cell? at this
         split at this
         ·split at this
          ·cases this
          ·rename_i h;simpa using h
         ·cases this
        subst Kt
        have mg:∀i j,((⟨b,off,none⟩:Addr).add (i*P.cellsOf e) |>.add j)=⟨b,off+(i*P.cellsOf e+j),none⟩:=by
         intro i j
         have e1:∀k,(⟨b,off,none⟩:Addr).add k=⟨b,off+k,none⟩:=by
          intro k
          unfold Addr.add
          split
          ·rename_i h;subst h;rfl
          ·rfl
         have e2:∀o k,(⟨b,o,none⟩:Addr).add k=⟨b,o+k,none⟩:=by
          intro o k
          unfold Addr.add
          split
          ·rename_i h;subst h;rfl
          ·rfl
         rw[e1,e2,Nat.add_assoc]
        have bH:b<w.heap.size:=by
         have:=World.cells?_block (xh 0 (by omega)).1 Td
         rw[Nat.zero_mul]at this
         exact this
        have jv:∀i j t,cI ((List.range len).map tf) i j=some t->i<len∧(tf i)[j]?=some t:=by
         intro i j t h
         unfold cI at h
         rw[bQ]at h
         obtain⟨r,h1,h2⟩:=h
         rw[List.getElem?_map,Option.map_eq_some_iff]at h1
         obtain⟨i',h3,rfl⟩:=h1
         have hi:i<len:=by
          rcases Nat.lt_or_ge i len with h|h
          ·exact h
          ·rw[List.getElem?_eq_none (by simpa using h)]at h3;cases h3
         rw[List.getElem?_range hi]at h3
         cases h3
         exact⟨hi,h2⟩
        refine⟨[.l ((List.range len).map tf)],⟨?_,trivial⟩,_,_,rfl,⟨_,rfl,by simp;omega,?_⟩,rfl⟩
        ·have:=du.l (ω:=ω) (w:=w) (xs:=(List.range len).map tf) (b:=b) (off:=off) (wd:=P.cellsOf e) (cap:=cap) (cv:=λi j=>((vf i)[j]?).getD default)
          (by
           intro r hr
           rw[List.mem_map]at hr
           obtain⟨i,hi,rfl⟩:=hr
           have hi:=List.mem_range.1 hi
           rw[(xh i hi).2.1.length,lm i hi])
          (by simpa using hlc) (eT b) bH
          (by
           intro i j t h
           obtain⟨hi,hj⟩:=jv i j t h
           have oX:j<(vf i).length:=by rw[<-(xh i hi).2.1.length];exact(List.getElem?_eq_some_iff.1 hj).1
           have:=nD i j hi (by rw[<-lm i hi];exact oX)
           rw[mg]at this
           rw[this,List.getElem?_eq_getElem oX]
           rfl)
          (by
           intro i j t h
           obtain⟨hi,hj⟩:=jv i j t h
           have oX:j<(vf i).length:=by rw[<-(xh i hi).2.1.length];exact(List.getElem?_eq_some_iff.1 hj).1
           refine(xh i hi).2.1.get j t _ hj ?_
           rw[List.getElem?_eq_getElem oX]
           rfl)
         simpa using this
        ·intro r hr
         rw[List.mem_map]at hr
         obtain⟨i,hi,rfl⟩:=hr
         exact(xh i (List.mem_range.1 hi)).2.2
    |struct fl=>
     simp only[bQ]at ht
     obtain⟨ys,hy,ht⟩:=ht
     cases hz:Nat.beq ys.length (P.cellsOf t)with
     |false=>simp[hz]at ht
     |true=>
      simp only[hz,cond_true,aJ]at ht
      subst ht
      obtain⟨xs,n',e1,_,hl,vH,aR⟩:=DataW.trod_struct hu h
      cases e1
      obtain⟨ts,h1,h2⟩:=Kr (ω:=ω) (w:=w) (cs:=cs) hy λf hf a ha=>by
       obtain⟨i,hi,hfi⟩:=List.getElem_of_mem hf
       have h1:=aR i f (by rw[<-hfi,<-Array.getElem?_toList];exact List.getElem?_eq_getElem hi)
       have bR:i<xs.length:=by rw[vH];simpa using hi
       rw[List.getElem?_eq_getElem bR]at h1
       exact ih m h1 ha eT
      refine⟨ts,?_,h2⟩
      rw[List.drop_zero,cK hz,<-hl,List.take_length]at h1
      exact h1
    |_=>cases ht
def Dd(P:Program)(t:TypeId):Bool:=
 match P.underlying t with
 |some (.struct _)=>true
 |_=>false
def zd(P:Program):List TypeId->List PS->Option (List Ty)
 | [],[]=>some []
 |t::ts,.v ag n::ps=>(tR P 16 t).bind λfs=>bif Nat.beq fs.length n&&(Dd P t==ag)then(zd P ts ps).bind λgs=>some (fs++gs)else none
 |_,_=>none
theorem Ku{bl:Nat->Option Nat}(eT:∀b,ω b=none){r:Reach}{b0:Nat}:∀{ts:List TypeId} {vs:List Value} {ds:List (DataW H)} {pl:List MemPlace} {ps:List PS} {ys:List Ty} {i:Nat},DataW.TrodAll enc P w 0 spare held ts vs ds pl->
  (∀(j:Nat) t v,ts[j]?=some t->vs[j]?=some v->Value.okWide P w r b0 t v)->zd P ts ps=some ys->∃us,tE ω w bl i ps vs us∧fQ ys us
 | [],[],[],pl,ps,ys,i,h,hv,hp=>by
  cases ps with
  |nil=>simp only[zd,aJ]at hp;subst hp;exact⟨[],⟨rfl,rfl⟩,rfl⟩
  |cons _ _=>simp[zd]at hp
 |t::ts,v::vs,d::ds,pl,ps,ys,i,⟨p,q,h1,h2,e⟩,hv,hp=>by
  cases ps with
  |nil=>simp[zd]at hp
  |cons p0 ps=>
   cases p0 with
   |x n=>simp[zd]at hp
   |v ag n=>
    simp only[zd,bQ]at hp
    obtain⟨fs,wV,hp⟩:=hp
    cases hc:(Nat.beq fs.length n&&(Dd P t==ag))with
    |false=>simp[hc]at hp
    |true=>
     simp only[hc,cond_true,bQ,aJ]at hp
     obtain⟨gs,hgs,rfl⟩:=hp
     simp only[bB,beq_iff_eq]at hc
     obtain⟨us,g1,g2⟩:=Ku (bl:=bl) (i:=i+1) eT h2 (λj t v hj oX=>hv (j+1) t v hj oX) hgs
     obtain⟨f,h1⟩:=h1
     obtain⟨t1,g3,g4⟩:=Tb f 16 h1 wV eT
     have dL:=hv 0 t v rfl rfl
     refine⟨t1++us,⟨v,vs,v.cells.toList,t1,us,rfl,rfl,by rw[g4.length];exact cK hc.1,?_,g3,g1⟩,g4.append g2⟩
     have hs:=hc.2
     unfold Dd at hs
     unfold tR at wV
     cases hu:P.underlying t with
     |none=>rw[hu]at wV;cases wV
     |some u=>
      rw[hu]at wV hs
      cases u with
      |int k=>obtain⟨a,rfl⟩:=okWide_int hu dL;subst hs;exact⟨rfl,λx h=>by cases h⟩
      |bool=>obtain⟨a,rfl⟩:=okWide_bool hu dL;subst hs;exact⟨rfl,λx h=>by cases h⟩
      |string=>obtain⟨a,rfl⟩:=okWide_string hu dL;subst hs;exact⟨rfl,λx h=>by cases h⟩
      |slice e=>obtain⟨a,l,c,rfl⟩:=okWide_slice hu dL;subst hs;exact⟨rfl,λx h=>by cases h⟩
      |struct fl=>
       obtain⟨cs,rfl,_⟩:=okWide_struct hu dL
       subst hs
       simp[Value.cells]
      |_=>cases wV
 | [],_::_,_,_,_,_,_,h,_,_=>by simp[DataW.TrodAll]at h
 | [],[],_::_,_,_,_,_,h,_,_=>by simp[DataW.TrodAll]at h
 |_::_,[],_,_,_,_,_,h,_,_=>by simp[DataW.TrodAll]at h
 |_::_,_::_,[],_,_,_,_,h,_,_=>by simp[DataW.TrodAll]at h
theorem Kv(hl:laidOutB P=true){W W':World}{Te:Nat->Bool}:∀{ts:List TypeId} {vs:List Value} {ds:List (DataW H)} {ps:List MemPlace},(∀t∈ts,P.readableRec t=true∧t<P.types.size)->
  DataW.TrodAll enc P W base (λ_=>true) true ts vs ds ps->(∀p∈ps,W.sameAt W' p)->(∀p∈ps,Te p.block=true)->DataW.TrodAll enc P W' base Te true ts vs ds ps
 | [],[],[],_,_,h,_,_=>h
 |t::ts,_::_,_::_,_,hT,⟨p,q,h1,h2,e⟩,hs,hb=>⟨p,q,WideElems.Trod_stays hl (hT t (.head _)).1 (hT t (.head _)).2 h1 (λx hx=>hs x (by rw[e];exact List.mem_append_left _ hx)) (λx hx=>hb x (by rw[e];exact List.mem_append_left _ hx)),
   Kv hl (λt ht=>hT t (.tail _ ht)) h2 (λx hx=>hs x (by rw[e];exact List.mem_append_right _ hx)) (λx hx=>hb x (by rw[e];exact List.mem_append_right _ hx)),e⟩
 | [],_::_,_,_,_,h,_,_=>by simp[DataW.TrodAll]at h
 | [],[],_::_,_,_,h,_,_=>by simp[DataW.TrodAll]at h
 |_::_,[],_,_,_,h,_,_=>by simp[DataW.TrodAll]at h
 |_::_,_::_,[],_,_,h,_,_=>by simp[DataW.TrodAll]at h
end
theorem Tf{H:Type}{enc:TypeId×Value->H}{C:Checked}{f:FuncId}{fn:Func}{s:ChangeSpec}{apart fresh handsOn again:Bool}{sg:lV}{F:ay}{ys:List Ty}{rt:TypeId}
  (qs:s.vars=[])(we:∀ds:List (DataW H),ds.length=fn.params.size->s.fn H ds={results:=[.lit (.bool true)],args:=ds})
  (hl:laidOutB C.prog=true)(nL:(fn.params.toList.all λt=>C.prog.readableRec t&&Nat.blt t C.prog.types.size)=true)
  (N5:fn.resultTypes=#[rt])(sA:C.prog.underlying rt=some .bool)(tG:sg.rs=[(false,[.s])])
  (dL:Db C.prog sg f F)(yi:zd C.prog fn.params.toList sg.ps=some ys)(hF:∀ts,fQ ys ts->F ts=some [.c (.bool true)])
  (W:World)(b0:Nat)(args:Array Value)(ds gs:List (DataW H))(before:List MemPlace)
  (fB:∀(j:Nat) t v,fn.params[j]?=some t->args[j]?=some v->Value.okWide C.prog W .any b0 t v)
  (hW:DataW.Whole enc C.prog fn.params.toList s.vars apart W args.toList ds gs before)(Kw:x9 (λ_=>none) W):
  Calls C.prog f args W λe W'=>∃v,e=.returned v∧s.post enc C.prog fn apart fresh handsOn again W args v W':=by
 have wg:=hW
 obtain⟨p,q,hA,hV,rfl,_,_⟩:=hW
 rw[qs]at hV
 obtain⟨rfl,rfl⟩:gs=[]∧q=[]:=by
  cases gs with
  |nil=>exact⟨rfl,hV⟩
  |cons _ _=>exact hV.elim
 have hlen:ds.length=fn.params.size:=by
  have:∀{ts:List TypeId} {vs:List Value} {ds:List (DataW H)} {ps:List MemPlace},DataW.TrodAll enc C.prog W 0 (λ_=>true) true ts vs ds ps->ds.length=ts.length:=by
   intro ts
   induction ts with
   |nil=>intro vs ds ps h;cases vs<;>cases ds<;>simp_all[DataW.TrodAll]
   |cons t ts ih=>
    intro vs ds ps h
    cases vs with
    |nil=>simp[DataW.TrodAll]at h
    |cons v vs=>
     cases ds with
     |nil=>simp[DataW.TrodAll]at h
     |cons d ds=>obtain⟨_,_,_,h2,_⟩:=h;simp[ih h2]
  rw[this hA];simp
 have hT:∀t∈fn.params.toList,C.prog.readableRec t=true∧t<C.prog.types.size:=by
  intro t ht
  have:=List.all_eq_true.1 nL t ht
  simp only[bB]at this
  exact⟨this.1,Nat.blt_eq▸this.2⟩
 obtain⟨us,n9,Kx⟩:=Ku (ω:=λ_=>none) (bl:=λ_=>none) (i:=0) (λ_=>rfl) hA (λj t v h1 h2=>fB j t v (by simpa using h1) (by simpa using h2)) yi
 have hc:=dL.2 W (λ_=>none) (λ_=>none) args.toList us _ (hF us Kx) ⟨λb l h=>by(cases h),λi b h=>by(cases h),Kw⟩ n9
 rw[Array.toArray_toList]at hc
 refine hc.mono λe W' h=>?_
 obtain⟨v,G,is,o1,o2,rfl,hp⟩:=h
 refine⟨v,rfl,?_⟩
 have hold:∀x∈p++[],MemPlace.block x<W.heap.size:=wg.lt
 have pZ:∀b,b<W.heap.size->W'.heap[b]?=W.heap[b]?:=λb hb=>(hp.free b hb rfl).2
 have p9:∀x∈p,W.sameAt W' x:=by
  intro x hx
  have hb:=hold x (by simpa using hx)
  cases x with
  |cell b o=>show W'.cell? _=W.cell? _;unfold World.cell?;rw[pZ b hb]
  |map b=>exact pZ b hb
 have hv:v=.bool true:=by
  have h1:=hp.ret
  rw[tG]at h1
  obtain⟨t1,t2,i1,i2,e1,e2,h1,h2⟩:=h1
  obtain⟨h1,_⟩:=h1
  have h3:=hp.outs
  rw[e1]at h3
  cases t1 with
  |nil=>simp[bq]at h1
  |cons t t1=>
   cases i1 with
   |nil=>simp[bq]at h1
   |cons i i1=>
    simp only[List.cons_append,List.cons.injEq]at h3
    rw[<-h3.1]at h1
    obtain⟨_,hd,_⟩:=h1
    cases hd
    rfl
 subst hv
 have dv:=λsp vq=>Kv (enc:=enc) (base:=0) (Te:=sp) hl hT hA p9 vq
 have vq:=we ds hlen
 have B8:∀(j:Nat) (t:TypeId) (r:Value),fn.resultTypes[j]?=some t->((Value.bool true).resultList fn.resultTypes.size)[j]?=some r->Value.okWide C.prog W' .any 0 t r:=by
  intro j t r hj hr
  rw[N5]at hj hr
  have hj0:j=0:=by
   rcases Nat.eq_zero_or_pos j with h|h
   ·exact h
   ·have:(#[rt]:Array TypeId)[j]?=none:=by simp;omega
    rw[this]at hj;cases hj
  subst hj0
  cases hj;cases hr
  simp[Value.okWide,sA,Cell.okWide,Cell.ok]
 have Ky:∀(b:Nat) (sp:Nat->Bool) (hd:Bool),DataW.TrodAll enc C.prog W' b sp hd fn.resultTypes.toList ((Value.bool true).resultList fn.resultTypes.size) (s.fn H (ds++[])).results []:=by
  intro b sp hd
  rw[List.append_nil,vq,N5]
  exact⟨[],[],⟨1,by simp[DataW.trod,sA,Value.cells]⟩,rfl,rfl⟩
 have Kz:∀sp:Nat->Bool,(∀x∈p,sp x.block=true)->DataW.TrodAll enc C.prog W' 0 sp true fn.params.toList args.toList (s.fn H (ds++[])).args p:=by
  intro sp hs
  rw[List.append_nil,vq]
  exact dv sp hs
 have Tg:∀sp:Nat->Bool,DataW.TrodVars enc C.prog W' sp s.vars (s.fn H (ds++[])).vars []:=by
  intro sp
  rw[List.append_nil,vq,qs]
  rfl
 have hW2:=wg
 obtain⟨_,_,_,_,_,hz,hn⟩:=hW2
 refine⟨ds,[],p++[],[],p,[],wg,Ky _ _ _,Kz _ (λx hx=>decide_eq_true (hold x (by simpa using hx))),Tg _,⟨hp.so.os,hp.so.output,λi hi=>?_⟩,λ_=>⟨B8,_,[],p++[],⟨[]++p,[],trodAll_append (Kz _ λ_ _=>rfl) (Ky _ _ _),by rw[qs];rfl,rfl,?_,hn⟩,?_⟩⟩
 ·rw[pZ i hi]
  cases W.heap[i]? with
  |none=>trivial
  |some o=>cases o<;>simp
 ·intro b off hm
  have h1:=hz b off hm
  have hb:=hold _ hm
  unfold World.frozen? at h1⊢
  rw[show W'.heap[(⟨b,off,none⟩:Addr).block]?=W.heap[(⟨b,off,none⟩:Addr).block]? from pZ b hb]
  exact h1
 ·intro x hx _
  exact hx
theorem Th{H:Type}{enc:TypeId×Value->H}{C:Checked}{os:Os}{f:FuncId}{fn:Func}{s:ChangeSpec}{conds:List PathCond}{apart fresh handsOn again:Bool}{sg:lV}{F:ay}{ys:List Ty}{rt:TypeId}
  (own:ownKnob C.prog.godebug=none)(started:os.Started)(De:C.prog.inits.idxOf? f=none)(IQ:C.prog.funcs[f]?=some fn)
  (witness:∃(w:World) (tape:Tape) (i:Input),w.os=os∧(w.forCall tape i).Shaped C.prog∧i.vars=[]∧Input.okWide C.prog (w.forCall tape i) .any w.heap.size f i∧
   s.pre6 enc C.prog fn conds apart (w.forCall tape i).memory i.args∧({}:Assume).holds C.prog (lone (Frame.enter C.prog f i.args .normal) [] (w.forCall tape i)))
  (qs:s.vars=[])(we:∀ds:List (DataW H),ds.length=fn.params.size->s.fn H ds={results:=[.lit (.bool true)],args:=ds})
  (hl:laidOutB C.prog=true)(nL:(fn.params.toList.all λt=>C.prog.readableRec t&&Nat.blt t C.prog.types.size)=true)
  (N5:fn.resultTypes=#[rt])(sA:C.prog.underlying rt=some .bool)(tG:sg.rs=[(false,[.s])])
  (dL:Db C.prog sg f F)(yi:zd C.prog fn.params.toList sg.ps=some ys)(hF:∀ts,fQ ys ts->F ts=some [.c (.bool true)])(Tc:GW=[]:=by rfl):
  ReturnsInHanded {} C os f .any (s.pre6 enc C.prog fn conds apart) (s.post enc C.prog fn apart fresh handsOn again):=by
 refine returnsInHanded_of_change own started De IQ witness ?_
 intro W b0 args ds gs before fB hW _ _
 exact Tf qs we hl nL N5 sA tG dL yi hF W b0 args ds gs before fB hW (λx hx=>by rw[Tc]at hx;cases hx)
def pv(p:Prim)(l:List T)(k:T->Option (List T)):Option (List T):=(Prim.ev p l).bind k
theorem KA(p:Prim)(l:List T)(k:T->Option (List T)):pv p l k=(Prim.ev p l).bind k:=rfl
def Yz(x:T)(k:T->Option (List T)):Option (List T):=(Prim.ev (.pQ) [x]).bind k
theorem Ti(x:T)(k:T->Option (List T)):Yz x k=(Prim.ev (.pQ) [x]).bind k:=rfl
def Ya(x y:T)(k:T->Option (List T)):Option (List T):=(Prim.ev (.bin .add) [x,y]).bind k
theorem Tj(x y:T)(k:T->Option (List T)):Ya x y k=(Prim.ev (.bin .add) [x,y]).bind k:=rfl
def Yb(x y:T)(k:T->Option (List T)):Option (List T):=(Prim.ev (.ia) [x,y]).bind k
theorem Tk(x y:T)(k:T->Option (List T)):Yb x y k=(Prim.ev (.ia) [x,y]).bind k:=rfl
def Yl(x y:T)(k:T->Option (List T)):Option (List T):=(Prim.ev (.bin .lss) [x,y]).bind k
theorem Tl(x y:T)(k:T->Option (List T)):Yl x y k=(Prim.ev (.bin .lss) [x,y]).bind k:=rfl
def Ye(x y:T)(k:T->Option (List T)):Option (List T):=(Prim.ev (.bin .eql) [x,y]).bind k
theorem Tm(x y:T)(k:T->Option (List T)):Ye x y k=(Prim.ev (.bin .eql) [x,y]).bind k:=rfl
def Yn(x:T)(k:T->Option (List T)):Option (List T):=(Prim.ev (.len) [x]).bind k
theorem Tn(x:T)(k:T->Option (List T)):Yn x k=(Prim.ev (.len) [x]).bind k:=rfl
def Yt(x:T)(k:T->Option (List T)):Option (List T):=(Prim.ev (.un .not) [x]).bind k
theorem To(x:T)(k:T->Option (List T)):Yt x k=(Prim.ev (.un .not) [x]).bind k:=rfl
def Yp(x y:T)(k:T->Option (List T)):Option (List T):=(Prim.ev (.app true 1) [x,y]).bind k
theorem Tp(x y:T)(k:T->Option (List T)):Yp x y k=(Prim.ev (.app true 1) [x,y]).bind k:=rfl
def Yo(x y:T)(k:T->Option (List T)):Option (List T):=(Prim.ev (.app false 3) [x,y]).bind k
theorem Tq(x y:T)(k:T->Option (List T)):Yo x y k=(Prim.ev (.app false 3) [x,y]).bind k:=rfl
def Yu(x y:T)(k:T->Option (List T)):Option (List T):=(Prim.ev (.bin .neq) [x,y]).bind k
theorem Ts(x y:T)(k:T->Option (List T)):Yu x y k=(Prim.ev (.bin .neq) [x,y]).bind k:=rfl
def Yg(x y:T)(k:T->Option (List T)):Option (List T):=(Prim.ev (.bin .gtr) [x,y]).bind k
theorem Tt(x y:T)(k:T->Option (List T)):Yg x y k=(Prim.ev (.bin .gtr) [x,y]).bind k:=rfl
def Ym(x y:T)(k:T->Option (List T)):Option (List T):=(Prim.ev (.bin .leq) [x,y]).bind k
theorem Tu(x y:T)(k:T->Option (List T)):Ym x y k=(Prim.ev (.bin .leq) [x,y]).bind k:=rfl
def Yh(x y:T)(k:T->Option (List T)):Option (List T):=(Prim.ev (.bin .geq) [x,y]).bind k
theorem Tv(x y:T)(k:T->Option (List T)):Yh x y k=(Prim.ev (.bin .geq) [x,y]).bind k:=rfl
def Ys(x y:T)(k:T->Option (List T)):Option (List T):=(Prim.ev (.bin .sub) [x,y]).bind k
theorem Tw(x y:T)(k:T->Option (List T)):Ys x y k=(Prim.ev (.bin .sub) [x,y]).bind k:=rfl
def Yv(x y:T)(k:T->Option (List T)):Option (List T):=(Prim.ev (.sub 1 true false) [x,y]).bind k
theorem Tx(x y:T)(k:T->Option (List T)):Yv x y k=(Prim.ev (.sub 1 true false) [x,y]).bind k:=rfl
def Yw(x y:T)(k:T->Option (List T)):Option (List T):=(Prim.ev (.sub 1 false true) [x,y]).bind k
theorem Tz(x y:T)(k:T->Option (List T)):Yw x y k=(Prim.ev (.sub 1 false true) [x,y]).bind k:=rfl
def Yx(x:T)(k:T->Option (List T)):Option (List T):=(Prim.ev (.lit 1 [true]) [x]).bind k
theorem TA(x:T)(k:T->Option (List T)):Yx x k=(Prim.ev (.lit 1 [true]) [x]).bind k:=rfl
def Yy(x y:T)(k:T->Option (List T)):Option (List T):=(Prim.ev (.app false 8) [x,y]).bind k
theorem TB(x y:T)(k:T->Option (List T)):Yy x y k=(Prim.ev (.app false 8) [x,y]).bind k:=rfl
def Yc(w j:Nat)(x y:T)(k:T->Option (List T)):Option (List T):=(Prim.ev (.cell w j) [x,y]).bind k
theorem TC(w j:Nat)(x y:T)(k:T->Option (List T)):Yc w j x y k=(Prim.ev (.cell w j) [x,y]).bind k:=rfl
def Yq(x y:T)(k:T->Option (List T)):Option (List T):=(Prim.ev .ia [x,y]).bind λ_=>(Prim.ev (.bN 1 0) [x,y]).bind k
theorem TD(x y:T)(k:T->Option (List T)):Yq x y k=(Prim.ev .ia [x,y]).bind λ_=>(Prim.ev (.bN 1 0) [x,y]).bind k:=rfl
def Y1(x y:T)(k:T->Option (List T)):Option (List T):=(Prim.ev .ia [x,y]).bind λ_=>(Prim.ev (.cell 1 0) [x,y]).bind λa0=>k a0
theorem TE(x y:T)(k:T->Option (List T)):Y1 x y k=(Prim.ev .ia [x,y]).bind λ_=>(Prim.ev (.cell 1 0) [x,y]).bind λa0=>k a0:=rfl
def Y2(x y:T)(k:T->T->Option (List T)):Option (List T):=(Prim.ev .ia [x,y]).bind λ_=>(Prim.ev (.cell 2 0) [x,y]).bind λa0=>(Prim.ev (.cell 2 1) [x,y]).bind λa1=>k a0 a1
theorem TF(x y:T)(k:T->T->Option (List T)):Y2 x y k=(Prim.ev .ia [x,y]).bind λ_=>(Prim.ev (.cell 2 0) [x,y]).bind λa0=>(Prim.ev (.cell 2 1) [x,y]).bind λa1=>k a0 a1:=rfl
def Y3(x y:T)(k:T->T->T->Option (List T)):Option (List T):=(Prim.ev .ia [x,y]).bind λ_=>(Prim.ev (.cell 3 0) [x,y]).bind λa0=>(Prim.ev (.cell 3 1) [x,y]).bind λa1=>(Prim.ev (.cell 3 2) [x,y]).bind λa2=>k a0 a1 a2
theorem TG(x y:T)(k:T->T->T->Option (List T)):Y3 x y k=(Prim.ev .ia [x,y]).bind λ_=>(Prim.ev (.cell 3 0) [x,y]).bind λa0=>(Prim.ev (.cell 3 1) [x,y]).bind λa1=>(Prim.ev (.cell 3 2) [x,y]).bind λa2=>k a0 a1 a2:=rfl
def Y4(x y:T)(k:T->T->T->T->Option (List T)):Option (List T):=(Prim.ev .ia [x,y]).bind λ_=>(Prim.ev (.cell 4 0) [x,y]).bind λa0=>(Prim.ev (.cell 4 1) [x,y]).bind λa1=>(Prim.ev (.cell 4 2) [x,y]).bind λa2=>(Prim.ev (.cell 4 3) [x,y]).bind λa3=>k a0 a1 a2 a3
theorem TH(x y:T)(k:T->T->T->T->Option (List T)):Y4 x y k=(Prim.ev .ia [x,y]).bind λ_=>(Prim.ev (.cell 4 0) [x,y]).bind λa0=>(Prim.ev (.cell 4 1) [x,y]).bind λa1=>(Prim.ev (.cell 4 2) [x,y]).bind λa2=>(Prim.ev (.cell 4 3) [x,y]).bind λa3=>k a0 a1 a2 a3:=rfl
def Y6(x y:T)(k:T->T->T->T->T->T->Option (List T)):Option (List T):=(Prim.ev .ia [x,y]).bind λ_=>(Prim.ev (.cell 6 0) [x,y]).bind λa0=>(Prim.ev (.cell 6 1) [x,y]).bind λa1=>(Prim.ev (.cell 6 2) [x,y]).bind λa2=>(Prim.ev (.cell 6 3) [x,y]).bind λa3=>(Prim.ev (.cell 6 4) [x,y]).bind λa4=>(Prim.ev (.cell 6 5) [x,y]).bind λa5=>k a0 a1 a2 a3 a4 a5
theorem TJ(x y:T)(k:T->T->T->T->T->T->Option (List T)):Y6 x y k=(Prim.ev .ia [x,y]).bind λ_=>(Prim.ev (.cell 6 0) [x,y]).bind λa0=>(Prim.ev (.cell 6 1) [x,y]).bind λa1=>(Prim.ev (.cell 6 2) [x,y]).bind λa2=>(Prim.ev (.cell 6 3) [x,y]).bind λa3=>(Prim.ev (.cell 6 4) [x,y]).bind λa4=>(Prim.ev (.cell 6 5) [x,y]).bind λa5=>k a0 a1 a2 a3 a4 a5:=rfl
def Y8(x y:T)(k:T->T->T->T->T->T->T->T->Option (List T)):Option (List T):=(Prim.ev .ia [x,y]).bind λ_=>(Prim.ev (.cell 8 0) [x,y]).bind λa0=>(Prim.ev (.cell 8 1) [x,y]).bind λa1=>(Prim.ev (.cell 8 2) [x,y]).bind λa2=>(Prim.ev (.cell 8 3) [x,y]).bind λa3=>(Prim.ev (.cell 8 4) [x,y]).bind λa4=>(Prim.ev (.cell 8 5) [x,y]).bind λa5=>(Prim.ev (.cell 8 6) [x,y]).bind λa6=>(Prim.ev (.cell 8 7) [x,y]).bind λa7=>k a0 a1 a2 a3 a4 a5 a6 a7
theorem TK(x y:T)(k:T->T->T->T->T->T->T->T->Option (List T)):Y8 x y k=(Prim.ev .ia [x,y]).bind λ_=>(Prim.ev (.cell 8 0) [x,y]).bind λa0=>(Prim.ev (.cell 8 1) [x,y]).bind λa1=>(Prim.ev (.cell 8 2) [x,y]).bind λa2=>(Prim.ev (.cell 8 3) [x,y]).bind λa3=>(Prim.ev (.cell 8 4) [x,y]).bind λa4=>(Prim.ev (.cell 8 5) [x,y]).bind λa5=>(Prim.ev (.cell 8 6) [x,y]).bind λa6=>(Prim.ev (.cell 8 7) [x,y]).bind λa7=>k a0 a1 a2 a3 a4 a5 a6 a7:=rfl
def jn(k:ay)(b:ay->Option (List T)):Option (List T):=b k
def ca(o:Option (List T))(k:T->Option (List T)):Option (List T):=o.bind λts=>k (ts.getD 0 T.bX)
theorem Df(x0:T)(k:T->Option (List T)):ca (some [x0]) k=k x0:=rfl
def dA(k:T->Option (List T)):ay:=λts=>k (ts.getD 0 T.bX)
theorem KB(x0:T)(k:T->Option (List T)):dA k [x0]=k x0:=rfl
def Fm(o:Option (List T))(k:T->T->Option (List T)):Option (List T):=o.bind λts=>k (ts.getD 0 T.bX) (ts.getD 1 T.bX)
theorem TL(x0 x1:T)(k:T->T->Option (List T)):Fm (some [x0,x1]) k=k x0 x1:=rfl
def dO(k:T->T->Option (List T)):ay:=λts=>k (ts.getD 0 T.bX) (ts.getD 1 T.bX)
theorem KC(x0 x1:T)(k:T->T->Option (List T)):dO k [x0,x1]=k x0 x1:=rfl
def nl(o:Option (List T))(k:T->T->T->Option (List T)):Option (List T):=o.bind λts=>k (ts.getD 0 T.bX) (ts.getD 1 T.bX) (ts.getD 2 T.bX)
theorem TM(x0 x1 x2:T)(k:T->T->T->Option (List T)):nl (some [x0,x1,x2]) k=k x0 x1 x2:=rfl
def wh(k:T->T->T->Option (List T)):ay:=λts=>k (ts.getD 0 T.bX) (ts.getD 1 T.bX) (ts.getD 2 T.bX)
theorem KD(x0 x1 x2:T)(k:T->T->T->Option (List T)):wh k [x0,x1,x2]=k x0 x1 x2:=rfl
def gM(o:Option (List T))(k:T->T->T->T->Option (List T)):Option (List T):=o.bind λts=>k (ts.getD 0 T.bX) (ts.getD 1 T.bX) (ts.getD 2 T.bX) (ts.getD 3 T.bX)
theorem TN(x0 x1 x2 x3:T)(k:T->T->T->T->Option (List T)):gM (some [x0,x1,x2,x3]) k=k x0 x1 x2 x3:=rfl
def Fo(k:T->T->T->T->Option (List T)):ay:=λts=>k (ts.getD 0 T.bX) (ts.getD 1 T.bX) (ts.getD 2 T.bX) (ts.getD 3 T.bX)
theorem KF(x0 x1 x2 x3:T)(k:T->T->T->T->Option (List T)):Fo k [x0,x1,x2,x3]=k x0 x1 x2 x3:=rfl
def ze(k:T->T->T->T->T->Option (List T)):ay:=λts=>k (ts.getD 0 T.bX) (ts.getD 1 T.bX) (ts.getD 2 T.bX) (ts.getD 3 T.bX) (ts.getD 4 T.bX)
theorem KG(x0 x1 x2 x3 x4:T)(k:T->T->T->T->T->Option (List T)):ze k [x0,x1,x2,x3,x4]=k x0 x1 x2 x3 x4:=rfl
def N6(o:Option (List T))(k:T->T->T->T->T->T->Option (List T)):Option (List T):=o.bind λts=>k (ts.getD 0 T.bX) (ts.getD 1 T.bX) (ts.getD 2 T.bX) (ts.getD 3 T.bX) (ts.getD 4 T.bX) (ts.getD 5 T.bX)
theorem TO(x0 x1 x2 x3 x4 x5:T)(k:T->T->T->T->T->T->Option (List T)):N6 (some [x0,x1,x2,x3,x4,x5]) k=k x0 x1 x2 x3 x4 x5:=rfl
def N7(k:T->T->T->T->T->T->Option (List T)):ay:=λts=>k (ts.getD 0 T.bX) (ts.getD 1 T.bX) (ts.getD 2 T.bX) (ts.getD 3 T.bX) (ts.getD 4 T.bX) (ts.getD 5 T.bX)
theorem KH(x0 x1 x2 x3 x4 x5:T)(k:T->T->T->T->T->T->Option (List T)):N7 k [x0,x1,x2,x3,x4,x5]=k x0 x1 x2 x3 x4 x5:=rfl
def KI(o:Option (List T))(k:T->T->T->T->T->T->T->Option (List T)):Option (List T):=o.bind λts=>k (ts.getD 0 T.bX) (ts.getD 1 T.bX) (ts.getD 2 T.bX) (ts.getD 3 T.bX) (ts.getD 4 T.bX) (ts.getD 5 T.bX) (ts.getD 6 T.bX)
theorem TP(x0 x1 x2 x3 x4 x5 x6:T)(k:T->T->T->T->T->T->T->Option (List T)):KI (some [x0,x1,x2,x3,x4,x5,x6]) k=k x0 x1 x2 x3 x4 x5 x6:=rfl
def N8(k:T->T->T->T->T->T->T->Option (List T)):ay:=λts=>k (ts.getD 0 T.bX) (ts.getD 1 T.bX) (ts.getD 2 T.bX) (ts.getD 3 T.bX) (ts.getD 4 T.bX) (ts.getD 5 T.bX) (ts.getD 6 T.bX)
theorem KJ(x0 x1 x2 x3 x4 x5 x6:T)(k:T->T->T->T->T->T->T->Option (List T)):N8 k [x0,x1,x2,x3,x4,x5,x6]=k x0 x1 x2 x3 x4 x5 x6:=rfl
def N9(o:Option (List T))(k:T->T->T->T->T->T->T->T->Option (List T)):Option (List T):=o.bind λts=>k (ts.getD 0 T.bX) (ts.getD 1 T.bX) (ts.getD 2 T.bX) (ts.getD 3 T.bX) (ts.getD 4 T.bX) (ts.getD 5 T.bX) (ts.getD 6 T.bX) (ts.getD 7 T.bX)
theorem TQ(x0 x1 x2 x3 x4 x5 x6 x7:T)(k:T->T->T->T->T->T->T->T->Option (List T)):N9 (some [x0,x1,x2,x3,x4,x5,x6,x7]) k=k x0 x1 x2 x3 x4 x5 x6 x7:=rfl
def Fp(o:Option (List T))(k:T->T->T->T->T->T->T->T->T->Option (List T)):Option (List T):=o.bind λts=>k (ts.getD 0 T.bX) (ts.getD 1 T.bX) (ts.getD 2 T.bX) (ts.getD 3 T.bX) (ts.getD 4 T.bX) (ts.getD 5 T.bX) (ts.getD 6 T.bX) (ts.getD 7 T.bX) (ts.getD 8 T.bX)
theorem TR(x0 x1 x2 x3 x4 x5 x6 x7 x8:T)(k:T->T->T->T->T->T->T->T->T->Option (List T)):Fp (some [x0,x1,x2,x3,x4,x5,x6,x7,x8]) k=k x0 x1 x2 x3 x4 x5 x6 x7 x8:=rfl
theorem TS(k:ay)(b:ay->Option (List T)):jn k b=b k:=rfl
def PL.arity(j:Nat):PL->Option Nat
 | .ret _=>none
 | .ins _ k=>k.arity j
 | .ite _ x y=>match x.arity j with|some n=>some n|none=>y.arity j
 | .loop _ b=>b.arity (j+1)
 | .join k b=>match k.arity j with|some n=>some n|none=>b.arity (j+1)
 | .go i xs=>bif Nat.beq i j then some xs.length else none
 | .om _ _=>none
def PL.jf(S:Nat->ay)(R:Nat)(K:List ay)(ρ:List T):PL->Option (List T)
 | .ret xs=>some (xs.map (Lf.ev ρ))
 | .ins (.pr p xs) k=>(p.ev (xs.map (Lf.ev ρ))).bind λt=>k.jf S R K (ρ++[t])
 | .ins (.cl g xs m) k=>(S g (xs.map (Lf.ev ρ))).bind λts=>k.jf S R K (ρ++pA ts 0 m)
 | .ite c x y=>aB (ρ.getD c T.bX) (x.jf S R K ρ) (y.jf S R K ρ)
 | .loop xs body=>iter (λself ts=>body.jf S R (self::K) (ρ++pA ts 0 xs.length)) R (xs.map (Lf.ev ρ))
 | .join k body=>jn (λts=>k.jf S R K (ρ++pA ts 0 ((body.arity 0).getD 0))) λf=>body.jf S R (f::K) ρ
 | .go j xs=>match K[j]? with
  |some f=>f (xs.map (Lf.ev ρ))
  |none=>none
 | .om _ _=>none
def PL.wf(ar:List Nat):PL->Bool
 | .ret _=>true
 | .ins _ k=>k.wf ar
 | .ite _ x y=>x.wf ar&&y.wf ar
 | .loop xs b=>b.wf (xs.length::ar)
 | .join k b=>k.wf ar&&b.wf ((b.arity 0).getD 0::ar)
 | .go j xs=>match ar[j]? with|some m=>Nat.beq m xs.length|none=>false
 | .om _ _=>true
theorem KK:∀(ts us:List T),pA (us++ts) us.length ts.length=ts
 | [],us=>rfl
 |t::ts,us=>by
  have h:=KK ts (us++[t])
  rw[List.append_assoc,List.length_append]at h
  simp only[List.length_cons,pA]
  refine congr (congrArg _ ?_) h
  simp
theorem KL(ts:List T){m:Nat}(h:ts.length=m):pA ts 0 m=ts:=by
 subst h;exact KK ts []
theorem KM{F G:ay->ay}{m:Nat}(h:∀s s',(∀ts:List T,ts.length=m->s ts=s' ts)->∀ts:List T,ts.length=m->F s ts=G s' ts):∀R (ts:List T),ts.length=m->iter F R ts=iter G R ts
 |0,_,_=>rfl
 |R+1,ts,ht=>by
  unfold iter
  exact h _ _ (KM h R) ts ht
theorem AG(S:Nat->ay)(R:Nat):∀(p:PL) (ar:List Nat) (K K':List ay) (ρ:List T),p.wf ar=true->
  (∀(j m:Nat),ar[j]?=some m->∃f f':ay,K[j]?=some f∧K'[j]?=some f'∧∀ts:List T,ts.length=m->f ts=f' ts)->p.den S R K ρ=p.jf S R K' ρ
 | .ret xs,ar,K,K',ρ,_,_=>by simp only[PL.den,PL.jf]
 | .ins (.pr p xs) k,ar,K,K',ρ,hw,hk=>by
  simp only[PL.den,PL.jf]
  exact congrArg _ (funext λt=>AG S R k ar K K' _ hw hk)
 | .ins (.cl g xs m) k,ar,K,K',ρ,hw,hk=>by
  simp only[PL.den,PL.jf]
  exact congrArg _ (funext λt=>AG S R k ar K K' _ hw hk)
 | .ite c x y,ar,K,K',ρ,hw,hk=>by
  simp only[PL.wf,bB]at hw
  rw[C1]
  simp only[PL.jf]
  rw[AG S R x ar K K' ρ hw.1 hk,AG S R y ar K K' ρ hw.2 hk]
 | .loop xs b,ar,K,K',ρ,hw,hk=>by
  simp only[PL.den,PL.jf]
  refine KM (m:=xs.length) (λs s' hs ts ht=>?_) R _ (by simp)
  rw[KL ts ht]
  refine AG S R b (xs.length::ar) _ _ _ hw λj m hj=>?_
  cases j with
  |zero=>cases hj;exact⟨s,s',rfl,rfl,hs⟩
  |succ j=>exact hk j m hj
 | .join k b,ar,K,K',ρ,hw,hk=>by
  simp only[PL.wf,bB]at hw
  simp only[PL.den,PL.jf,jn]
  refine AG S R b ((b.arity 0).getD 0::ar) _ _ _ hw.2 λj m hj=>?_
  cases j with
  |zero=>
   cases hj
   refine⟨_,_,rfl,rfl,λts ht=>?_⟩
   show PL.den S R K (ρ++ts) k=PL.jf S R K' (ρ++pA ts 0 _) k
   rw[KL ts ht]
   exact AG S R k ar K K' _ hw.1 hk
  |succ j=>exact hk j m hj
 | .go j xs,ar,K,K',ρ,hw,hk=>by
  simp only[PL.wf]at hw
  cases hm:ar[j]? with
  |none=>rw[hm]at hw;exact absurd hw (by simp)
  |some m=>
   rw[hm]at hw
   have um:=cK hw
   obtain⟨f,f',h1,h2,h3⟩:=hk j m hm
   simp only[PL.den,PL.jf,h1,h2]
   exact h3 _ (by simp[um])
 | .om _ _,ar,K,K',ρ,_,_=>by simp only[PL.den,PL.jf]
theorem ea{S:Nat->ay}{R:Nat}{p:PL}{ρ:List T}(h:p.wf []=true):p.den S R [] ρ=p.jf S R [] ρ:=
 AG S R p [] [] [] ρ h λj m hj=>by simp at hj
set_option linter.unusedSimpArgs false
abbrev ii(n:Int):T:=.c (.int .i64 n)
abbrev bb(b:Bool):T:=.c (.bool b)
def pc(n:Int):Prop:=(Lit.int .i64 n).wf=true
theorem pc.lo{n:Int}(h:pc n):-9223372036854775808<=n:=by
 simp[pc,Lit.wf,IntKind.min,IntKind.max,IntKind.signed,IntKind.bits]at h;omega
theorem pc.hi{n:Int}(h:pc n):n<9223372036854775808:=by
 simp[pc,Lit.wf,IntKind.min,IntKind.max,IntKind.signed,IntKind.bits]at h;omega
theorem pc.mk{n:Int}(h:-9223372036854775808<=n)(h':n<9223372036854775808):pc n:=by
 simp[pc,Lit.wf,IntKind.min,IntKind.max,IntKind.signed,IntKind.bits];omega
def gt{α:Type} [Inhabited α](l:List α)(n:Int):α:=l.getD n.toNat default
theorem dq{α:Type} [Inhabited α]{enc:α->List T}{l:List α}{n:Int}(h:0<=n)(h':n<l.length):(l.map enc)[n.toNat]?=some (enc (gt l n)):=by
 have hn:n.toNat<l.length:=by omega
 rw[List.getElem?_map,List.getElem?_eq_getElem hn]
 simp[gt,List.getD,List.getElem?_eq_getElem hn]
theorem TT{α:Type} [Inhabited α]{l:List α}{i:Nat}{a:α}(h:l[i]?=some a):gt l (i:Int)=a:=by
 simp[gt,List.getD,h]
theorem gC{α:Type} [Inhabited α]{l:List α}{i:Nat}(h:i<l.length):gt l (i:Int)=l[i]:=TT (List.getElem?_eq_getElem h)
theorem h_{α:Type} [Inhabited α]{l:List α}{n:Int}(h:0<=n)(h':n<l.length):gt l n∈l:=by
 have hn:n.toNat<l.length:=by omega
 simp[gt,List.getD,List.getElem?_eq_getElem hn]
theorem zf{xs:List (List T)}{n:Int}{r:List T}(h0:0<=n)(h:xs[n.toNat]?=some r):qW (.l xs) (ii n)=some r:=by
 simp[qW,T.rows,T.int,h0,h]
theorem Fq{α:Type} [Inhabited α]{enc:α->List T}{l:List α}{n:Int}(h:0<=n)(h':n<l.length):Prim.ev .ia [.l (l.map enc),ii n]=some (bb true):=by
 simp[Prim.ev,zf h (dq (enc:=enc) h h')]
theorem gN{xs:List (List T)}{n:Int}{w j:Nat}{r:List T}{t:T}(h0:0<=n)(h:xs[n.toNat]?=some r)(hw:r.length=w)(hj:r[j]?=some t):Prim.ev (.cell w j) [.l xs,ii n]=some t:=by
 simp[Prim.ev,zf h0 h,hw,hj]
theorem jy{xs:List (List T)}{n:Int}{w j:Nat}{r:List T}{t:T}(h0:0<=n)(h:xs[n.toNat]?=some r)(hw:r.length=w)(hj:r[j]?=some t)(hs:dr t=true):Prim.ev (.bN w j) [.l xs,ii n]=some t:=by
 simp[Prim.ev,zf h0 h,hw,hj,hs]
theorem wi{xs ys:List (List T)}{n:Int}{w j:Nat}{r:List T}(h0:0<=n)(h:xs[n.toNat]?=some r)(hw:r.length=w)(hj:r[j]?=some (.l ys)):Prim.ev (.jj w j) [.l xs,ii n]=some (.l ys):=by
 simp[Prim.ev,zf h0 h,hw,hj,T.rows]
theorem wj{α:Type}{enc:α->List T}{l:List α}:Prim.ev .len [.l (l.map enc)]=some (ii l.length):=by
 rw[CX,List.length_map]
theorem zg{α:Type}{enc:α->List T}{w:Nat}(hw:∀x,(enc x).length=w)(l:List α):okW w (l.map enc)=true:=by
 cases l with
 |nil=>rfl
 |cons x l=>simp[okW,hw]
theorem pd{α:Type}{enc:α->List T}{w:Nat}{sc:Bool}(hw:∀x,(enc x).length=w)(hs:sc=false∨∀x,(enc x).all dr=true){l m:List α}(h:l.length+m.length<qD):Prim.ev (.app sc w) [.l (l.map enc),.l (m.map enc)]=some (.l ((l++m).map enc)):=by
 rw[List.map_append]
 refine S9 (by simpa using h) ?_ (zg hw l) (zg hw m)
 rcases hs with rfl|hs
 ·rfl
 ·have:(m.map enc).all (·.all dr)=true:=by simp only[List.all_map,List.all_eq_true];exactλx _=>hs x
  rw[this];simp
theorem qu{α:Type}{enc:α->List T}{w:Nat}{sc:Bool}(hw:∀x,(enc x).length=w)(hs:sc=false∨∀x,(enc x).all dr=true){m:List α}(h:m.length<qD):Prim.ev (.app sc w) [.l [],.l (m.map enc)]=some (.l (m.map enc)):=
 pd (l:=[]) hw hs (by simpa using h)
theorem wl{α:Type}{enc:α->List T}{w:Nat}(hw:∀x,(enc x).length=w){l:List α}{a:Int}(h:0<=a)(h':a<=l.length):Prim.ev (.sub w true false) [.l (l.map enc),ii a]=some (.l ((l.drop a.toNat).map enc)):=by
 simp only[Prim.ev,zg hw l,if_true,List.length_map,oe,h,h']
 rw[if_pos (by omega)]
 have:((l.map enc).take (l.length:Int).toNat).drop a.toNat=(l.drop a.toNat).map enc:=by
  rw[List.map_drop,Int.toNat_natCast,List.take_of_length_le (by simp)]
 rw[this]
theorem wm{α:Type}{enc:α->List T}{w:Nat}(hw:∀x,(enc x).length=w){l:List α}{a:Int}(h:0<=a)(h':a<=l.length):Prim.ev (.sub w false true) [.l (l.map enc),ii a]=some (.l ((l.take a.toNat).map enc)):=by
 simp only[Prim.ev,zg hw l,if_true,List.length_map,oe,h,h',Int.le_refl,Int.toNat_zero,List.drop_zero,List.map_take]
theorem KN{α:Type}{enc:α->List T}{ok:α->Prop}{ty:List Ty}(h:∀r,fQ ty r->∃x,r=enc x∧ok x):∀{xs:List (List T)},(∀r∈xs,fQ ty r)->∃l:List α,xs=l.map enc∧∀x∈l,ok x
 | [],_=>⟨[],rfl,by simp⟩
 |r::xs,hx=>by
  obtain⟨x,rfl,h1⟩:=h r (hx _ (.head _))
  obtain⟨l,rfl,h2⟩:=KN h (xs:=xs) λr hr=>hx r (.tail _ hr)
  refine⟨x::l,rfl,?_⟩
  intro y hy
  rcases List.mem_cons.1 hy with rfl|hy
  ·exact h1
  ·exact h2 y hy
def aA(n:Int):List T:=[ii n]
def KO(n:Int):Prop:=pc n
def fC(b:Bool):List T:=[bb b]
theorem TU{l:List Int}{n:Int}(h:0<=n)(h':n<l.length):Prim.ev (.cell 1 0) [.l (l.map aA),ii n]=some (ii (gt l n)):=gN h (dq h h') rfl rfl
theorem TV{l:List Int}{n:Int}(h:0<=n)(h':n<l.length):Prim.ev (.bN 1 0) [.l (l.map aA),ii n]=some (ii (gt l n)):=jy h (dq h h') rfl rfl rfl
theorem KQ{l m:List Int}(h:l.length+m.length<4294967296):Prim.ev (.app false 1) [.l (l.map aA),.l (m.map aA)]=some (.l ((l++m).map aA)):=pd (w:=1) (λ_=>rfl) (.inl rfl) h
theorem KR{m:List Int}(h:m.length<4294967296):Prim.ev (.app false 1) [.l [],.l (m.map aA)]=some (.l (m.map aA)):=qu (w:=1) (λ_=>rfl) (.inl rfl) h
theorem KS{l m:List Int}(h:l.length+m.length<4294967296):Prim.ev (.app true 1) [.l (l.map aA),.l (m.map aA)]=some (.l ((l++m).map aA)):=pd (w:=1) (λ_=>rfl) (.inr λ_=>rfl) h
theorem KT{m:List Int}(h:m.length<4294967296):Prim.ev (.app true 1) [.l [],.l (m.map aA)]=some (.l (m.map aA)):=qu (w:=1) (λ_=>rfl) (.inr λ_=>rfl) h
theorem TW{l:List Int}{x:Int}(h:l.length<4294967295):Prim.ev (.app false 1) [.l (l.map aA),.l ([x].map aA)]=some (.l ((l++[x]).map aA)):=KQ (by simp;omega)
theorem TX{x:Int}:Prim.ev (.app false 1) [.l [],.l ([x].map aA)]=some (.l ([x].map aA)):=KR (by simp)
theorem TY{l:List Int}{x:Int}(h:l.length<4294967295):Prim.ev (.app true 1) [.l (l.map aA),.l ([x].map aA)]=some (.l ((l++[x]).map aA)):=KS (by simp;omega)
theorem TZ{x:Int}:Prim.ev (.app true 1) [.l [],.l ([x].map aA)]=some (.l ([x].map aA)):=KT (by simp)
theorem T0{l:List Int}{a:Int}(h:0<=a)(h':a<=l.length):Prim.ev (.sub 1 true false) [.l (l.map aA),ii a]=some (.l ((l.drop a.toNat).map aA)):=wl (enc:=aA) (w:=1) (λ_=>rfl) h h'
theorem T1{l:List Int}{a:Int}(h:0<=a)(h':a<=l.length):Prim.ev (.sub 1 false true) [.l (l.map aA),ii a]=some (.l ((l.take a.toNat).map aA)):=wm (enc:=aA) (w:=1) (λ_=>rfl) h h'
theorem T2(x:Int):Prim.ev (.lit 1 [true]) [ii x]=some (.l ([x].map aA)):=n4 (by decide) rfl rfl
theorem T3(x:Int):Prim.ev (.lit 1 []) [ii x]=some (.l ([x].map aA)):=n4 (by decide) rfl rfl
theorem T4{l:List Bool}{n:Int}(h:0<=n)(h':n<l.length):Prim.ev (.cell 1 0) [.l (l.map fC),ii n]=some (bb (gt l n)):=gN h (dq h h') rfl rfl
theorem T5{l:List Bool}{n:Int}(h:0<=n)(h':n<l.length):Prim.ev (.bN 1 0) [.l (l.map fC),ii n]=some (bb (gt l n)):=jy h (dq h h') rfl rfl rfl
theorem KU{l m:List Bool}(h:l.length+m.length<4294967296):Prim.ev (.app false 1) [.l (l.map fC),.l (m.map fC)]=some (.l ((l++m).map fC)):=pd (w:=1) (λ_=>rfl) (.inl rfl) h
theorem kg_{m:List Bool}(h:m.length<4294967296):Prim.ev (.app false 1) [.l [],.l (m.map fC)]=some (.l (m.map fC)):=qu (w:=1) (λ_=>rfl) (.inl rfl) h
theorem KV{l m:List Bool}(h:l.length+m.length<4294967296):Prim.ev (.app true 1) [.l (l.map fC),.l (m.map fC)]=some (.l ((l++m).map fC)):=pd (w:=1) (λ_=>rfl) (.inr λ_=>rfl) h
theorem KW{m:List Bool}(h:m.length<4294967296):Prim.ev (.app true 1) [.l [],.l (m.map fC)]=some (.l (m.map fC)):=qu (w:=1) (λ_=>rfl) (.inr λ_=>rfl) h
theorem T6{l:List Bool}{x:Bool}(h:l.length<4294967295):Prim.ev (.app false 1) [.l (l.map fC),.l ([x].map fC)]=some (.l ((l++[x]).map fC)):=KU (by simp;omega)
theorem T7{x:Bool}:Prim.ev (.app false 1) [.l [],.l ([x].map fC)]=some (.l ([x].map fC)):=kg_ (by simp)
theorem T8{l:List Bool}{x:Bool}(h:l.length<4294967295):Prim.ev (.app true 1) [.l (l.map fC),.l ([x].map fC)]=some (.l ((l++[x]).map fC)):=KV (by simp;omega)
theorem T9{x:Bool}:Prim.ev (.app true 1) [.l [],.l ([x].map fC)]=some (.l ([x].map fC)):=KW (by simp)
theorem T_{l:List Bool}{a:Int}(h:0<=a)(h':a<=l.length):Prim.ev (.sub 1 true false) [.l (l.map fC),ii a]=some (.l ((l.drop a.toNat).map fC)):=wl (enc:=fC) (w:=1) (λ_=>rfl) h h'
theorem T'{l:List Bool}{a:Int}(h:0<=a)(h':a<=l.length):Prim.ev (.sub 1 false true) [.l (l.map fC),ii a]=some (.l ((l.take a.toNat).map fC)):=wm (enc:=fC) (w:=1) (λ_=>rfl) h h'
theorem Ua(x:Bool):Prim.ev (.lit 1 [true]) [bb x]=some (.l ([x].map fC)):=n4 (by decide) rfl rfl
theorem Ub(x:Bool):Prim.ev (.lit 1 []) [bb x]=some (.l ([x].map fC)):=n4 (by decide) rfl rfl
structure bC where
 a:Int
 b:Int
 cost:Int
 aC:Int
 deriving Inhabited
def fe(x:bC):List T:=[ii x.a,ii x.b,ii x.cost,ii x.aC]
theorem Uc{l:List bC}{n:Int}(h:0<=n)(h':n<l.length):Prim.ev (.cell 4 0) [.l (l.map fe),ii n]=some (ii (gt l n).a):=gN h (dq h h') rfl rfl
theorem Ud{l:List bC}{n:Int}(h:0<=n)(h':n<l.length):Prim.ev (.bN 4 0) [.l (l.map fe),ii n]=some (ii (gt l n).a):=jy h (dq h h') rfl rfl rfl
theorem Ue{l:List bC}{n:Int}(h:0<=n)(h':n<l.length):Prim.ev (.cell 4 1) [.l (l.map fe),ii n]=some (ii (gt l n).b):=gN h (dq h h') rfl rfl
theorem Uf{l:List bC}{n:Int}(h:0<=n)(h':n<l.length):Prim.ev (.bN 4 1) [.l (l.map fe),ii n]=some (ii (gt l n).b):=jy h (dq h h') rfl rfl rfl
theorem Ug{l:List bC}{n:Int}(h:0<=n)(h':n<l.length):Prim.ev (.cell 4 2) [.l (l.map fe),ii n]=some (ii (gt l n).cost):=gN h (dq h h') rfl rfl
theorem Uh{l:List bC}{n:Int}(h:0<=n)(h':n<l.length):Prim.ev (.bN 4 2) [.l (l.map fe),ii n]=some (ii (gt l n).cost):=jy h (dq h h') rfl rfl rfl
theorem Ui{l:List bC}{n:Int}(h:0<=n)(h':n<l.length):Prim.ev (.cell 4 3) [.l (l.map fe),ii n]=some (ii (gt l n).aC):=gN h (dq h h') rfl rfl
theorem Uj{l:List bC}{n:Int}(h:0<=n)(h':n<l.length):Prim.ev (.bN 4 3) [.l (l.map fe),ii n]=some (ii (gt l n).aC):=jy h (dq h h') rfl rfl rfl
theorem KX{l m:List bC}(h:l.length+m.length<4294967296):Prim.ev (.app false 4) [.l (l.map fe),.l (m.map fe)]=some (.l ((l++m).map fe)):=pd (w:=4) (λ_=>rfl) (.inl rfl) h
theorem kx_{m:List bC}(h:m.length<4294967296):Prim.ev (.app false 4) [.l [],.l (m.map fe)]=some (.l (m.map fe)):=qu (w:=4) (λ_=>rfl) (.inl rfl) h
theorem KY{l m:List bC}(h:l.length+m.length<4294967296):Prim.ev (.app true 4) [.l (l.map fe),.l (m.map fe)]=some (.l ((l++m).map fe)):=pd (w:=4) (λ_=>rfl) (.inr λ_=>rfl) h
theorem KZ{m:List bC}(h:m.length<4294967296):Prim.ev (.app true 4) [.l [],.l (m.map fe)]=some (.l (m.map fe)):=qu (w:=4) (λ_=>rfl) (.inr λ_=>rfl) h
theorem Uk{l:List bC}{x:bC}(h:l.length<4294967295):Prim.ev (.app false 4) [.l (l.map fe),.l ([x].map fe)]=some (.l ((l++[x]).map fe)):=KX (by simp;omega)
theorem Ul{x:bC}:Prim.ev (.app false 4) [.l [],.l ([x].map fe)]=some (.l ([x].map fe)):=kx_ (by simp)
theorem Um{l:List bC}{x:bC}(h:l.length<4294967295):Prim.ev (.app true 4) [.l (l.map fe),.l ([x].map fe)]=some (.l ((l++[x]).map fe)):=KY (by simp;omega)
theorem Un{x:bC}:Prim.ev (.app true 4) [.l [],.l ([x].map fe)]=some (.l ([x].map fe)):=KZ (by simp)
theorem Uo{l:List bC}{a:Int}(h:0<=a)(h':a<=l.length):Prim.ev (.sub 4 true false) [.l (l.map fe),ii a]=some (.l ((l.drop a.toNat).map fe)):=wl (enc:=fe) (w:=4) (λ_=>rfl) h h'
theorem Up{l:List bC}{a:Int}(h:0<=a)(h':a<=l.length):Prim.ev (.sub 4 false true) [.l (l.map fe),ii a]=some (.l ((l.take a.toNat).map fe)):=wm (enc:=fe) (w:=4) (λ_=>rfl) h h'
theorem Uq(v0:Int)(v1:Int)(v2:Int)(v3:Int):Prim.ev (.lit 4 [true,true,true,true]) [ii v0,ii v1,ii v2,ii v3]=some (.l ([(⟨v0,v1,v2,v3⟩:bC)].map fe)):=n4 (by decide) rfl rfl
theorem Ur(v0:Int)(v1:Int)(v2:Int)(v3:Int):Prim.ev (.lit 4 []) [ii v0,ii v1,ii v2,ii v3]=some (.l ([(⟨v0,v1,v2,v3⟩:bC)].map fe)):=n4 (by decide) rfl rfl
theorem Us(x:bC):(⟨x.a,x.b,x.cost,x.aC⟩:bC)=x:=rfl
structure bO where
 owner:Int
 key:Int
 cost:Int
 jX:Bool
 deriving Inhabited
def fR(x:bO):List T:=[ii x.owner,ii x.key,ii x.cost,bb x.jX]
theorem Ut{l:List bO}{n:Int}(h:0<=n)(h':n<l.length):Prim.ev (.cell 4 0) [.l (l.map fR),ii n]=some (ii (gt l n).owner):=gN h (dq h h') rfl rfl
theorem Uu{l:List bO}{n:Int}(h:0<=n)(h':n<l.length):Prim.ev (.bN 4 0) [.l (l.map fR),ii n]=some (ii (gt l n).owner):=jy h (dq h h') rfl rfl rfl
theorem Uv{l:List bO}{n:Int}(h:0<=n)(h':n<l.length):Prim.ev (.cell 4 1) [.l (l.map fR),ii n]=some (ii (gt l n).key):=gN h (dq h h') rfl rfl
theorem Uw{l:List bO}{n:Int}(h:0<=n)(h':n<l.length):Prim.ev (.bN 4 1) [.l (l.map fR),ii n]=some (ii (gt l n).key):=jy h (dq h h') rfl rfl rfl
theorem Ux{l:List bO}{n:Int}(h:0<=n)(h':n<l.length):Prim.ev (.cell 4 2) [.l (l.map fR),ii n]=some (ii (gt l n).cost):=gN h (dq h h') rfl rfl
theorem Uy{l:List bO}{n:Int}(h:0<=n)(h':n<l.length):Prim.ev (.bN 4 2) [.l (l.map fR),ii n]=some (ii (gt l n).cost):=jy h (dq h h') rfl rfl rfl
theorem Uz{l:List bO}{n:Int}(h:0<=n)(h':n<l.length):Prim.ev (.cell 4 3) [.l (l.map fR),ii n]=some (bb (gt l n).jX):=gN h (dq h h') rfl rfl
theorem UA{l:List bO}{n:Int}(h:0<=n)(h':n<l.length):Prim.ev (.bN 4 3) [.l (l.map fR),ii n]=some (bb (gt l n).jX):=jy h (dq h h') rfl rfl rfl
theorem kf_{l m:List bO}(h:l.length+m.length<4294967296):Prim.ev (.app false 4) [.l (l.map fR),.l (m.map fR)]=some (.l ((l++m).map fR)):=pd (w:=4) (λ_=>rfl) (.inl rfl) h
theorem jU_{m:List bO}(h:m.length<4294967296):Prim.ev (.app false 4) [.l [],.l (m.map fR)]=some (.l (m.map fR)):=qu (w:=4) (λ_=>rfl) (.inl rfl) h
theorem K1{l m:List bO}(h:l.length+m.length<4294967296):Prim.ev (.app true 4) [.l (l.map fR),.l (m.map fR)]=some (.l ((l++m).map fR)):=pd (w:=4) (λ_=>rfl) (.inr λ_=>rfl) h
theorem kb_{m:List bO}(h:m.length<4294967296):Prim.ev (.app true 4) [.l [],.l (m.map fR)]=some (.l (m.map fR)):=qu (w:=4) (λ_=>rfl) (.inr λ_=>rfl) h
theorem UB{l:List bO}{x:bO}(h:l.length<4294967295):Prim.ev (.app false 4) [.l (l.map fR),.l ([x].map fR)]=some (.l ((l++[x]).map fR)):=kf_ (by simp;omega)
theorem UC{x:bO}:Prim.ev (.app false 4) [.l [],.l ([x].map fR)]=some (.l ([x].map fR)):=jU_ (by simp)
theorem UD{l:List bO}{x:bO}(h:l.length<4294967295):Prim.ev (.app true 4) [.l (l.map fR),.l ([x].map fR)]=some (.l ((l++[x]).map fR)):=K1 (by simp;omega)
theorem UE{x:bO}:Prim.ev (.app true 4) [.l [],.l ([x].map fR)]=some (.l ([x].map fR)):=kb_ (by simp)
theorem UF{l:List bO}{a:Int}(h:0<=a)(h':a<=l.length):Prim.ev (.sub 4 true false) [.l (l.map fR),ii a]=some (.l ((l.drop a.toNat).map fR)):=wl (enc:=fR) (w:=4) (λ_=>rfl) h h'
theorem UG{l:List bO}{a:Int}(h:0<=a)(h':a<=l.length):Prim.ev (.sub 4 false true) [.l (l.map fR),ii a]=some (.l ((l.take a.toNat).map fR)):=wm (enc:=fR) (w:=4) (λ_=>rfl) h h'
theorem UH(x:bO):(⟨x.owner,x.key,x.cost,x.jX⟩:bO)=x:=rfl
structure Net where
 n:Int
 cX:List bC
 eE:List bO
 deriving Inhabited
structure cF where
 to:Int
 cost:Int
 deriving Inhabited
def gD(x:cF):List T:=[ii x.to,ii x.cost]
theorem UI{l:List cF}{n:Int}(h:0<=n)(h':n<l.length):Prim.ev (.cell 2 0) [.l (l.map gD),ii n]=some (ii (gt l n).to):=gN h (dq h h') rfl rfl
theorem UJ{l:List cF}{n:Int}(h:0<=n)(h':n<l.length):Prim.ev (.bN 2 0) [.l (l.map gD),ii n]=some (ii (gt l n).to):=jy h (dq h h') rfl rfl rfl
theorem UK{l:List cF}{n:Int}(h:0<=n)(h':n<l.length):Prim.ev (.cell 2 1) [.l (l.map gD),ii n]=some (ii (gt l n).cost):=gN h (dq h h') rfl rfl
theorem UL{l:List cF}{n:Int}(h:0<=n)(h':n<l.length):Prim.ev (.bN 2 1) [.l (l.map gD),ii n]=some (ii (gt l n).cost):=jy h (dq h h') rfl rfl rfl
theorem K3{l m:List cF}(h:l.length+m.length<4294967296):Prim.ev (.app false 2) [.l (l.map gD),.l (m.map gD)]=some (.l ((l++m).map gD)):=pd (w:=2) (λ_=>rfl) (.inl rfl) h
theorem kC_{m:List cF}(h:m.length<4294967296):Prim.ev (.app false 2) [.l [],.l (m.map gD)]=some (.l (m.map gD)):=qu (w:=2) (λ_=>rfl) (.inl rfl) h
theorem K4{l m:List cF}(h:l.length+m.length<4294967296):Prim.ev (.app true 2) [.l (l.map gD),.l (m.map gD)]=some (.l ((l++m).map gD)):=pd (w:=2) (λ_=>rfl) (.inr λ_=>rfl) h
theorem K5{m:List cF}(h:m.length<4294967296):Prim.ev (.app true 2) [.l [],.l (m.map gD)]=some (.l (m.map gD)):=qu (w:=2) (λ_=>rfl) (.inr λ_=>rfl) h
theorem UM{l:List cF}{x:cF}(h:l.length<4294967295):Prim.ev (.app false 2) [.l (l.map gD),.l ([x].map gD)]=some (.l ((l++[x]).map gD)):=K3 (by simp;omega)
theorem UN{x:cF}:Prim.ev (.app false 2) [.l [],.l ([x].map gD)]=some (.l ([x].map gD)):=kC_ (by simp)
theorem UO{l:List cF}{x:cF}(h:l.length<4294967295):Prim.ev (.app true 2) [.l (l.map gD),.l ([x].map gD)]=some (.l ((l++[x]).map gD)):=K4 (by simp;omega)
theorem UP{x:cF}:Prim.ev (.app true 2) [.l [],.l ([x].map gD)]=some (.l ([x].map gD)):=K5 (by simp)
theorem UQ{l:List cF}{a:Int}(h:0<=a)(h':a<=l.length):Prim.ev (.sub 2 true false) [.l (l.map gD),ii a]=some (.l ((l.drop a.toNat).map gD)):=wl (enc:=gD) (w:=2) (λ_=>rfl) h h'
theorem UR{l:List cF}{a:Int}(h:0<=a)(h':a<=l.length):Prim.ev (.sub 2 false true) [.l (l.map gD),ii a]=some (.l ((l.take a.toNat).map gD)):=wm (enc:=gD) (w:=2) (λ_=>rfl) h h'
theorem US(v0:Int)(v1:Int):Prim.ev (.lit 2 [true,true]) [ii v0,ii v1]=some (.l ([(⟨v0,v1⟩:cF)].map gD)):=n4 (by decide) rfl rfl
theorem UT(v0:Int)(v1:Int):Prim.ev (.lit 2 []) [ii v0,ii v1]=some (.l ([(⟨v0,v1⟩:cF)].map gD)):=n4 (by decide) rfl rfl
theorem UU(x:cF):(⟨x.to,x.cost⟩:cF)=x:=rfl
structure aI where
 aC:Int
 kind:Int
 owner:Int
 key:Int
 seq:Int
 fU:List cF
 cost:Int
 jX:Bool
 deriving Inhabited
def bh(x:aI):List T:=[ii x.aC,ii x.kind,ii x.owner,ii x.key,ii x.seq,.l (x.fU.map gD),ii x.cost,bb x.jX]
theorem UW{l:List aI}{n:Int}(h:0<=n)(h':n<l.length):Prim.ev (.cell 8 0) [.l (l.map bh),ii n]=some (ii (gt l n).aC):=gN h (dq h h') rfl rfl
theorem UX{l:List aI}{n:Int}(h:0<=n)(h':n<l.length):Prim.ev (.bN 8 0) [.l (l.map bh),ii n]=some (ii (gt l n).aC):=jy h (dq h h') rfl rfl rfl
theorem UY{l:List aI}{n:Int}(h:0<=n)(h':n<l.length):Prim.ev (.cell 8 1) [.l (l.map bh),ii n]=some (ii (gt l n).kind):=gN h (dq h h') rfl rfl
theorem UZ{l:List aI}{n:Int}(h:0<=n)(h':n<l.length):Prim.ev (.bN 8 1) [.l (l.map bh),ii n]=some (ii (gt l n).kind):=jy h (dq h h') rfl rfl rfl
theorem U0{l:List aI}{n:Int}(h:0<=n)(h':n<l.length):Prim.ev (.cell 8 2) [.l (l.map bh),ii n]=some (ii (gt l n).owner):=gN h (dq h h') rfl rfl
theorem U1{l:List aI}{n:Int}(h:0<=n)(h':n<l.length):Prim.ev (.bN 8 2) [.l (l.map bh),ii n]=some (ii (gt l n).owner):=jy h (dq h h') rfl rfl rfl
theorem U2{l:List aI}{n:Int}(h:0<=n)(h':n<l.length):Prim.ev (.cell 8 3) [.l (l.map bh),ii n]=some (ii (gt l n).key):=gN h (dq h h') rfl rfl
theorem U3{l:List aI}{n:Int}(h:0<=n)(h':n<l.length):Prim.ev (.bN 8 3) [.l (l.map bh),ii n]=some (ii (gt l n).key):=jy h (dq h h') rfl rfl rfl
theorem U4{l:List aI}{n:Int}(h:0<=n)(h':n<l.length):Prim.ev (.cell 8 4) [.l (l.map bh),ii n]=some (ii (gt l n).seq):=gN h (dq h h') rfl rfl
theorem U5{l:List aI}{n:Int}(h:0<=n)(h':n<l.length):Prim.ev (.bN 8 4) [.l (l.map bh),ii n]=some (ii (gt l n).seq):=jy h (dq h h') rfl rfl rfl
theorem U6{l:List aI}{n:Int}(h:0<=n)(h':n<l.length):Prim.ev (.cell 8 5) [.l (l.map bh),ii n]=some (.l ((gt l n).fU.map gD)):=gN h (dq h h') rfl rfl
theorem U7{l:List aI}{n:Int}(h:0<=n)(h':n<l.length):Prim.ev (.jj 8 5) [.l (l.map bh),ii n]=some (.l ((gt l n).fU.map gD)):=wi h (dq h h') rfl rfl
theorem U8{l:List aI}{n:Int}(h:0<=n)(h':n<l.length):Prim.ev (.cell 8 6) [.l (l.map bh),ii n]=some (ii (gt l n).cost):=gN h (dq h h') rfl rfl
theorem U9{l:List aI}{n:Int}(h:0<=n)(h':n<l.length):Prim.ev (.bN 8 6) [.l (l.map bh),ii n]=some (ii (gt l n).cost):=jy h (dq h h') rfl rfl rfl
theorem U_{l:List aI}{n:Int}(h:0<=n)(h':n<l.length):Prim.ev (.cell 8 7) [.l (l.map bh),ii n]=some (bb (gt l n).jX):=gN h (dq h h') rfl rfl
theorem U'{l:List aI}{n:Int}(h:0<=n)(h':n<l.length):Prim.ev (.bN 8 7) [.l (l.map bh),ii n]=some (bb (gt l n).jX):=jy h (dq h h') rfl rfl rfl
theorem K6{l m:List aI}(h:l.length+m.length<4294967296):Prim.ev (.app false 8) [.l (l.map bh),.l (m.map bh)]=some (.l ((l++m).map bh)):=pd (w:=8) (λ_=>rfl) (.inl rfl) h
theorem K7{m:List aI}(h:m.length<4294967296):Prim.ev (.app false 8) [.l [],.l (m.map bh)]=some (.l (m.map bh)):=qu (w:=8) (λ_=>rfl) (.inl rfl) h
theorem Va{l:List aI}{x:aI}(h:l.length<4294967295):Prim.ev (.app false 8) [.l (l.map bh),.l ([x].map bh)]=some (.l ((l++[x]).map bh)):=K6 (by simp;omega)
theorem Vb{x:aI}:Prim.ev (.app false 8) [.l [],.l ([x].map bh)]=some (.l ([x].map bh)):=K7 (by simp)
theorem Vc{l:List aI}{a:Int}(h:0<=a)(h':a<=l.length):Prim.ev (.sub 8 true false) [.l (l.map bh),ii a]=some (.l ((l.drop a.toNat).map bh)):=wl (enc:=bh) (w:=8) (λ_=>rfl) h h'
theorem Vd{l:List aI}{a:Int}(h:0<=a)(h':a<=l.length):Prim.ev (.sub 8 false true) [.l (l.map bh),ii a]=some (.l ((l.take a.toNat).map bh)):=wm (enc:=bh) (w:=8) (λ_=>rfl) h h'
theorem K8(v0:Int)(v1:Int)(v2:Int)(v3:Int)(v4:Int)(v5:List cF)(v6:Int)(v7:Bool):Prim.ev (.lit 8 [true,true,true,true,true,false,true,true]) [ii v0,ii v1,ii v2,ii v3,ii v4,.l (v5.map gD),ii v6,bb v7]=some (.l ([(⟨v0,v1,v2,v3,v4,v5,v6,v7⟩:aI)].map bh)):=n4 (by decide) rfl rfl
theorem Ve(v0:Int)(v1:Int)(v2:Int)(v3:Int)(v4:Int)(v5:List cF)(v6:Int)(v7:Bool):Prim.ev (.lit 8 []) [ii v0,ii v1,ii v2,ii v3,ii v4,.l (v5.map gD),ii v6,bb v7]=some (.l ([(⟨v0,v1,v2,v3,v4,v5,v6,v7⟩:aI)].map bh)):=n4 (by decide) rfl rfl
theorem Vf(x:aI):(⟨x.aC,x.kind,x.owner,x.key,x.seq,x.fU,x.cost,x.jX⟩:aI)=x:=rfl
structure Way where
 to:Int
 cost:Int
 ae:List Int
 deriving Inhabited
def bM(x:Way):List T:=[ii x.to,ii x.cost,.l (x.ae.map aA)]
theorem Vg{l:List Way}{n:Int}(h:0<=n)(h':n<l.length):Prim.ev (.cell 3 0) [.l (l.map bM),ii n]=some (ii (gt l n).to):=gN h (dq h h') rfl rfl
theorem Vh{l:List Way}{n:Int}(h:0<=n)(h':n<l.length):Prim.ev (.bN 3 0) [.l (l.map bM),ii n]=some (ii (gt l n).to):=jy h (dq h h') rfl rfl rfl
theorem Vi{l:List Way}{n:Int}(h:0<=n)(h':n<l.length):Prim.ev (.cell 3 1) [.l (l.map bM),ii n]=some (ii (gt l n).cost):=gN h (dq h h') rfl rfl
theorem Vj{l:List Way}{n:Int}(h:0<=n)(h':n<l.length):Prim.ev (.bN 3 1) [.l (l.map bM),ii n]=some (ii (gt l n).cost):=jy h (dq h h') rfl rfl rfl
theorem Vk{l:List Way}{n:Int}(h:0<=n)(h':n<l.length):Prim.ev (.cell 3 2) [.l (l.map bM),ii n]=some (.l ((gt l n).ae.map aA)):=gN h (dq h h') rfl rfl
theorem Vl{l:List Way}{n:Int}(h:0<=n)(h':n<l.length):Prim.ev (.jj 3 2) [.l (l.map bM),ii n]=some (.l ((gt l n).ae.map aA)):=wi h (dq h h') rfl rfl
theorem K9{l m:List Way}(h:l.length+m.length<4294967296):Prim.ev (.app false 3) [.l (l.map bM),.l (m.map bM)]=some (.l ((l++m).map bM)):=pd (w:=3) (λ_=>rfl) (.inl rfl) h
theorem K_{m:List Way}(h:m.length<4294967296):Prim.ev (.app false 3) [.l [],.l (m.map bM)]=some (.l (m.map bM)):=qu (w:=3) (λ_=>rfl) (.inl rfl) h
theorem Vm{l:List Way}{x:Way}(h:l.length<4294967295):Prim.ev (.app false 3) [.l (l.map bM),.l ([x].map bM)]=some (.l ((l++[x]).map bM)):=K9 (by simp;omega)
theorem Vn{x:Way}:Prim.ev (.app false 3) [.l [],.l ([x].map bM)]=some (.l ([x].map bM)):=K_ (by simp)
theorem Vo{l:List Way}{a:Int}(h:0<=a)(h':a<=l.length):Prim.ev (.sub 3 true false) [.l (l.map bM),ii a]=some (.l ((l.drop a.toNat).map bM)):=wl (enc:=bM) (w:=3) (λ_=>rfl) h h'
theorem Vp{l:List Way}{a:Int}(h:0<=a)(h':a<=l.length):Prim.ev (.sub 3 false true) [.l (l.map bM),ii a]=some (.l ((l.take a.toNat).map bM)):=wm (enc:=bM) (w:=3) (λ_=>rfl) h h'
theorem Vq(v0:Int)(v1:Int)(v2:List Int):Prim.ev (.lit 3 [true,true,false]) [ii v0,ii v1,.l (v2.map aA)]=some (.l ([(⟨v0,v1,v2⟩:Way)].map bM)):=n4 (by decide) rfl rfl
theorem Vr(v0:Int)(v1:Int)(v2:List Int):Prim.ev (.lit 3 []) [ii v0,ii v1,.l (v2.map aA)]=some (.l ([(⟨v0,v1,v2⟩:Way)].map bM)):=n4 (by decide) rfl rfl
theorem Vs(x:Way):(⟨x.to,x.cost,x.ae⟩:Way)=x:=rfl
structure bP where
 aL:Bool
 to:Int
 kind:Int
 cost:Int
 jX:Int
 ae:List Int
 deriving Inhabited
def gE(x:bP):List T:=[bb x.aL,ii x.to,ii x.kind,ii x.cost,ii x.jX,.l (x.ae.map aA)]
def zh(x:bP):Prop:=pc x.to∧pc x.kind∧pc x.cost∧pc x.jX∧(x.ae.length<=maxLen∧∀y∈x.ae,KO y)
theorem Vt{l:List bP}{n:Int}(h:0<=n)(h':n<l.length):Prim.ev (.cell 6 0) [.l (l.map gE),ii n]=some (bb (gt l n).aL):=gN h (dq h h') rfl rfl
theorem Vu{l:List bP}{n:Int}(h:0<=n)(h':n<l.length):Prim.ev (.bN 6 0) [.l (l.map gE),ii n]=some (bb (gt l n).aL):=jy h (dq h h') rfl rfl rfl
theorem Vv{l:List bP}{n:Int}(h:0<=n)(h':n<l.length):Prim.ev (.cell 6 1) [.l (l.map gE),ii n]=some (ii (gt l n).to):=gN h (dq h h') rfl rfl
theorem Vw{l:List bP}{n:Int}(h:0<=n)(h':n<l.length):Prim.ev (.bN 6 1) [.l (l.map gE),ii n]=some (ii (gt l n).to):=jy h (dq h h') rfl rfl rfl
theorem Vx{l:List bP}{n:Int}(h:0<=n)(h':n<l.length):Prim.ev (.cell 6 2) [.l (l.map gE),ii n]=some (ii (gt l n).kind):=gN h (dq h h') rfl rfl
theorem Vy{l:List bP}{n:Int}(h:0<=n)(h':n<l.length):Prim.ev (.bN 6 2) [.l (l.map gE),ii n]=some (ii (gt l n).kind):=jy h (dq h h') rfl rfl rfl
theorem Vz{l:List bP}{n:Int}(h:0<=n)(h':n<l.length):Prim.ev (.cell 6 3) [.l (l.map gE),ii n]=some (ii (gt l n).cost):=gN h (dq h h') rfl rfl
theorem VA{l:List bP}{n:Int}(h:0<=n)(h':n<l.length):Prim.ev (.bN 6 3) [.l (l.map gE),ii n]=some (ii (gt l n).cost):=jy h (dq h h') rfl rfl rfl
theorem VB{l:List bP}{n:Int}(h:0<=n)(h':n<l.length):Prim.ev (.cell 6 4) [.l (l.map gE),ii n]=some (ii (gt l n).jX):=gN h (dq h h') rfl rfl
theorem VC{l:List bP}{n:Int}(h:0<=n)(h':n<l.length):Prim.ev (.bN 6 4) [.l (l.map gE),ii n]=some (ii (gt l n).jX):=jy h (dq h h') rfl rfl rfl
theorem VD{l:List bP}{n:Int}(h:0<=n)(h':n<l.length):Prim.ev (.cell 6 5) [.l (l.map gE),ii n]=some (.l ((gt l n).ae.map aA)):=gN h (dq h h') rfl rfl
theorem VE{l:List bP}{n:Int}(h:0<=n)(h':n<l.length):Prim.ev (.jj 6 5) [.l (l.map gE),ii n]=some (.l ((gt l n).ae.map aA)):=wi h (dq h h') rfl rfl
theorem kt_{l m:List bP}(h:l.length+m.length<4294967296):Prim.ev (.app false 6) [.l (l.map gE),.l (m.map gE)]=some (.l ((l++m).map gE)):=pd (w:=6) (λ_=>rfl) (.inl rfl) h
theorem jK_{m:List bP}(h:m.length<4294967296):Prim.ev (.app false 6) [.l [],.l (m.map gE)]=some (.l (m.map gE)):=qu (w:=6) (λ_=>rfl) (.inl rfl) h
theorem VF{l:List bP}{x:bP}(h:l.length<4294967295):Prim.ev (.app false 6) [.l (l.map gE),.l ([x].map gE)]=some (.l ((l++[x]).map gE)):=kt_ (by simp;omega)
theorem VG{x:bP}:Prim.ev (.app false 6) [.l [],.l ([x].map gE)]=some (.l ([x].map gE)):=jK_ (by simp)
theorem VH{l:List bP}{a:Int}(h:0<=a)(h':a<=l.length):Prim.ev (.sub 6 true false) [.l (l.map gE),ii a]=some (.l ((l.drop a.toNat).map gE)):=wl (enc:=gE) (w:=6) (λ_=>rfl) h h'
theorem VI{l:List bP}{a:Int}(h:0<=a)(h':a<=l.length):Prim.ev (.sub 6 false true) [.l (l.map gE),ii a]=some (.l ((l.take a.toNat).map gE)):=wm (enc:=gE) (w:=6) (λ_=>rfl) h h'
theorem VJ(v0:Bool)(v1:Int)(v2:Int)(v3:Int)(v4:Int)(v5:List Int):Prim.ev (.lit 6 [true,true,true,true,true,false]) [bb v0,ii v1,ii v2,ii v3,ii v4,.l (v5.map aA)]=some (.l ([(⟨v0,v1,v2,v3,v4,v5⟩:bP)].map gE)):=n4 (by decide) rfl rfl
theorem VK(v0:Bool)(v1:Int)(v2:Int)(v3:Int)(v4:Int)(v5:List Int):Prim.ev (.lit 6 []) [bb v0,ii v1,ii v2,ii v3,ii v4,.l (v5.map aA)]=some (.l ([(⟨v0,v1,v2,v3,v4,v5⟩:bP)].map gE)):=n4 (by decide) rfl rfl
theorem VL(x:bP):(⟨x.aL,x.to,x.kind,x.cost,x.jX,x.ae⟩:bP)=x:=rfl
structure Self where
 id:Int
 aga:Int
 net:Net
 heard:List Int
 store:List aI
 deriving Inhabited
structure mQ where
 node:Int
 aC:Int
 left:Int
 both:Bool
 deriving Inhabited
def dH(x:mQ):List T:=[ii x.node,ii x.aC,ii x.left,bb x.both]
theorem VM{l:List mQ}{n:Int}(h:0<=n)(h':n<l.length):Prim.ev (.cell 4 0) [.l (l.map dH),ii n]=some (ii (gt l n).node):=gN h (dq h h') rfl rfl
theorem VN{l:List mQ}{n:Int}(h:0<=n)(h':n<l.length):Prim.ev (.bN 4 0) [.l (l.map dH),ii n]=some (ii (gt l n).node):=jy h (dq h h') rfl rfl rfl
theorem VO{l:List mQ}{n:Int}(h:0<=n)(h':n<l.length):Prim.ev (.cell 4 1) [.l (l.map dH),ii n]=some (ii (gt l n).aC):=gN h (dq h h') rfl rfl
theorem VP{l:List mQ}{n:Int}(h:0<=n)(h':n<l.length):Prim.ev (.bN 4 1) [.l (l.map dH),ii n]=some (ii (gt l n).aC):=jy h (dq h h') rfl rfl rfl
theorem VQ{l:List mQ}{n:Int}(h:0<=n)(h':n<l.length):Prim.ev (.cell 4 2) [.l (l.map dH),ii n]=some (ii (gt l n).left):=gN h (dq h h') rfl rfl
theorem VR{l:List mQ}{n:Int}(h:0<=n)(h':n<l.length):Prim.ev (.bN 4 2) [.l (l.map dH),ii n]=some (ii (gt l n).left):=jy h (dq h h') rfl rfl rfl
theorem VS{l:List mQ}{n:Int}(h:0<=n)(h':n<l.length):Prim.ev (.cell 4 3) [.l (l.map dH),ii n]=some (bb (gt l n).both):=gN h (dq h h') rfl rfl
theorem VT{l:List mQ}{n:Int}(h:0<=n)(h':n<l.length):Prim.ev (.bN 4 3) [.l (l.map dH),ii n]=some (bb (gt l n).both):=jy h (dq h h') rfl rfl rfl
theorem La{l m:List mQ}(h:l.length+m.length<4294967296):Prim.ev (.app false 4) [.l (l.map dH),.l (m.map dH)]=some (.l ((l++m).map dH)):=pd (w:=4) (λ_=>rfl) (.inl rfl) h
theorem Lc{m:List mQ}(h:m.length<4294967296):Prim.ev (.app false 4) [.l [],.l (m.map dH)]=some (.l (m.map dH)):=qu (w:=4) (λ_=>rfl) (.inl rfl) h
theorem Ld{l m:List mQ}(h:l.length+m.length<4294967296):Prim.ev (.app true 4) [.l (l.map dH),.l (m.map dH)]=some (.l ((l++m).map dH)):=pd (w:=4) (λ_=>rfl) (.inr λ_=>rfl) h
theorem Le{m:List mQ}(h:m.length<4294967296):Prim.ev (.app true 4) [.l [],.l (m.map dH)]=some (.l (m.map dH)):=qu (w:=4) (λ_=>rfl) (.inr λ_=>rfl) h
theorem VU{l:List mQ}{x:mQ}(h:l.length<4294967295):Prim.ev (.app false 4) [.l (l.map dH),.l ([x].map dH)]=some (.l ((l++[x]).map dH)):=La (by simp;omega)
theorem VV{x:mQ}:Prim.ev (.app false 4) [.l [],.l ([x].map dH)]=some (.l ([x].map dH)):=Lc (by simp)
theorem VW{l:List mQ}{x:mQ}(h:l.length<4294967295):Prim.ev (.app true 4) [.l (l.map dH),.l ([x].map dH)]=some (.l ((l++[x]).map dH)):=Ld (by simp;omega)
theorem VX{x:mQ}:Prim.ev (.app true 4) [.l [],.l ([x].map dH)]=some (.l ([x].map dH)):=Le (by simp)
theorem VY{l:List mQ}{a:Int}(h:0<=a)(h':a<=l.length):Prim.ev (.sub 4 true false) [.l (l.map dH),ii a]=some (.l ((l.drop a.toNat).map dH)):=wl (enc:=dH) (w:=4) (λ_=>rfl) h h'
theorem VZ{l:List mQ}{a:Int}(h:0<=a)(h':a<=l.length):Prim.ev (.sub 4 false true) [.l (l.map dH),ii a]=some (.l ((l.take a.toNat).map dH)):=wm (enc:=dH) (w:=4) (λ_=>rfl) h h'
theorem V0(v0:Int)(v1:Int)(v2:Int)(v3:Bool):Prim.ev (.lit 4 [true,true,true,true]) [ii v0,ii v1,ii v2,bb v3]=some (.l ([(⟨v0,v1,v2,v3⟩:mQ)].map dH)):=n4 (by decide) rfl rfl
theorem V1(v0:Int)(v1:Int)(v2:Int)(v3:Bool):Prim.ev (.lit 4 []) [ii v0,ii v1,ii v2,bb v3]=some (.l ([(⟨v0,v1,v2,v3⟩:mQ)].map dH)):=n4 (by decide) rfl rfl
theorem V2(x:mQ):(⟨x.node,x.aC,x.left,x.both⟩:mQ)=x:=rfl
structure Node where
 self:Self
 agb:List mQ
 deriving Inhabited
structure Dg where
 kind:Int
 frm:Int
 to:Int
 aC:Int
 heard:List Int
 list:List aI
 deriving Inhabited
structure aN where
 aL:Bool
 to:Int
 ae:List Int
 deriving Inhabited
def ef(x:aN):List T:=[bb x.aL,ii x.to,.l (x.ae.map aA)]
theorem V3{l:List aN}{n:Int}(h:0<=n)(h':n<l.length):Prim.ev (.cell 3 0) [.l (l.map ef),ii n]=some (bb (gt l n).aL):=gN h (dq h h') rfl rfl
theorem V4{l:List aN}{n:Int}(h:0<=n)(h':n<l.length):Prim.ev (.bN 3 0) [.l (l.map ef),ii n]=some (bb (gt l n).aL):=jy h (dq h h') rfl rfl rfl
theorem V5{l:List aN}{n:Int}(h:0<=n)(h':n<l.length):Prim.ev (.cell 3 1) [.l (l.map ef),ii n]=some (ii (gt l n).to):=gN h (dq h h') rfl rfl
theorem V6{l:List aN}{n:Int}(h:0<=n)(h':n<l.length):Prim.ev (.bN 3 1) [.l (l.map ef),ii n]=some (ii (gt l n).to):=jy h (dq h h') rfl rfl rfl
theorem V7{l:List aN}{n:Int}(h:0<=n)(h':n<l.length):Prim.ev (.cell 3 2) [.l (l.map ef),ii n]=some (.l ((gt l n).ae.map aA)):=gN h (dq h h') rfl rfl
theorem Dh{l:List aN}{n:Int}(h:0<=n)(h':n<l.length):Prim.ev (.jj 3 2) [.l (l.map ef),ii n]=some (.l ((gt l n).ae.map aA)):=wi h (dq h h') rfl rfl
theorem Lg{l m:List aN}(h:l.length+m.length<4294967296):Prim.ev (.app false 3) [.l (l.map ef),.l (m.map ef)]=some (.l ((l++m).map ef)):=pd (w:=3) (λ_=>rfl) (.inl rfl) h
theorem kd_{m:List aN}(h:m.length<4294967296):Prim.ev (.app false 3) [.l [],.l (m.map ef)]=some (.l (m.map ef)):=qu (w:=3) (λ_=>rfl) (.inl rfl) h
theorem V8{l:List aN}{x:aN}(h:l.length<4294967295):Prim.ev (.app false 3) [.l (l.map ef),.l ([x].map ef)]=some (.l ((l++[x]).map ef)):=Lg (by simp;omega)
theorem V9{x:aN}:Prim.ev (.app false 3) [.l [],.l ([x].map ef)]=some (.l ([x].map ef)):=kd_ (by simp)
theorem V_{l:List aN}{a:Int}(h:0<=a)(h':a<=l.length):Prim.ev (.sub 3 true false) [.l (l.map ef),ii a]=some (.l ((l.drop a.toNat).map ef)):=wl (enc:=ef) (w:=3) (λ_=>rfl) h h'
theorem V'{l:List aN}{a:Int}(h:0<=a)(h':a<=l.length):Prim.ev (.sub 3 false true) [.l (l.map ef),ii a]=some (.l ((l.take a.toNat).map ef)):=wm (enc:=ef) (w:=3) (λ_=>rfl) h h'
theorem Wa(v0:Bool)(v1:Int)(v2:List Int):Prim.ev (.lit 3 [true,true,false]) [bb v0,ii v1,.l (v2.map aA)]=some (.l ([(⟨v0,v1,v2⟩:aN)].map ef)):=n4 (by decide) rfl rfl
theorem Wb(v0:Bool)(v1:Int)(v2:List Int):Prim.ev (.lit 3 []) [bb v0,ii v1,.l (v2.map aA)]=some (.l ([(⟨v0,v1,v2⟩:aN)].map ef)):=n4 (by decide) rfl rfl
theorem Wc(x:aN):(⟨x.aL,x.to,x.ae⟩:aN)=x:=rfl
structure dP where
 gone:Bool
 line:aN
 deriving Inhabited
def iW(x:dP):List T:=[bb x.gone,bb x.line.aL,ii x.line.to,.l (x.line.ae.map aA)]
theorem Wd{l:List dP}{n:Int}(h:0<=n)(h':n<l.length):Prim.ev (.cell 4 0) [.l (l.map iW),ii n]=some (bb (gt l n).gone):=gN h (dq h h') rfl rfl
theorem We{l:List dP}{n:Int}(h:0<=n)(h':n<l.length):Prim.ev (.bN 4 0) [.l (l.map iW),ii n]=some (bb (gt l n).gone):=jy h (dq h h') rfl rfl rfl
theorem Wf{l:List dP}{n:Int}(h:0<=n)(h':n<l.length):Prim.ev (.cell 4 1) [.l (l.map iW),ii n]=some (bb (gt l n).line.aL):=gN h (dq h h') rfl rfl
theorem Wg{l:List dP}{n:Int}(h:0<=n)(h':n<l.length):Prim.ev (.bN 4 1) [.l (l.map iW),ii n]=some (bb (gt l n).line.aL):=jy h (dq h h') rfl rfl rfl
theorem Wh{l:List dP}{n:Int}(h:0<=n)(h':n<l.length):Prim.ev (.cell 4 2) [.l (l.map iW),ii n]=some (ii (gt l n).line.to):=gN h (dq h h') rfl rfl
theorem Wi{l:List dP}{n:Int}(h:0<=n)(h':n<l.length):Prim.ev (.bN 4 2) [.l (l.map iW),ii n]=some (ii (gt l n).line.to):=jy h (dq h h') rfl rfl rfl
theorem Wj{l:List dP}{n:Int}(h:0<=n)(h':n<l.length):Prim.ev (.cell 4 3) [.l (l.map iW),ii n]=some (.l ((gt l n).line.ae.map aA)):=gN h (dq h h') rfl rfl
theorem Wl{l:List dP}{n:Int}(h:0<=n)(h':n<l.length):Prim.ev (.jj 4 3) [.l (l.map iW),ii n]=some (.l ((gt l n).line.ae.map aA)):=wi h (dq h h') rfl rfl
theorem Lh{l m:List dP}(h:l.length+m.length<4294967296):Prim.ev (.app false 4) [.l (l.map iW),.l (m.map iW)]=some (.l ((l++m).map iW)):=pd (w:=4) (λ_=>rfl) (.inl rfl) h
theorem kh_{m:List dP}(h:m.length<4294967296):Prim.ev (.app false 4) [.l [],.l (m.map iW)]=some (.l (m.map iW)):=qu (w:=4) (λ_=>rfl) (.inl rfl) h
theorem Wm{l:List dP}{x:dP}(h:l.length<4294967295):Prim.ev (.app false 4) [.l (l.map iW),.l ([x].map iW)]=some (.l ((l++[x]).map iW)):=Lh (by simp;omega)
theorem Wn{x:dP}:Prim.ev (.app false 4) [.l [],.l ([x].map iW)]=some (.l ([x].map iW)):=kh_ (by simp)
theorem Wo{l:List dP}{a:Int}(h:0<=a)(h':a<=l.length):Prim.ev (.sub 4 true false) [.l (l.map iW),ii a]=some (.l ((l.drop a.toNat).map iW)):=wl (enc:=iW) (w:=4) (λ_=>rfl) h h'
theorem Wp{l:List dP}{a:Int}(h:0<=a)(h':a<=l.length):Prim.ev (.sub 4 false true) [.l (l.map iW),ii a]=some (.l ((l.take a.toNat).map iW)):=wm (enc:=iW) (w:=4) (λ_=>rfl) h h'
theorem Di(v0:Bool)(v1:Bool)(v2:Int)(v3:List Int):Prim.ev (.lit 4 [true,true,true,false]) [bb v0,bb v1,ii v2,.l (v3.map aA)]=some (.l ([(⟨v0,⟨v1,v2,v3⟩⟩:dP)].map iW)):=n4 (by decide) rfl rfl
theorem Wq(v0:Bool)(v1:Bool)(v2:Int)(v3:List Int):Prim.ev (.lit 4 []) [bb v0,bb v1,ii v2,.l (v3.map aA)]=some (.l ([(⟨v0,⟨v1,v2,v3⟩⟩:dP)].map iW)):=n4 (by decide) rfl rfl
theorem Wr(x:dP):(⟨x.gone,⟨x.line.aL,x.line.to,x.line.ae⟩⟩:dP)=x:=rfl
structure World where
 net:Net
 cX:List Bool
 up:List Bool
 aev:List Int
 nodes:List Node
 Ws:List Dg
 told:List aI
 errors:Int
 deriving Inhabited
set_option linter.unusedSimpArgs false
set_option linter.defProp false
theorem pz:(∀p:Prop,(p∨p)=p)∧(∀p:Prop,(p∨True)=True)∧(∀p:Prop,(True∨p)=True)∧(∀p:Prop,(p∨False)=p)∧(∀p:Prop,(False∨p)=p)∧(¬True)=False∧(¬False)=True∧(∀a:Int,(a<a)=False):=
 ⟨or_self,or_true,true_or,or_false,false_or,not_true_eq_false,not_false_eq_true,λa=>eq_false (Int.lt_irrefl a)⟩
@[congr] theorem agc {α β:Type} {F:(α->Option β)->α->Option β} {R:Nat} {x y:α} (h:x=y):iter F R x=iter F R y:=by rw[h]
@[congr] theorem agd {α β:Type} {o o':Option α} {f:α->Option β} (h:o=o'):o.bind f=o'.bind f:=by rw[h]
@[congr] theorem age {t t':T} {x y:Option (List T)} (h:t=t'):aB t x y=aB t' x y:=by rw[h]
@[congr] theorem agf {k:ay} {b:ay->Option (List T)}:jn k b=jn k b:=rfl
@[congr] theorem agh {o o':Option (List T)} {k:T->Option (List T)} (h:o=o'):ca o k=ca o' k:=by rw[h]
@[congr] theorem agi {k:T->Option (List T)} {l l':List T} (h:l=l'):dA k l=dA k l':=by rw[h]
@[congr] theorem agj {o o':Option (List T)} {k:T->T->Option (List T)} (h:o=o'):Fm o k=Fm o' k:=by rw[h]
@[congr] theorem agk {k:T->T->Option (List T)} {l l':List T} (h:l=l'):dO k l=dO k l':=by rw[h]
@[congr] theorem agl {o o':Option (List T)} {k:T->T->T->Option (List T)} (h:o=o'):nl o k=nl o' k:=by rw[h]
@[congr] theorem agm {k:T->T->T->Option (List T)} {l l':List T} (h:l=l'):wh k l=wh k l':=by rw[h]
@[congr] theorem agn {o o':Option (List T)} {k:T->T->T->T->Option (List T)} (h:o=o'):gM o k=gM o' k:=by rw[h]
@[congr] theorem ago {k:T->T->T->T->Option (List T)} {l l':List T} (h:l=l'):Fo k l=Fo k l':=by rw[h]
@[congr] theorem agp {k:T->T->T->T->T->Option (List T)} {l l':List T} (h:l=l'):ze k l=ze k l':=by rw[h]
@[congr] theorem agq {o o':Option (List T)} {k:T->T->T->T->T->T->Option (List T)} (h:o=o'):N6 o k=N6 o' k:=by rw[h]
@[congr] theorem ags {k:T->T->T->T->T->T->Option (List T)} {l l':List T} (h:l=l'):N7 k l=N7 k l':=by rw[h]
@[congr] theorem agt {o o':Option (List T)} {k:T->T->T->T->T->T->T->Option (List T)} (h:o=o'):KI o k=KI o' k:=by rw[h]
@[congr] theorem agu {k:T->T->T->T->T->T->T->Option (List T)} {l l':List T} (h:l=l'):N8 k l=N8 k l':=by rw[h]
@[congr] theorem agv {o o':Option (List T)} {k:T->T->T->T->T->T->T->T->Option (List T)} (h:o=o'):N9 o k=N9 o' k:=by rw[h]
@[congr] theorem agw {o o':Option (List T)} {k:T->T->T->T->T->T->T->T->T->Option (List T)} (h:o=o'):Fp o k=Fp o' k:=by rw[h]
theorem Dj(b:Bool)(x y:Option (List T)):aB (bb b) x y=if b=true then x else y:=by cases b<;>rfl
theorem Wt:Prim.ev .len [.l []]=some (ii 0):=rfl
theorem Wu(a b:Int)(h:b≠0):Prim.ev (.bin .rem) [ii a,ii b]=some (ii (a.tmod b)):=by
 simp only[Prim.ev,T.val,gH,Option.bind_some,if_true,h,if_false]
theorem Wv(a b:Int):Prim.ev .mx [ii a,ii b]=some (ii (if b>a then b else a)):=rfl
theorem Ww(a b:Int):Prim.ev .mn [ii a,ii b]=some (ii (if b<a then b else a)):=rfl
theorem Wx(a b c d a' b' c' d':Int):Prim.ev (.qV [1,1,1,1]) [ii a,ii b,ii c,ii d,ii a',ii b',ii c',ii d']=some (bb (a==a'&&(b==b'&&(c==c'&&(d==d'))))):=by
 simp[Prim.ev,r7,EQ]
theorem Wy(a b c a' b' c':Int)(d d':Bool):Prim.ev (.qV [1,1,1,4]) [ii a,ii b,ii c,bb d,ii a',ii b',ii c',bb d']=some (bb (a==a'&&(b==b'&&(c==c'&&(d==d'))))):=by
 simp[Prim.ev,r7,EQ]
theorem Wz{w:Nat}(h:0<w):Prim.ev (.lit w []) []=some (.l []):=by
 simp[Prim.ev,qX,nW,h]
theorem WC(a b:Int):Prim.ev (.lit 1 [true,true]) [ii a,ii b]=some (.l ([a,b].map aA)):=by simp[Prim.ev,qX,nW,dr,aA]
theorem WD(a b:Int):Prim.ev (.lit 1 []) [ii a,ii b]=some (.l ([a,b].map aA)):=by simp[Prim.ev,qX,nW,aA]
theorem WE{l:List Int}{x y:Int}(h:l.length<4294967294):Prim.ev (.app true 1) [.l (l.map aA),.l ([x,y].map aA)]=some (.l ((l++[x,y]).map aA)):=KS (by simp;omega)
theorem WG(a b:Int):((a==b)=true)=(a=b):=by simp
theorem WH(a b:Int):((a !=b)=true)=¬(a=b):=by simp
theorem WI(b:Bool):((!b)=true)=¬(b=true):=by simp
theorem WJ(a b:Bool):((a !=b)=true)=¬((a=true)=(b=true)):=by cases a<;>cases b<;>simp
theorem WK(a b:Bool):((a==b)=true)=((a=true)=(b=true)):=by cases a<;>cases b<;>simp
theorem wo(n:Nat):((n+1:Nat):Int)=(n:Int)+1:=by simp
theorem Li(a b:Nat):((a+b:Nat):Int)=(a:Int)+b:=by simp
theorem Lj:((1:Nat):Int)=1:=rfl
theorem WL:((2:Nat):Int)=2:=rfl
theorem WM:((3:Nat):Int)=3:=rfl
theorem WN:((5:Nat):Int)=5:=rfl
theorem WO:((6:Nat):Int)=6:=rfl
theorem WQ:((7:Nat):Int)=7:=rfl
theorem WR:((9:Nat):Int)=9:=rfl
theorem WS:((0:Nat):Int)=0:=rfl
theorem wq{α:Type}{p q:Prop} [Decidable p] [Decidable q](h:p↔q)(x y:α):(if p then x else y)=if q then x else y:=by
 by_cases hq:q
 ·rw[if_pos (h.2 hq),if_pos hq]
 ·rw[if_neg (λhp=>hq (h.1 hp)),if_neg hq]
def pe(n:Nat)(p:Nat->Bool):Bool:=(List.range n).all p
theorem cY{n:Nat}{p:Nat->Bool}:pe n p=true↔∀i,i<n->p i=true:=by
 simp[pe]
theorem Dk{β σ:Type}{F:(σ->Option β)->σ->Option β}(n:Nat)(st:Nat->σ)(p:Nat->Bool){lJ lK:Option β}
  (step:∀i:Nat,(i:Int)<(n:Int)->∀s,F s (st i)=if p i=true then s (st (i+1))else lK)(fin:∀s,F s (st n)=lJ){R:Nat}(hR:n<R):
  iter F R (st 0)=if pe n p=true then lJ else lK:=by
 classical
 have:∀(d i:Nat),i+d=n->∀R,d<R->iter F R (st i)=if(∀j,i<=j->j<n->p j=true)then lJ else lK:=by
  intro d
  induction d with
  |zero=>
   intro i hi R hR
   cases R with
   |zero=>omega
   |succ R=>
    have hi:i=n:=hi
    subst hi
    rw[if_pos (λj h1 h2=>absurd h1 (by omega))]
    exact fin _
  |succ d ih=>
   intro i hi R hR
   cases R with
   |zero=>omega
   |succ R=>
    unfold iter
    rw[step i (by omega)]
    by_cases hp:p i=true
    ·rw[if_pos hp,ih (i+1) (by omega) R (by omega)]
     refine wq ⟨λh j h1 h2=>?_,λh j h1 h2=>h j (by omega) h2⟩ _ _
     rcases Nat.lt_or_ge i j with h3|h3
     ·exact h j h3 h2
     ·have:j=i:=by omega
      subst this;exact hp
    ·rw[if_neg hp,if_neg λh=>hp (h i (Nat.le_refl i) (by omega))]
 rw[this n 0 (by omega) R hR]
 exact wq ⟨λh=>cY.2 λi hi=>h i (Nat.zero_le i) hi,λh j _ h2=>cY.1 h j h2⟩ _ _
def eg{α:Type}(p:α->Bool)(l:List α):Int:=match l.findIdx? p with|some i=>(i:Int)|none=>-1
theorem tS{α:Type}(p:α->Bool)(l:List α):eg p l<l.length:=by
 unfold eg
 cases h:l.findIdx? p with
 |none=>show(-1:Int)<_;omega
 |some i=>
  obtain⟨h1,_⟩:=List.findIdx?_eq_some_iff_getElem.1 h
  show(i:Int)<_;omega
theorem WU{α:Type}(p:α->Bool)(l:List α):-1<=eg p l:=by
 unfold eg
 cases h:l.findIdx? p with
 |none=>show(-1:Int)<=-1;omega
 |some i=>show(-1:Int)<=(i:Int);omega
theorem zi{α:Type} [Inhabited α](p:α->Bool)(l:List α)(h:0<=eg p l):p (gt l (eg p l))=true:=by
 unfold eg at h⊢
 cases h':l.findIdx? p with
 |none=>rw[h']at h;exact absurd h (by decide)
 |some i=>
  obtain⟨h1,h2,_⟩:=List.findIdx?_eq_some_iff_getElem.1 h'
  show p (gt l (i:Int))=true
  rw[gC h1];exact h2
theorem AH{α:Type}(p:α->Bool)(l:List α):eg p l<0↔∀x∈l,p x=false:=by
 unfold eg
 cases h:l.findIdx? p with
 |none=>
  rw[List.findIdx?_eq_none_iff]at h
  exact⟨λ_=>h,λ_=>by show(-1:Int)<0;decide⟩
 |some i=>
  obtain⟨h1,h2,_⟩:=List.findIdx?_eq_some_iff_getElem.1 h
  refine⟨λh3=>absurd (show(i:Int)<0 from h3) (by omega),λh3=>?_⟩
  rw[h3 _ (List.getElem_mem h1)]at h2
  cases h2
theorem Lk{α β σ:Type} [Inhabited α]{F:(σ->Option β)->σ->Option β}(l:List α)(st:Nat->σ)(p:α->Bool)(pf:Int->Option β){lL:Option β}
  (step:∀i:Nat,(i:Int)<(l.length:Int)->∀s,F s (st i)=if p (gt l i)=true then pf i else s (st (i+1)))(fin:∀s,F s (st l.length)=lL){R:Nat}(hR:l.length<R):
  iter F R (st 0)=if eg p l<0 then lL else pf (eg p l):=by
 have:∀(d i:Nat),i+d=l.length->∀R,d<R->iter F R (st i)=(match(l.drop i).findIdx? p with|some k=>pf ((i+k:Nat):Int)|none=>lL):=by
  intro d
  induction d with
  |zero=>
   intro i hi R hR
   cases R with
   |zero=>omega
   |succ R=>
    rw[Nat.add_zero]at hi
    subst hi
    rw[List.drop_length]
    exact fin _
  |succ d ih=>
   intro i hi R hR
   cases R with
   |zero=>omega
   |succ R=>
    have bH:i<l.length:=by omega
    unfold iter
    rw[step i (by omega),List.drop_eq_getElem_cons bH,List.findIdx?_cons,gC bH]
    cases hp:p l[i]with
    |true=>simp
    |false=>
     simp only[cA,if_false]
     rw[ih (i+1) (by omega) R (by omega)]
     cases(l.drop (i+1)).findIdx? p with
     |none=>rfl
     |some k=>simp[Int.add_assoc,Int.add_comm 1]
 have h:=this l.length 0 (by omega) R hR
 rw[h,List.drop_zero]
 unfold eg
 cases l.findIdx? p with
 |none=>rfl
 |some i=>
  show pf ((0+i:Nat):Int)=if(i:Int)<0 then lL else pf (i:Int)
  rw[if_neg (by omega),Nat.zero_add]
theorem Ll{α γ β σ:Type} [Inhabited α]{F:(σ->Option β)->σ->Option β}(l:List α)(st:Nat->γ->σ)(g:γ->α->γ)(out:γ->Option β)(c:γ)(Inv:Nat->γ->Prop)(h0:Inv 0 c)
  (step:∀(i:Nat) c,(i:Int)<(l.length:Int)->Inv i c->Inv (i+1) (g c (gt l i))∧∀s,F s (st i c)=s (st (i+1) (g c (gt l i))))(fin:∀c s,Inv l.length c->F s (st l.length c)=out c){R:Nat}(hR:l.length<R):
  iter F R (st 0 c)=out (l.foldl g c):=by
 have:∀(d i:Nat) (c:γ),i+d=l.length->Inv i c->∀R,d<R->iter F R (st i c)=out ((l.drop i).foldl g c):=by
  intro d
  induction d with
  |zero=>
   intro i c hi hc R hR
   cases R with
   |zero=>omega
   |succ R=>
    rw[Nat.add_zero]at hi
    subst hi
    rw[List.drop_length]
    exact fin _ _ hc
  |succ d ih=>
   intro i c hi hc R hR
   cases R with
   |zero=>omega
   |succ R=>
    have bH:i<l.length:=by omega
    unfold iter
    obtain⟨h1,h2⟩:=step i c (by omega) hc
    rw[h2,List.drop_eq_getElem_cons bH,List.foldl_cons,ih (i+1) _ (by omega) h1 R (by omega),gC bH]
 have h:=this l.length 0 c (by omega) h0 R hR
 simpa using h
theorem WV{γ β σ:Type}{F:(σ->Option β)->σ->Option β}(n:Nat)(st:Nat->γ->σ)(g:γ->Nat->γ)(out:γ->Option β)(c:γ)(Inv:Nat->γ->Prop)(h0:Inv 0 c)
  (step:∀(i:Nat) c,(i:Int)<(n:Int)->Inv i c->Inv (i+1) (g c i)∧∀s,F s (st i c)=s (st (i+1) (g c i)))(fin:∀c s,Inv n c->F s (st n c)=out c){R:Nat}(hR:n<R):
  iter F R (st 0 c)=out ((List.range n).foldl g c):=by
 have hl:(List.range n).length=n:=List.length_range
 refine Ll (List.range n) st g out c Inv h0 (λi c hi hc=>?_) (λc s hc=>?_) (by rw[hl];exact hR)
 ·rw[hl]at hi
  rw[gC (by rw[hl];omega),List.getElem_range]
  exact step i c hi hc
 ·rw[hl]at hc⊢
  exact fin c s hc
theorem Ft{α β:Type}(p:α->Bool)(f:α->β)(l:List α)(acc:List β):l.foldl (λc a=>if p a=true then c++[f a]else c) acc=acc++(l.filter p).map f:=by
 induction l generalizing acc with
 |nil=>simp
 |cons a l ih=>
  rw[List.foldl_cons,ih]
  cases h:p a<;>simp[h,List.filter_cons]
theorem N_{α β:Type}(f:α->β)(l:List α)(acc:List β):l.foldl (λc a=>c++[f a]) acc=acc++l.map f:=by
 induction l generalizing acc with
 |nil=>simp
 |cons a l ih=>rw[List.foldl_cons,ih];simp
theorem Fu{β σ:Type}{F:(σ->Option β)->σ->Option β}{R:Nat}{x:σ}(n:Nat)(st:Nat->σ)(p:Nat->Bool){lJ lK:Option β}(hx:x=st 0)(hR:n<R)
  (step:∀i:Nat,(i:Int)<(n:Int)->∀s,F s (st i)=if p i=true then s (st (i+1))else lK)(fin:∀s,F s (st n)=lJ):
  iter F R x=if pe n p=true then lJ else lK:=by rw[hx];exact Dk n st p step fin hR
theorem Fv{α β σ:Type} [Inhabited α]{F:(σ->Option β)->σ->Option β}{R:Nat}{x:σ}(l:List α)(st:Nat->σ)(p:α->Bool)(pf:Int->Option β){lL:Option β}(hx:x=st 0)(hR:l.length<R)
  (step:∀i:Nat,(i:Int)<(l.length:Int)->∀s,F s (st i)=if p (gt l i)=true then pf i else s (st (i+1)))(fin:∀s,F s (st l.length)=lL):
  iter F R x=if eg p l<0 then lL else pf (eg p l):=by rw[hx];exact Lk l st p pf step fin hR
theorem jz{α γ β σ:Type} [Inhabited α]{F:(σ->Option β)->σ->Option β}{R:Nat}{x:σ}(l:List α)(st:Nat->γ->σ)(g:γ->α->γ)(out:γ->Option β)(c:γ)(Inv:Nat->γ->Prop)(hx:x=st 0 c)(hR:l.length<R)(h0:Inv 0 c)
  (step:∀(i:Nat) c,(i:Int)<(l.length:Int)->Inv i c->Inv (i+1) (g c (gt l i))∧∀s,F s (st i c)=s (st (i+1) (g c (gt l i))))(fin:∀c s,Inv l.length c->F s (st l.length c)=out c):
  iter F R x=out (l.foldl g c):=by rw[hx];exact Ll l st g out c Inv h0 step fin hR
theorem qP{γ β σ:Type}{F:(σ->Option β)->σ->Option β}{R:Nat}{x:σ}(n:Nat)(st:Nat->γ->σ)(g:γ->Nat->γ)(out:γ->Option β)(c:γ)(Inv:Nat->γ->Prop)(hx:x=st 0 c)(hR:n<R)(h0:Inv 0 c)
  (step:∀(i:Nat) c,(i:Int)<(n:Int)->Inv i c->Inv (i+1) (g c i)∧∀s,F s (st i c)=s (st (i+1) (g c i)))(fin:∀c s,Inv n c->F s (st n c)=out c):
  iter F R x=out ((List.range n).foldl g c):=by rw[hx];exact WV n st g out c Inv h0 step fin hR
theorem Oa{α γ:Type} [Inhabited α]{l:List α}{g:γ->α->γ}{c:γ}{Inv:Nat->γ->Prop}(h0:Inv 0 c)(step:∀(i:Nat) c,(i:Int)<(l.length:Int)->Inv i c->Inv (i+1) (g c (gt l i))):Inv l.length (l.foldl g c):=by
 have:∀(d i:Nat) (c:γ),i+d=l.length->Inv i c->Inv l.length ((l.drop i).foldl g c):=by
  intro d
  induction d with
  |zero=>intro i c hi hc;rw[Nat.add_zero]at hi;subst hi;rw[List.drop_length];exact hc
  |succ d ih=>
   intro i c hi hc
   have bH:i<l.length:=by omega
   rw[List.drop_eq_getElem_cons bH,List.foldl_cons]
   have:=step i c (by omega) hc
   rw[gC bH]at this
   exact ih (i+1) _ (by omega) this
 have h:=this l.length 0 c (by omega) h0
 simpa using h
theorem et{n:Nat}(h:n<=1048576):n<rounds:=by unfold rounds;omega
theorem AJ{α:Type}(p:α->Bool)(l:List α)(acc:List α):l.foldl (λc a=>if p a=true then c++[a]else c) acc=acc++l.filter p:=by
 induction l generalizing acc with
 |nil=>simp
 |cons a l ih=>
  rw[List.foldl_cons,ih]
  cases h:p a<;>simp[h,List.filter_cons]
def ps0:=(af (af (af (af (@oe T (List T)) (af trivial @Df)) (af @TL (af @TM @TN))) (af (af trivial (af @TO @TP)) (af @TQ (af @TR trivial)))) (af (af (af trivial (af trivial trivial)) (af trivial (af trivial trivial))) (af (af trivial (af @KB @KC)) (af @KD (af @KF @KG)))))
def ps1:=(af (af (af (af @KH (af @KJ trivial)) (af trivial (af trivial trivial))) (af (af trivial (af trivial trivial)) (af trivial (af trivial Dj)))) (af (af (af (λ(p:Prop) (_:Decidable p)=>@decide_eq_true_eq p _) (af bB Bool.or_eq_true)) (af WI (af WJ WK))) (af (af WG (af WH @wj)) (af Wt (af @Sv @CY)))))
def ps2:=(af (af (af (af @Sz (af @SA @SB)) (af @J4 (af @SC @CZ))) (af (af @SD (af @C0 Wu)) (af Wv (af Ww SG)))) (af (af (af SH (af SI @Sw)) (af Sx (af Sy @Fq))) (af (af @tM (af SS Wx)) (af Wy (af @Wz Li)))))
def ps3:=(af (af (af (af WS (af Lj WL)) (af WM (af WN WO))) (af (af WQ (af WR SE)) (af SF (af WC WD)))) (af (af (af @WE (af (λ(k:Nat)=>@Int.toNat_natCast k) (λ(α:Type) (f:α->List T) (l:List α)=>@List.length_map α (List T) l f))) (af Us (af UH trivial))) (af (af UU (af Vf Vs)) (af VL (af trivial V2)))))
def ps4:=(af (af (af (af trivial (af trivial Wc)) (af Wr (af trivial @TU))) (af (af @TV (af @TW @TX)) (af @KQ (af @KR @TY)))) (af (af (af @TZ (af @KS @KT)) (af @T0 (af @T1 @T2))) (af (af @T3 (af @T4 @T5)) (af @T6 (af @T7 @KU)))))
def ps5:=(af (af (af (af @kg_ (af @T8 @T9)) (af @KV (af @KW @T_))) (af (af @T' (af @Ua @Ub)) (af @Uc (af @Ud @Ue)))) (af (af (af @Uf (af @Ug @Uh)) (af @Ui (af @Uj @Uk))) (af (af @Ul (af @KX @kx_)) (af @Um (af @Un @KY)))))
def ps6:=(af (af (af (af @KZ (af @Uo @Up)) (af @Uq (af @Ur @Ut))) (af (af @Uu (af @Uv @Uw)) (af @Ux (af @Uy @Uz)))) (af (af (af @UA (af @UB @UC)) (af @kf_ (af @jU_ @UD))) (af (af @UE (af @K1 @kb_)) (af @UF (af @UG trivial)))))
def ps7:=(af (af (af (af trivial (af trivial trivial)) (af trivial (af trivial trivial))) (af (af trivial (af trivial trivial)) (af trivial (af trivial trivial)))) (af (af (af trivial (af @UI @UJ)) (af @UK (af @UL @UM))) (af (af @UN (af @K3 @kC_)) (af @UO (af @UP @K4)))))
def ps8:=(af (af (af (af @K5 (af @UQ @UR)) (af @US (af @UT @UW))) (af (af @UX (af @UY @UZ)) (af @U0 (af @U1 @U2)))) (af (af (af @U3 (af @U4 @U5)) (af @U6 (af @U7 @U8))) (af (af @U9 (af @U_ @U')) (af @Va (af @Vb @K6)))))
def ps9:=(af (af (af (af @K7 (af @Vc @Vd)) (af @K8 (af @Ve @Vg))) (af (af @Vh (af @Vi @Vj)) (af @Vk (af @Vl @Vm)))) (af (af (af @Vn (af @K9 @K_)) (af @Vo (af @Vp @Vq))) (af (af @Vr (af @Vt @Vu)) (af @Vv (af @Vw @Vx)))))
def WW:=(af (af (af (af @Vy (af @Vz @VA)) (af @VB (af @VC @VD))) (af (af @VE (af @VF @VG)) (af @kt_ (af @jK_ @VH)))) (af (af (af @VI (af @VJ @VK)) (af trivial (af trivial trivial))) (af (af trivial (af trivial trivial)) (af trivial (af trivial trivial)))))
def WX:=(af (af (af (af trivial (af trivial trivial)) (af trivial (af trivial trivial))) (af (af trivial (af trivial trivial)) (af trivial (af trivial trivial)))) (af (af (af trivial (af @VM @VN)) (af @VO (af @VP @VQ))) (af (af @VR (af @VS @VT)) (af @VU (af @VV @La)))))
def WY:=(af (af (af (af @Lc (af @VW @VX)) (af @Ld (af @Le @VY))) (af (af @VZ (af @V0 @V1)) (af trivial (af trivial trivial)))) (af (af (af trivial (af trivial trivial)) (af trivial (af trivial trivial))) (af (af trivial (af trivial trivial)) (af trivial (af trivial trivial)))))
def WZ:=(af (af (af (af trivial (af trivial trivial)) (af trivial (af trivial trivial))) (af (af trivial (af trivial trivial)) (af trivial (af trivial trivial)))) (af (af (af trivial (af trivial trivial)) (af trivial (af trivial trivial))) (af (af trivial (af trivial trivial)) (af trivial (af trivial trivial)))))
def W3:=(af (af (af (af trivial (af trivial trivial)) (af trivial (af trivial @V3))) (af (af @V4 (af @V5 @V6)) (af @V7 (af @Dh @V8)))) (af (af (af @V9 (af @Lg @kd_)) (af @V_ (af @V' @Wa))) (af (af @Wb (af @Wd @We)) (af @Wf (af @Wg @Wh)))))
def W4:=(af (af (af (af @Wi (af @Wj @Wl)) (af @Wm (af @Wn @Lh))) (af (af @kh_ (af @Wo @Wp)) (af @Di (af @Wq trivial)))) (af (af (af trivial (af trivial trivial)) (af trivial (af trivial trivial))) (af (af trivial (af trivial trivial)) (af trivial (af trivial trivial)))))
def W5:=(af (af (af trivial (af trivial trivial)) (af (af trivial trivial) (af trivial trivial))) (af (af (af trivial trivial) (af trivial trivial)) (af (af trivial trivial) (af trivial trivial))))
def pq:=(af (af (af (af (af KA Dj) (af Ti (af Tj Tk))) (af (af Tl (af Tm Tn)) (af To (af Tp Tq)))) (af (af (af Ts Tt) (af Tu (af Tv Tw))) (af (af Tx (af Tz TA)) (af TB (af TC TD))))) (af (af (af (af TE TF) (af TG (af TH TJ))) (af (af TK (af trivial @KB)) (af @KC (af @KD @KF)))) (af (af (af @KG (af @KH @KJ)) (af trivial (af trivial trivial))) (af (af trivial (af trivial trivial)) (af trivial (af trivial trivial))))))
def pj:=af TS trivial
def ps:=(af (af (af (af ps0 ps1) (af ps2 ps3)) (af (af ps4 ps5) (af ps6 ps7))) (af (af (af ps8 ps9) (af WW WX)) (af (af WY WZ) (af W3 (af W4 W5)))))
end Go.Proofs.YtbhplkilhknciaaC

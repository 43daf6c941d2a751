/- The walk by reflection: a part of its laws, for any function. Conditions: none. -/
import Derived.Test.YtjimmglpkndemaaGreatKd
import Derived.ChangeSame
import Derived.JoinedOf
import Derived.JoinedAt
import Derived.RowKit3
import Derived.Carry
namespace Go.Proofs.YtjimmglpkndemaaGreatC
set_option linter.unusedVariables false
open Go.ChangeShapes Go.WideShapes Go.ChangeAt Go.RowKit
section
variable {P:Program}
def Al(P:Program)(r:TypeId->Option (List Ty)):Nat->List Field->Option (List Ty)
 |_,[]=>some []
 |o,f::fs=>bif Nat.beq f.offset o then(r f.type).bind λa=>bif Nat.beq (P.cellsOf f.type) a.length then(Al P r (o+a.length) fs).bind λb=>some (a++b)else none else none
def xr(P:Program):Nat->TypeId->Option (List Ty)
 |0,_=>none
 |n+1,t=>
  match P.underlying t with
  |some (.int k)=>some [.i k]
  |some .bool=>some [.b]
  |some .string=>some [.s]
  |some (.slice e)=>(xr P n e).bind λfs=>bif fs.isEmpty then none else some [.sl fs]
  |some (.struct fs)=>(Al P (xr P n) 0 fs.toList).bind λts=>bif Nat.beq ts.length (P.cellsOf t)then some ts else none
  |_=>none
variable {H:Type} {enc:TypeId×Value->H} {w:World} {base:Nat} {spare:Nat->Bool} {held:Bool} {ω:Nat->Option Lb}
theorem ei.append{ω:Nat->Option Lb}:∀{ts lU:List T} {vs sX:List Value},ei ω w ts vs->ei ω w lU sX->ei ω w (ts++lU) (vs++sX)
 | [],lU,[],sX,_,h'=>h'
 |t::ts,lU,v::vs,sX,h,h'=>⟨h.1,ei.append h.2 h'⟩
 | [],_,_::_,_,h,_=>h.elim
 |_::_,_,[],_,h,_=>h.elim
theorem Sy{r:TypeId->Option (List Ty)}{cs:List Value}:∀{fl:List Field} {o:Nat} {ys:List Ty},Al P r o fl=some ys->
  (∀f∈fl,∀a,r f.type=some a->∃ts,ei ω w ts ((cs.drop f.offset).take (P.cellsOf f.type))∧dG a ts)->∃ts,ei ω w ts ((cs.drop o).take ys.length)∧dG ys ts
 | [],o,ys,h,_=>by
  simp only[Al,bc]at h
  subst h
  exact⟨[],by simp[ei],rfl⟩
 |f::fl,o,ys,h,hr=>by
  unfold Al at h
  cases h1:Nat.beq f.offset o with
  |false=>simp[h1]at h
  |true=>
   simp only[h1,cond_true,cm]at h
   obtain⟨a,ha,h⟩:=h
   cases h2:Nat.beq (P.cellsOf f.type) a.length with
   |false=>simp[h2]at h
   |true=>
    simp only[h2,cond_true,cm,bc]at h
    obtain⟨b,hb,rfl⟩:=h
    have e1:=du h1
    have e2:=du h2
    obtain⟨t1,g1,g2⟩:=hr f (.head _) a ha
    obtain⟨t2,g3,g4⟩:=Sy hb λf hf=>hr f (.tail _ hf)
    refine⟨t1++t2,?_,g2.append g4⟩
    rw[e1,e2]at g1
    rw[List.length_append,List.take_add,List.drop_drop]
    exact g1.append g3
theorem afe:∀(n m:Nat) {t:TypeId} {cs:List Value} {x:DataW H×List MemPlace} {fs:List Ty},DataW.trod enc P w 0 spare held n t cs=some x->xr P m t=some fs->
  (∀b,ω b=none)->∃ts,ei ω w ts cs∧dG fs ts:=by
 intro n
 induction n with
 |zero=>intro m t cs x fs h;simp[DataW.trod]at h
 |succ n ih=>
  intro m t cs x fs h ht gj
  cases m with
  |zero=>cases ht
  |succ m=>
   unfold xr at ht
   cases hu:P.underlying t with
   |none=>rw[hu]at ht;cases ht
   |some u=>
    rw[hu]at ht
    cases u with
    |int k=>
     simp only[bc]at ht
     subst ht
     obtain⟨a,e0,e1,wa⟩:=DataW.trod_int hu h
     subst e0 e1
     exact⟨[.c (.int k a)],⟨.c rfl,trivial⟩,_,_,rfl,⟨_,rfl,wa⟩,rfl⟩
    |bool=>
     simp only[bc]at ht
     subst ht
     obtain⟨b,rfl,_⟩:=DataW.trod_bool hu h
     exact⟨[.c (.bool b)],⟨.c rfl,trivial⟩,_,_,rfl,⟨_,rfl⟩,rfl⟩
    |string=>
     simp only[bc]at ht
     subst ht
     obtain⟨s,rfl,_,hs⟩:=DataW.trod_string hu h
     exact⟨[.c (.string s)],⟨.c rfl,trivial⟩,_,_,rfl,⟨_,rfl,hs⟩,rfl⟩
    |slice e=>
     simp only[cm]at ht
     obtain⟨gs,hg,ht⟩:=ht
     cases hz:gs.isEmpty with
     |true=>simp[hz]at ht
     |false=>
      simp only[hz,cond_false,bc]at ht
      subst ht
      rcases DataW.trod_slice hu h with⟨rfl,_⟩|⟨a,len,cap,elems,rest,n',e1,rfl,_,_,hlc,hcm,C8,bq,_⟩
      ·exact⟨[.l []],⟨.nil,trivial⟩,_,_,rfl,⟨[],rfl,Nat.zero_le _,by simp⟩,rfl⟩
      ·cases e1
       have each:∀i,i<len->∃vs ts,w.cells? 0 (a.add (i*P.cellsOf e)) (P.cellsOf e)=some vs∧ei ω w ts vs∧dG gs ts:=by
        intro i hi
        have h1:=bq i hi
        rw[<-C8]at hi
        rw[List.getElem?_eq_getElem hi,cm]at h1
        obtain⟨vs,g1,g2⟩:=h1
        obtain⟨ts,g3,g4⟩:=ih m g2 hg gj
        exact⟨vs,ts,g1,g3,g4⟩
       by_cases h0:len=0
       ·subst h0
        exact⟨[.l []],⟨.nil,trivial⟩,_,_,rfl,⟨[],rfl,Nat.zero_le _,by simp⟩,rfl⟩
       ·have hc:=λi=>λhi:i<len=>Classical.choose_spec (each i hi)
        let vf:Nat->List Value:=λi=>if hi:i<len then Classical.choose (each i hi)else []
        have hv:∀i,i<len->∃ts,w.cells? 0 (a.add (i*P.cellsOf e)) (P.cellsOf e)=some (vf i)∧ei ω w ts (vf i)∧dG gs ts:=by
         intro i hi
         have:vf i=Classical.choose (each i hi):=by simp[vf,hi]
         rw[this]
         exact hc i hi
        have ht:∃tf:Nat->List T,∀i,i<len->w.cells? 0 (a.add (i*P.cellsOf e)) (P.cellsOf e)=some (vf i)∧ei ω w (tf i) (vf i)∧dG gs (tf i):=by
         refine⟨λi=>if hi:i<len then Classical.choose (hv i hi)else [],λi hi=>?_⟩
         have:=Classical.choose_spec (hv i hi)
         simpa[hi]using this
        obtain⟨tf,BU⟩:=ht
        have mz:∀i,i<len->(vf i).length=P.cellsOf e:=λi hi=>(World.cells?_some (BU i hi).1).2.1
        have hgl:∀i,i<len->(tf i).length=gs.length:=λi hi=>(BU i hi).2.2.length
        have hwp:0<P.cellsOf e:=by
         have h1:=mz 0 (by omega)
         have h2:=hgl 0 (by omega)
         have h3:=(BU 0 (by omega)).2.1.length
         cases gs with
         |nil=>simp at hz
         |cons _ _=>simp at h2;omega
        obtain⟨b,off,spot⟩:=a
        have oZ:∀i j,i<len->j<P.cellsOf e->w.cell? ((⟨b,off,spot⟩:Addr).add (i*P.cellsOf e) |>.add j)=(vf i)[j]?:=λi j hi hj=>(World.cells?_some (BU i hi).1).2.2 j hj
        have Sz:spot=none:=by
         have:=oZ 0 0 (by omega) hwp
         simp only[Nat.zero_mul,Addr.add,if_true]at this
         have hl:0<(vf 0).length:=by rw[mz 0 (by omega)];exact hwp
         rw[List.getElem?_eq_getElem hl]at this
         unfold World.cell? at this
         split at this
         ·split at this
          ·cases this
          ·rename_i h;simpa using h
         ·cases this
        subst Sz
        have nx:∀i j,((⟨b,off,none⟩:Addr).add (i*P.cellsOf e) |>.add j)=⟨b,off+(i*P.cellsOf e+j),none⟩:=by
         intro i j
         have e1:∀k,(⟨b,off,none⟩:Addr).add k=⟨b,off+k,none⟩:=by
          intro k
          unfold Addr.add
          split
          ·rename_i h;subst h;rfl
          ·rfl
         have e2:∀o k,(⟨b,o,none⟩:Addr).add k=⟨b,o+k,none⟩:=by
          intro o k
          unfold Addr.add
          split
          ·rename_i h;subst h;rfl
          ·rfl
         rw[e1,e2,Nat.add_assoc]
        have a_:b<w.heap.size:=by
         have:=World.cells?_block (BU 0 (by omega)).1 hwp
         rw[Nat.zero_mul]at this
         exact this
        have kW:∀i j t,dr ((List.range len).map tf) i j=some t->i<len∧(tf i)[j]?=some t:=by
         intro i j t h
         unfold dr at h
         rw[cm]at h
         obtain⟨r,h1,h2⟩:=h
         rw[List.getElem?_map,Option.map_eq_some_iff]at h1
         obtain⟨i',h3,rfl⟩:=h1
         have hi:i<len:=by
          rcases Nat.lt_or_ge i len with h|h
          ·exact h
          ·rw[List.getElem?_eq_none (by simpa using h)]at h3;cases h3
         rw[List.getElem?_range hi]at h3
         cases h3
         exact⟨hi,h2⟩
        refine⟨[.l ((List.range len).map tf)],⟨?_,trivial⟩,_,_,rfl,⟨_,rfl,by simp;omega,?_⟩,rfl⟩
        ·have:=eB.l (ω:=ω) (w:=w) (xs:=(List.range len).map tf) (b:=b) (off:=off) (wd:=P.cellsOf e) (cap:=cap) (cv:=λi j=>((vf i)[j]?).getD default)
          (by
           intro r hr
           rw[List.mem_map]at hr
           obtain⟨i,hi,rfl⟩:=hr
           have hi:=List.mem_range.1 hi
           rw[(BU i hi).2.1.length,mz i hi])
          (by simpa using hlc) (gj b) a_
          (by
           intro i j t h
           obtain⟨hi,hj⟩:=kW i j t h
           have pM:j<(vf i).length:=by rw[<-(BU i hi).2.1.length];exact(List.getElem?_eq_some_iff.1 hj).1
           have:=oZ i j hi (by rw[<-mz i hi];exact pM)
           rw[nx]at this
           rw[this,List.getElem?_eq_getElem pM]
           rfl)
          (by
           intro i j t h
           obtain⟨hi,hj⟩:=kW i j t h
           have pM:j<(vf i).length:=by rw[<-(BU i hi).2.1.length];exact(List.getElem?_eq_some_iff.1 hj).1
           refine(BU i hi).2.1.get j t _ hj ?_
           rw[List.getElem?_eq_getElem pM]
           rfl)
         simpa using this
        ·intro r hr
         rw[List.mem_map]at hr
         obtain⟨i,hi,rfl⟩:=hr
         exact(BU i (List.mem_range.1 hi)).2.2
    |struct fl=>
     simp only[cm]at ht
     obtain⟨ys,hy,ht⟩:=ht
     cases hz:Nat.beq ys.length (P.cellsOf t)with
     |false=>simp[hz]at ht
     |true=>
      simp only[hz,cond_true,bc]at ht
      subst ht
      obtain⟨xs,n',e1,_,hl,zK,bq⟩:=DataW.trod_struct hu h
      cases e1
      obtain⟨ts,h1,h2⟩:=Sy (ω:=ω) (w:=w) (cs:=cs) hy λf hf a ha=>by
       obtain⟨i,hi,hfi⟩:=List.getElem_of_mem hf
       have h1:=bq i f (by rw[<-hfi,<-Array.getElem?_toList];exact List.getElem?_eq_getElem hi)
       have dM:i<xs.length:=by rw[zK];simpa using hi
       rw[List.getElem?_eq_getElem dM]at h1
       exact ih m h1 ha gj
      refine⟨ts,?_,h2⟩
      rw[List.drop_zero,du hz,<-hl,List.take_length]at h1
      exact h1
    |_=>cases ht
def Jl(P:Program)(t:TypeId):Bool:=
 match P.underlying t with
 |some (.struct _)=>true
 |_=>false
def D6(P:Program):List TypeId->List PS->Option (List Ty)
 | [],[]=>some []
 |t::ts,.v ag n::ps=>(xr P 16 t).bind λfs=>bif Nat.beq fs.length n&&(Jl P t==ag)then(D6 P ts ps).bind λgs=>some (fs++gs)else none
 |_,_=>none
theorem SA{bl:Nat->Option Nat}(gj:∀b,ω b=none){r:Reach}{b0:Nat}:∀{ts:List TypeId} {vs:List Value} {ds:List (DataW H)} {pl:List MemPlace} {ps:List PS} {ys:List Ty} {i:Nat},DataW.TrodAll enc P w 0 spare held ts vs ds pl->
  (∀(j:Nat) t v,ts[j]?=some t->vs[j]?=some v->Value.okWide P w r b0 t v)->D6 P ts ps=some ys->∃us,xb ω w bl i ps vs us∧dG ys us
 | [],[],[],pl,ps,ys,i,h,hv,hp=>by
  cases ps with
  |nil=>simp only[D6,bc]at hp;subst hp;exact⟨[],⟨rfl,rfl⟩,rfl⟩
  |cons _ _=>simp[D6]at hp
 |t::ts,v::vs,d::ds,pl,ps,ys,i,⟨p,q,h1,h2,e⟩,hv,hp=>by
  cases ps with
  |nil=>simp[D6]at hp
  |cons p0 ps=>
   cases p0 with
   |x n=>simp[D6]at hp
   |v ag n=>
    simp only[D6,cm]at hp
    obtain⟨fs,tQ,hp⟩:=hp
    cases hc:(Nat.beq fs.length n&&(Jl P t==ag))with
    |false=>simp[hc]at hp
    |true=>
     simp only[hc,cond_true,cm,bc]at hp
     obtain⟨gs,hgs,rfl⟩:=hp
     simp only[bA,beq_iff_eq]at hc
     obtain⟨us,g1,g2⟩:=SA (bl:=bl) (i:=i+1) gj h2 (λj t v hj pM=>hv (j+1) t v hj pM) hgs
     obtain⟨f,h1⟩:=h1
     obtain⟨t1,g3,g4⟩:=afe f 16 h1 tQ gj
     have dQ:=hv 0 t v rfl rfl
     refine⟨t1++us,⟨v,vs,v.cells.toList,t1,us,rfl,rfl,by rw[g4.length];exact du hc.1,?_,g3,g1⟩,g4.append g2⟩
     have hs:=hc.2
     unfold Jl at hs
     unfold xr at tQ
     cases hu:P.underlying t with
     |none=>rw[hu]at tQ;cases tQ
     |some u=>
      rw[hu]at tQ hs
      cases u with
      |int k=>obtain⟨a,rfl⟩:=okWide_int hu dQ;subst hs;exact⟨rfl,λx h=>by cases h⟩
      |bool=>obtain⟨a,rfl⟩:=okWide_bool hu dQ;subst hs;exact⟨rfl,λx h=>by cases h⟩
      |string=>obtain⟨a,rfl⟩:=okWide_string hu dQ;subst hs;exact⟨rfl,λx h=>by cases h⟩
      |slice e=>obtain⟨a,l,c,rfl⟩:=okWide_slice hu dQ;subst hs;exact⟨rfl,λx h=>by cases h⟩
      |struct fl=>
       obtain⟨cs,rfl,_⟩:=okWide_struct hu dQ
       subst hs
       simp[Value.cells]
      |_=>cases tQ
 | [],_::_,_,_,_,_,_,h,_,_=>by simp[DataW.TrodAll]at h
 | [],[],_::_,_,_,_,_,h,_,_=>by simp[DataW.TrodAll]at h
 |_::_,[],_,_,_,_,_,h,_,_=>by simp[DataW.TrodAll]at h
 |_::_,_::_,[],_,_,_,_,h,_,_=>by simp[DataW.TrodAll]at h
theorem SB(hl:laidOutB P=true){W W':World}{sp':Nat->Bool}:∀{ts:List TypeId} {vs:List Value} {ds:List (DataW H)} {ps:List MemPlace},(∀t∈ts,P.readableRec t=true∧t<P.types.size)->
  DataW.TrodAll enc P W base (λ_=>true) true ts vs ds ps->(∀p∈ps,W.sameAt W' p)->(∀p∈ps,sp' p.block=true)->DataW.TrodAll enc P W' base sp' true ts vs ds ps
 | [],[],[],_,_,h,_,_=>h
 |t::ts,_::_,_::_,_,hT,⟨p,q,h1,h2,e⟩,hs,hb=>⟨p,q,WideElems.Trod_stays hl (hT t (.head _)).1 (hT t (.head _)).2 h1 (λx hx=>hs x (by rw[e];exact List.mem_append_left _ hx)) (λx hx=>hb x (by rw[e];exact List.mem_append_left _ hx)),
   SB hl (λt ht=>hT t (.tail _ ht)) h2 (λx hx=>hs x (by rw[e];exact List.mem_append_right _ hx)) (λx hx=>hb x (by rw[e];exact List.mem_append_right _ hx)),e⟩
 | [],_::_,_,_,_,h,_,_=>by simp[DataW.TrodAll]at h
 | [],[],_::_,_,_,h,_,_=>by simp[DataW.TrodAll]at h
 |_::_,[],_,_,_,h,_,_=>by simp[DataW.TrodAll]at h
 |_::_,_::_,[],_,_,h,_,_=>by simp[DataW.TrodAll]at h
end
theorem afi{H:Type}{enc:TypeId×Value->H}{C:Checked}{f:FuncId}{fn:Func}{s:ChangeSpec}{apart fresh handsOn again:Bool}{sg:mV}{F:af}{ys:List Ty}{rt:TypeId}
  (tg:s.vars=[])(n7:∀ds:List (DataW H),ds.length=fn.params.size->s.fn H ds={results:=[.lit (.bool true)],args:=ds})
  (hl:laidOutB C.prog=true)(pd:(fn.params.toList.all λt=>C.prog.readableRec t&&Nat.blt t C.prog.types.size)=true)
  (hrt:fn.resultTypes=#[rt])(vT:C.prog.underlying rt=some .bool)(Iw:sg.rs=[(false,[.s])])
  (dQ:Jj C.prog sg f F)(yc:D6 C.prog fn.params.toList sg.ps=some ys)(hF:∀ts,dG ys ts->F ts=some [.c (.bool true)])
  (W:World)(b0:Nat)(args:Array Value)(ds gs:List (DataW H))(before:List MemPlace)
  (gM:∀(j:Nat) t v,fn.params[j]?=some t->args[j]?=some v->Value.okWide C.prog W .any b0 t v)
  (hW:DataW.Whole enc C.prog fn.params.toList s.vars apart W args.toList ds gs before)(SC:CQ (λ_=>none) W):
  Calls C.prog f args W λe W'=>∃v,e=.returned v∧s.post enc C.prog fn apart fresh handsOn again W args v W':=by
 have sa:=hW
 obtain⟨p,q,hA,hV,rfl,_,_⟩:=hW
 rw[tg]at hV
 obtain⟨rfl,rfl⟩:gs=[]∧q=[]:=by
  cases gs with
  |nil=>exact⟨rfl,hV⟩
  |cons _ _=>exact hV.elim
 have hlen:ds.length=fn.params.size:=by
  have:∀{ts:List TypeId} {vs:List Value} {ds:List (DataW H)} {ps:List MemPlace},DataW.TrodAll enc C.prog W 0 (λ_=>true) true ts vs ds ps->ds.length=ts.length:=by
   intro ts
   induction ts with
   |nil=>intro vs ds ps h;cases vs<;>cases ds<;>simp_all[DataW.TrodAll]
   |cons t ts ih=>
    intro vs ds ps h
    cases vs with
    |nil=>simp[DataW.TrodAll]at h
    |cons v vs=>
     cases ds with
     |nil=>simp[DataW.TrodAll]at h
     |cons d ds=>obtain⟨_,_,_,h2,_⟩:=h;simp[ih h2]
  rw[this hA];simp
 have hT:∀t∈fn.params.toList,C.prog.readableRec t=true∧t<C.prog.types.size:=by
  intro t ht
  have:=List.all_eq_true.1 pd t ht
  simp only[bA]at this
  exact⟨this.1,Nat.blt_eq▸this.2⟩
 obtain⟨us,jI,SD⟩:=SA (ω:=λ_=>none) (bl:=λ_=>none) (i:=0) (λ_=>rfl) hA (λj t v h1 h2=>gM j t v (by simpa using h1) (by simpa using h2)) yc
 have hc:=dQ.2 W (λ_=>none) (λ_=>none) args.toList us _ (hF us SD) ⟨λb l h=>by(cases h),λi b h=>by(cases h),SC⟩ jI
 rw[Array.toArray_toList]at hc
 refine hc.mono λe W' h=>?_
 obtain⟨v,G,is,o1,o2,rfl,hp⟩:=h
 refine⟨v,rfl,?_⟩
 have hold:∀x∈p++[],MemPlace.block x<W.heap.size:=sa.lt
 have sL:∀b,b<W.heap.size->W'.heap[b]?=W.heap[b]?:=λb hb=>(hp.free b hb rfl).2
 have sM:∀x∈p,W.sameAt W' x:=by
  intro x hx
  have hb:=hold x (by simpa using hx)
  cases x with
  |cell b o=>show W'.cell? _=W.cell? _;unfold World.cell?;rw[sL b hb]
  |map b=>exact sL b hb
 have hv:v=.bool true:=by
  have h1:=hp.ret
  rw[Iw]at h1
  obtain⟨t1,t2,i1,i2,e1,e2,h1,h2⟩:=h1
  obtain⟨h1,_⟩:=h1
  have h3:=hp.outs
  rw[e1]at h3
  cases t1 with
  |nil=>simp[bR]at h1
  |cons t t1=>
   cases i1 with
   |nil=>simp[bR]at h1
   |cons i i1=>
    simp only[List.cons_append,List.cons.injEq]at h3
    rw[<-h3.1]at h1
    obtain⟨_,hd,_⟩:=h1
    cases hd
    rfl
 subst hv
 have eC:=λsp kR=>SB (enc:=enc) (base:=0) (sp':=sp) hl hT hA sM kR
 have kR:=n7 ds hlen
 have Ic:∀(j:Nat) (t:TypeId) (r:Value),fn.resultTypes[j]?=some t->((Value.bool true).resultList fn.resultTypes.size)[j]?=some r->Value.okWide C.prog W' .any 0 t r:=by
  intro j t r hj hr
  rw[hrt]at hj hr
  have hj0:j=0:=by
   rcases Nat.eq_zero_or_pos j with h|h
   ·exact h
   ·have:(#[rt]:Array TypeId)[j]?=none:=by simp;omega
    rw[this]at hj;cases hj
  subst hj0
  cases hj;cases hr
  simp[Value.okWide,vT,Cell.okWide,Cell.ok]
 have SE:∀(b:Nat) (sp:Nat->Bool) (hd:Bool),DataW.TrodAll enc C.prog W' b sp hd fn.resultTypes.toList ((Value.bool true).resultList fn.resultTypes.size) (s.fn H (ds++[])).results []:=by
  intro b sp hd
  rw[List.append_nil,kR,hrt]
  exact⟨[],[],⟨1,by simp[DataW.trod,vT,Value.cells]⟩,rfl,rfl⟩
 have SF:∀sp:Nat->Bool,(∀x∈p,sp x.block=true)->DataW.TrodAll enc C.prog W' 0 sp true fn.params.toList args.toList (s.fn H (ds++[])).args p:=by
  intro sp hs
  rw[List.append_nil,kR]
  exact eC sp hs
 have afj:∀sp:Nat->Bool,DataW.TrodVars enc C.prog W' sp s.vars (s.fn H (ds++[])).vars []:=by
  intro sp
  rw[List.append_nil,kR,tg]
  rfl
 have hW2:=sa
 obtain⟨_,_,_,_,_,hz,hn⟩:=hW2
 refine⟨ds,[],p++[],[],p,[],sa,SE _ _ _,SF _ (λx hx=>decide_eq_true (hold x (by simpa using hx))),afj _,⟨hp.so.os,hp.so.output,λi hi=>?_⟩,λ_=>⟨Ic,_,[],p++[],⟨[]++p,[],trodAll_append (SF _ λ_ _=>rfl) (SE _ _ _),by rw[tg];rfl,rfl,?_,hn⟩,?_⟩⟩
 ·rw[sL i hi]
  cases W.heap[i]? with
  |none=>trivial
  |some o=>cases o<;>simp
 ·intro b off hm
  have h1:=hz b off hm
  have hb:=hold _ hm
  unfold World.frozen? at h1⊢
  rw[show W'.heap[(⟨b,off,none⟩:Addr).block]?=W.heap[(⟨b,off,none⟩:Addr).block]? from sL b hb]
  exact h1
 ·intro x hx _
  exact hx
theorem afk{H:Type}{enc:TypeId×Value->H}{C:Checked}{os:Os}{f:FuncId}{fn:Func}{s:ChangeSpec}{conds:List PathCond}{apart fresh handsOn again:Bool}{sg:mV}{F:af}{ys:List Ty}{rt:TypeId}
  (own:ownKnob C.prog.godebug=none)(started:os.Started)(Jm:C.prog.inits.idxOf? f=none)(QM:C.prog.funcs[f]?=some fn)
  (witness:∃(w:World) (tape:Tape) (i:Input),w.os=os∧(w.forCall tape i).Shaped C.prog∧i.vars=[]∧Input.okWide C.prog (w.forCall tape i) .any w.heap.size f i∧
   s.pre6 enc C.prog fn conds apart (w.forCall tape i).memory i.args∧({}:Assume).holds C.prog (lone (Frame.enter C.prog f i.args .normal) [] (w.forCall tape i)))
  (tg:s.vars=[])(n7:∀ds:List (DataW H),ds.length=fn.params.size->s.fn H ds={results:=[.lit (.bool true)],args:=ds})
  (hl:laidOutB C.prog=true)(pd:(fn.params.toList.all λt=>C.prog.readableRec t&&Nat.blt t C.prog.types.size)=true)
  (hrt:fn.resultTypes=#[rt])(vT:C.prog.underlying rt=some .bool)(Iw:sg.rs=[(false,[.s])])
  (dQ:Jj C.prog sg f F)(yc:D6 C.prog fn.params.toList sg.ps=some ys)(hF:∀ts,dG ys ts->F ts=some [.c (.bool true)])(hgl:OY=[]:=by rfl):
  ReturnsInHanded {} C os f .any (s.pre6 enc C.prog fn conds apart) (s.post enc C.prog fn apart fresh handsOn again):=by
 refine returnsInHanded_of_change own started Jm QM witness ?_
 intro W b0 args ds gs before gM hW _ _
 exact afi tg n7 hl pd hrt vT Iw dQ yc hF W b0 args ds gs before gM hW (λx hx=>by rw[hgl]at hx;cases hx)
def pv(p:Prim)(l:List T)(k:T->Option (List T)):Option (List T):=(Prim.ev p l).bind k
theorem SG(p:Prim)(l:List T)(k:T->Option (List T)):pv p l k=(Prim.ev p l).bind k:=rfl
def Yz(x:T)(k:T->Option (List T)):Option (List T):=(Prim.ev (.bM) [x]).bind k
theorem afl(x:T)(k:T->Option (List T)):Yz x k=(Prim.ev (.bM) [x]).bind k:=rfl
def Ya(x y:T)(k:T->Option (List T)):Option (List T):=(Prim.ev (.bin .add) [x,y]).bind k
theorem afm(x y:T)(k:T->Option (List T)):Ya x y k=(Prim.ev (.bin .add) [x,y]).bind k:=rfl
def Yb(x y:T)(k:T->Option (List T)):Option (List T):=(Prim.ev (.de) [x,y]).bind k
theorem afn(x y:T)(k:T->Option (List T)):Yb x y k=(Prim.ev (.de) [x,y]).bind k:=rfl
def Yl(x y:T)(k:T->Option (List T)):Option (List T):=(Prim.ev (.bin .lss) [x,y]).bind k
theorem afo(x y:T)(k:T->Option (List T)):Yl x y k=(Prim.ev (.bin .lss) [x,y]).bind k:=rfl
def Ye(x y:T)(k:T->Option (List T)):Option (List T):=(Prim.ev (.bin .eql) [x,y]).bind k
theorem afp(x y:T)(k:T->Option (List T)):Ye x y k=(Prim.ev (.bin .eql) [x,y]).bind k:=rfl
def Yn(x:T)(k:T->Option (List T)):Option (List T):=(Prim.ev (.len) [x]).bind k
theorem afq(x:T)(k:T->Option (List T)):Yn x k=(Prim.ev (.len) [x]).bind k:=rfl
def Yt(x:T)(k:T->Option (List T)):Option (List T):=(Prim.ev (.un .not) [x]).bind k
theorem afr(x:T)(k:T->Option (List T)):Yt x k=(Prim.ev (.un .not) [x]).bind k:=rfl
def Yp(x y:T)(k:T->Option (List T)):Option (List T):=(Prim.ev (.app true 1) [x,y]).bind k
theorem afs(x y:T)(k:T->Option (List T)):Yp x y k=(Prim.ev (.app true 1) [x,y]).bind k:=rfl
def Yo(x y:T)(k:T->Option (List T)):Option (List T):=(Prim.ev (.app false 3) [x,y]).bind k
theorem aft(x y:T)(k:T->Option (List T)):Yo x y k=(Prim.ev (.app false 3) [x,y]).bind k:=rfl
def Yu(x y:T)(k:T->Option (List T)):Option (List T):=(Prim.ev (.bin .neq) [x,y]).bind k
theorem afu(x y:T)(k:T->Option (List T)):Yu x y k=(Prim.ev (.bin .neq) [x,y]).bind k:=rfl
def Yg(x y:T)(k:T->Option (List T)):Option (List T):=(Prim.ev (.bin .gtr) [x,y]).bind k
theorem afv(x y:T)(k:T->Option (List T)):Yg x y k=(Prim.ev (.bin .gtr) [x,y]).bind k:=rfl
def Ym(x y:T)(k:T->Option (List T)):Option (List T):=(Prim.ev (.bin .leq) [x,y]).bind k
theorem afw(x y:T)(k:T->Option (List T)):Ym x y k=(Prim.ev (.bin .leq) [x,y]).bind k:=rfl
def Yh(x y:T)(k:T->Option (List T)):Option (List T):=(Prim.ev (.bin .geq) [x,y]).bind k
theorem afx(x y:T)(k:T->Option (List T)):Yh x y k=(Prim.ev (.bin .geq) [x,y]).bind k:=rfl
def Ys(x y:T)(k:T->Option (List T)):Option (List T):=(Prim.ev (.bin .sub) [x,y]).bind k
theorem afy(x y:T)(k:T->Option (List T)):Ys x y k=(Prim.ev (.bin .sub) [x,y]).bind k:=rfl
def Yv(x y:T)(k:T->Option (List T)):Option (List T):=(Prim.ev (.sub 1 true false) [x,y]).bind k
theorem afz(x y:T)(k:T->Option (List T)):Yv x y k=(Prim.ev (.sub 1 true false) [x,y]).bind k:=rfl
def Yw(x y:T)(k:T->Option (List T)):Option (List T):=(Prim.ev (.sub 1 false true) [x,y]).bind k
theorem afA(x y:T)(k:T->Option (List T)):Yw x y k=(Prim.ev (.sub 1 false true) [x,y]).bind k:=rfl
def Yx(x:T)(k:T->Option (List T)):Option (List T):=(Prim.ev (.lit 1 [true]) [x]).bind k
theorem afB(x:T)(k:T->Option (List T)):Yx x k=(Prim.ev (.lit 1 [true]) [x]).bind k:=rfl
def Yy(x y:T)(k:T->Option (List T)):Option (List T):=(Prim.ev (.app false 8) [x,y]).bind k
theorem afC(x y:T)(k:T->Option (List T)):Yy x y k=(Prim.ev (.app false 8) [x,y]).bind k:=rfl
def Yc(w j:Nat)(x y:T)(k:T->Option (List T)):Option (List T):=(Prim.ev (.cell w j) [x,y]).bind k
theorem afD(w j:Nat)(x y:T)(k:T->Option (List T)):Yc w j x y k=(Prim.ev (.cell w j) [x,y]).bind k:=rfl
def Yq(x y:T)(k:T->Option (List T)):Option (List T):=(Prim.ev .de [x,y]).bind λ_=>(Prim.ev (.bn 1 0) [x,y]).bind k
theorem afE(x y:T)(k:T->Option (List T)):Yq x y k=(Prim.ev .de [x,y]).bind λ_=>(Prim.ev (.bn 1 0) [x,y]).bind k:=rfl
def Y1(x y:T)(k:T->Option (List T)):Option (List T):=(Prim.ev .de [x,y]).bind λ_=>(Prim.ev (.cell 1 0) [x,y]).bind λa0=>k a0
theorem afF(x y:T)(k:T->Option (List T)):Y1 x y k=(Prim.ev .de [x,y]).bind λ_=>(Prim.ev (.cell 1 0) [x,y]).bind λa0=>k a0:=rfl
def Y2(x y:T)(k:T->T->Option (List T)):Option (List T):=(Prim.ev .de [x,y]).bind λ_=>(Prim.ev (.cell 2 0) [x,y]).bind λa0=>(Prim.ev (.cell 2 1) [x,y]).bind λa1=>k a0 a1
theorem afG(x y:T)(k:T->T->Option (List T)):Y2 x y k=(Prim.ev .de [x,y]).bind λ_=>(Prim.ev (.cell 2 0) [x,y]).bind λa0=>(Prim.ev (.cell 2 1) [x,y]).bind λa1=>k a0 a1:=rfl
def Y3(x y:T)(k:T->T->T->Option (List T)):Option (List T):=(Prim.ev .de [x,y]).bind λ_=>(Prim.ev (.cell 3 0) [x,y]).bind λa0=>(Prim.ev (.cell 3 1) [x,y]).bind λa1=>(Prim.ev (.cell 3 2) [x,y]).bind λa2=>k a0 a1 a2
theorem afH(x y:T)(k:T->T->T->Option (List T)):Y3 x y k=(Prim.ev .de [x,y]).bind λ_=>(Prim.ev (.cell 3 0) [x,y]).bind λa0=>(Prim.ev (.cell 3 1) [x,y]).bind λa1=>(Prim.ev (.cell 3 2) [x,y]).bind λa2=>k a0 a1 a2:=rfl
def Y4(x y:T)(k:T->T->T->T->Option (List T)):Option (List T):=(Prim.ev .de [x,y]).bind λ_=>(Prim.ev (.cell 4 0) [x,y]).bind λa0=>(Prim.ev (.cell 4 1) [x,y]).bind λa1=>(Prim.ev (.cell 4 2) [x,y]).bind λa2=>(Prim.ev (.cell 4 3) [x,y]).bind λa3=>k a0 a1 a2 a3
theorem afI(x y:T)(k:T->T->T->T->Option (List T)):Y4 x y k=(Prim.ev .de [x,y]).bind λ_=>(Prim.ev (.cell 4 0) [x,y]).bind λa0=>(Prim.ev (.cell 4 1) [x,y]).bind λa1=>(Prim.ev (.cell 4 2) [x,y]).bind λa2=>(Prim.ev (.cell 4 3) [x,y]).bind λa3=>k a0 a1 a2 a3:=rfl
def Y6(x y:T)(k:T->T->T->T->T->T->Option (List T)):Option (List T):=(Prim.ev .de [x,y]).bind λ_=>(Prim.ev (.cell 6 0) [x,y]).bind λa0=>(Prim.ev (.cell 6 1) [x,y]).bind λa1=>(Prim.ev (.cell 6 2) [x,y]).bind λa2=>(Prim.ev (.cell 6 3) [x,y]).bind λa3=>(Prim.ev (.cell 6 4) [x,y]).bind λa4=>(Prim.ev (.cell 6 5) [x,y]).bind λa5=>k a0 a1 a2 a3 a4 a5
theorem afJ(x y:T)(k:T->T->T->T->T->T->Option (List T)):Y6 x y k=(Prim.ev .de [x,y]).bind λ_=>(Prim.ev (.cell 6 0) [x,y]).bind λa0=>(Prim.ev (.cell 6 1) [x,y]).bind λa1=>(Prim.ev (.cell 6 2) [x,y]).bind λa2=>(Prim.ev (.cell 6 3) [x,y]).bind λa3=>(Prim.ev (.cell 6 4) [x,y]).bind λa4=>(Prim.ev (.cell 6 5) [x,y]).bind λa5=>k a0 a1 a2 a3 a4 a5:=rfl
def Y8(x y:T)(k:T->T->T->T->T->T->T->T->Option (List T)):Option (List T):=(Prim.ev .de [x,y]).bind λ_=>(Prim.ev (.cell 8 0) [x,y]).bind λa0=>(Prim.ev (.cell 8 1) [x,y]).bind λa1=>(Prim.ev (.cell 8 2) [x,y]).bind λa2=>(Prim.ev (.cell 8 3) [x,y]).bind λa3=>(Prim.ev (.cell 8 4) [x,y]).bind λa4=>(Prim.ev (.cell 8 5) [x,y]).bind λa5=>(Prim.ev (.cell 8 6) [x,y]).bind λa6=>(Prim.ev (.cell 8 7) [x,y]).bind λa7=>k a0 a1 a2 a3 a4 a5 a6 a7
theorem afK(x y:T)(k:T->T->T->T->T->T->T->T->Option (List T)):Y8 x y k=(Prim.ev .de [x,y]).bind λ_=>(Prim.ev (.cell 8 0) [x,y]).bind λa0=>(Prim.ev (.cell 8 1) [x,y]).bind λa1=>(Prim.ev (.cell 8 2) [x,y]).bind λa2=>(Prim.ev (.cell 8 3) [x,y]).bind λa3=>(Prim.ev (.cell 8 4) [x,y]).bind λa4=>(Prim.ev (.cell 8 5) [x,y]).bind λa5=>(Prim.ev (.cell 8 6) [x,y]).bind λa6=>(Prim.ev (.cell 8 7) [x,y]).bind λa7=>k a0 a1 a2 a3 a4 a5 a6 a7:=rfl
def jn(k:af)(b:af->Option (List T)):Option (List T):=b k
def bp(o:Option (List T))(k:T->Option (List T)):Option (List T):=o.bind λts=>k (ts.getD 0 T.cC)
theorem SH(x0:T)(k:T->Option (List T)):bp (some [x0]) k=k x0:=rfl
def ft(k:T->Option (List T)):af:=λts=>k (ts.getD 0 T.cC)
theorem SI(x0:T)(k:T->Option (List T)):ft k [x0]=k x0:=rfl
def ew(k:T->T->Option (List T)):af:=λts=>k (ts.getD 0 T.cC) (ts.getD 1 T.cC)
theorem SJ(x0 x1:T)(k:T->T->Option (List T)):ew k [x0,x1]=k x0 x1:=rfl
def lK(o:Option (List T))(k:T->T->T->Option (List T)):Option (List T):=o.bind λts=>k (ts.getD 0 T.cC) (ts.getD 1 T.cC) (ts.getD 2 T.cC)
theorem afL(x0 x1 x2:T)(k:T->T->T->Option (List T)):lK (some [x0,x1,x2]) k=k x0 x1 x2:=rfl
def ve(k:T->T->T->Option (List T)):af:=λts=>k (ts.getD 0 T.cC) (ts.getD 1 T.cC) (ts.getD 2 T.cC)
theorem SK(x0 x1 x2:T)(k:T->T->T->Option (List T)):ve k [x0,x1,x2]=k x0 x1 x2:=rfl
def tl(o:Option (List T))(k:T->T->T->T->Option (List T)):Option (List T):=o.bind λts=>k (ts.getD 0 T.cC) (ts.getD 1 T.cC) (ts.getD 2 T.cC) (ts.getD 3 T.cC)
theorem afM(x0 x1 x2 x3:T)(k:T->T->T->T->Option (List T)):tl (some [x0,x1,x2,x3]) k=k x0 x1 x2 x3:=rfl
def Jn(k:T->T->T->T->Option (List T)):af:=λts=>k (ts.getD 0 T.cC) (ts.getD 1 T.cC) (ts.getD 2 T.cC) (ts.getD 3 T.cC)
theorem SL(x0 x1 x2 x3:T)(k:T->T->T->T->Option (List T)):Jn k [x0,x1,x2,x3]=k x0 x1 x2 x3:=rfl
def Gy(k:T->T->T->T->T->Option (List T)):af:=λts=>k (ts.getD 0 T.cC) (ts.getD 1 T.cC) (ts.getD 2 T.cC) (ts.getD 3 T.cC) (ts.getD 4 T.cC)
theorem SM(x0 x1 x2 x3 x4:T)(k:T->T->T->T->T->Option (List T)):Gy k [x0,x1,x2,x3,x4]=k x0 x1 x2 x3 x4:=rfl
def D7(o:Option (List T))(k:T->T->T->T->T->T->T->Option (List T)):Option (List T):=o.bind λts=>k (ts.getD 0 T.cC) (ts.getD 1 T.cC) (ts.getD 2 T.cC) (ts.getD 3 T.cC) (ts.getD 4 T.cC) (ts.getD 5 T.cC) (ts.getD 6 T.cC)
theorem afN(x0 x1 x2 x3 x4 x5 x6:T)(k:T->T->T->T->T->T->T->Option (List T)):D7 (some [x0,x1,x2,x3,x4,x5,x6]) k=k x0 x1 x2 x3 x4 x5 x6:=rfl
def sb(o:Option (List T))(k:T->T->T->T->T->T->T->T->Option (List T)):Option (List T):=o.bind λts=>k (ts.getD 0 T.cC) (ts.getD 1 T.cC) (ts.getD 2 T.cC) (ts.getD 3 T.cC) (ts.getD 4 T.cC) (ts.getD 5 T.cC) (ts.getD 6 T.cC) (ts.getD 7 T.cC)
theorem afO(x0 x1 x2 x3 x4 x5 x6 x7:T)(k:T->T->T->T->T->T->T->T->Option (List T)):sb (some [x0,x1,x2,x3,x4,x5,x6,x7]) k=k x0 x1 x2 x3 x4 x5 x6 x7:=rfl
def D8(o:Option (List T))(k:T->T->T->T->T->T->T->T->T->Option (List T)):Option (List T):=o.bind λts=>k (ts.getD 0 T.cC) (ts.getD 1 T.cC) (ts.getD 2 T.cC) (ts.getD 3 T.cC) (ts.getD 4 T.cC) (ts.getD 5 T.cC) (ts.getD 6 T.cC) (ts.getD 7 T.cC) (ts.getD 8 T.cC)
theorem afP(x0 x1 x2 x3 x4 x5 x6 x7 x8:T)(k:T->T->T->T->T->T->T->T->T->Option (List T)):D8 (some [x0,x1,x2,x3,x4,x5,x6,x7,x8]) k=k x0 x1 x2 x3 x4 x5 x6 x7 x8:=rfl
theorem afQ(k:af)(b:af->Option (List T)):jn k b=b k:=rfl
def PL.arity(j:Nat):PL->Option Nat
 | .ret _=>none
 | .ins _ k=>k.arity j
 | .ite _ x y=>match x.arity j with|some n=>some n|none=>y.arity j
 | .loop _ b=>b.arity (j+1)
 | .join k b=>match k.arity j with|some n=>some n|none=>b.arity (j+1)
 | .go i xs=>bif Nat.beq i j then some xs.length else none
 | .qk _ _=>none
def PL.ku(S:Nat->af)(R:Nat)(K:List af)(ρ:List T):PL->Option (List T)
 | .ret xs=>some (xs.map (Lf.ev ρ))
 | .ins (.pr p xs) k=>(p.ev (xs.map (Lf.ev ρ))).bind λt=>k.ku S R K (ρ++[t])
 | .ins (.cl g xs m) k=>(S g (xs.map (Lf.ev ρ))).bind λts=>k.ku S R K (ρ++ia ts 0 m)
 | .ite c x y=>aA (ρ.getD c T.cC) (x.ku S R K ρ) (y.ku S R K ρ)
 | .loop xs body=>iter (λself ts=>body.ku S R (self::K) (ρ++ia ts 0 xs.length)) R (xs.map (Lf.ev ρ))
 | .join k body=>jn (λts=>k.ku S R K (ρ++ia ts 0 ((body.arity 0).getD 0))) λf=>body.ku S R (f::K) ρ
 | .go j xs=>match K[j]? with
  |some f=>f (xs.map (Lf.ev ρ))
  |none=>none
 | .qk _ _=>none
def PL.wf(ar:List Nat):PL->Bool
 | .ret _=>true
 | .ins _ k=>k.wf ar
 | .ite _ x y=>x.wf ar&&y.wf ar
 | .loop xs b=>b.wf (xs.length::ar)
 | .join k b=>k.wf ar&&b.wf ((b.arity 0).getD 0::ar)
 | .go j xs=>match ar[j]? with|some m=>Nat.beq m xs.length|none=>false
 | .qk _ _=>true
theorem SN:∀(ts us:List T),ia (us++ts) us.length ts.length=ts
 | [],us=>rfl
 |t::ts,us=>by
  have h:=SN ts (us++[t])
  rw[List.append_assoc,List.length_append]at h
  simp only[List.length_cons,ia]
  refine congr (congrArg _ ?_) h
  simp
theorem SO(ts:List T){m:Nat}(h:ts.length=m):ia ts 0 m=ts:=by
 subst h;exact SN ts []
theorem SP{F G:af->af}{m:Nat}(h:∀s s',(∀ts:List T,ts.length=m->s ts=s' ts)->∀ts:List T,ts.length=m->F s ts=G s' ts):∀R (ts:List T),ts.length=m->iter F R ts=iter G R ts
 |0,_,_=>rfl
 |R+1,ts,ht=>by
  unfold iter
  exact h _ _ (SP h R) ts ht
theorem Gz(S:Nat->af)(R:Nat):∀(p:PL) (ar:List Nat) (K K':List af) (ρ:List T),p.wf ar=true->
  (∀(j m:Nat),ar[j]?=some m->∃f f':af,K[j]?=some f∧K'[j]?=some f'∧∀ts:List T,ts.length=m->f ts=f' ts)->p.den S R K ρ=p.ku S R K' ρ
 | .ret xs,ar,K,K',ρ,_,_=>by simp only[PL.den,PL.ku]
 | .ins (.pr p xs) k,ar,K,K',ρ,hw,hk=>by
  simp only[PL.den,PL.ku]
  exact congrArg _ (funext λt=>Gz S R k ar K K' _ hw hk)
 | .ins (.cl g xs m) k,ar,K,K',ρ,hw,hk=>by
  simp only[PL.den,PL.ku]
  exact congrArg _ (funext λt=>Gz S R k ar K K' _ hw hk)
 | .ite c x y,ar,K,K',ρ,hw,hk=>by
  simp only[PL.wf,bA]at hw
  rw[p9]
  simp only[PL.ku]
  rw[Gz S R x ar K K' ρ hw.1 hk,Gz S R y ar K K' ρ hw.2 hk]
 | .loop xs b,ar,K,K',ρ,hw,hk=>by
  simp only[PL.den,PL.ku]
  refine SP (m:=xs.length) (λs s' hs ts ht=>?_) R _ (by simp)
  rw[SO ts ht]
  refine Gz S R b (xs.length::ar) _ _ _ hw λj m hj=>?_
  cases j with
  |zero=>cases hj;exact⟨s,s',rfl,rfl,hs⟩
  |succ j=>exact hk j m hj
 | .join k b,ar,K,K',ρ,hw,hk=>by
  simp only[PL.wf,bA]at hw
  simp only[PL.den,PL.ku,jn]
  refine Gz S R b ((b.arity 0).getD 0::ar) _ _ _ hw.2 λj m hj=>?_
  cases j with
  |zero=>
   cases hj
   refine⟨_,_,rfl,rfl,λts ht=>?_⟩
   show PL.den S R K (ρ++ts) k=PL.ku S R K' (ρ++ia ts 0 _) k
   rw[SO ts ht]
   exact Gz S R k ar K K' _ hw.1 hk
  |succ j=>exact hk j m hj
 | .go j xs,ar,K,K',ρ,hw,hk=>by
  simp only[PL.wf]at hw
  cases hm:ar[j]? with
  |none=>rw[hm]at hw;exact absurd hw (by simp)
  |some m=>
   rw[hm]at hw
   have oT:=du hw
   obtain⟨f,f',h1,h2,h3⟩:=hk j m hm
   simp only[PL.den,PL.ku,h1,h2]
   exact h3 _ (by simp[oT])
 | .qk _ _,ar,K,K',ρ,_,_=>by simp only[PL.den,PL.ku]
theorem dR{S:Nat->af}{R:Nat}{p:PL}{ρ:List T}(h:p.wf []=true):p.den S R [] ρ=p.ku S R [] ρ:=
 Gz S R p [] [] [] ρ h λj m hj=>by simp at hj
set_option linter.unusedSimpArgs false
abbrev ii(n:Int):T:=.c (.int .i64 n)
abbrev bb(b:Bool):T:=.c (.bool b)
def fE(n:Int):Prop:=(Lit.int .i64 n).wf=true
theorem fE.lo{n:Int}(h:fE n):-9223372036854775808<=n:=by
 simp[fE,Lit.wf,IntKind.min,IntKind.max,IntKind.signed,IntKind.bits]at h;omega
theorem fE.hi{n:Int}(h:fE n):n<9223372036854775808:=by
 simp[fE,Lit.wf,IntKind.min,IntKind.max,IntKind.signed,IntKind.bits]at h;omega
theorem fE.mk{n:Int}(h:-9223372036854775808<=n)(h':n<9223372036854775808):fE n:=by
 simp[fE,Lit.wf,IntKind.min,IntKind.max,IntKind.signed,IntKind.bits];omega
def gt{α:Type} [Inhabited α](l:List α)(n:Int):α:=l.getD n.toNat default
theorem cD{α:Type} [Inhabited α]{enc:α->List T}{l:List α}{n:Int}(h:0<=n)(h':n<l.length):(l.map enc)[n.toNat]?=some (enc (gt l n)):=by
 have hn:n.toNat<l.length:=by omega
 rw[List.getElem?_map,List.getElem?_eq_getElem hn]
 simp[gt,List.getD,List.getElem?_eq_getElem hn]
theorem Jo{α:Type} [Inhabited α]{l:List α}{i:Nat}{a:α}(h:l[i]?=some a):gt l (i:Int)=a:=by
 simp[gt,List.getD,h]
theorem eS{α:Type} [Inhabited α]{l:List α}{i:Nat}(h:i<l.length):gt l (i:Int)=l[i]:=Jo (List.getElem?_eq_getElem h)
theorem j_{α:Type} [Inhabited α]{l:List α}{n:Int}(h:0<=n)(h':n<l.length):gt l n∈l:=by
 have hn:n.toNat<l.length:=by omega
 simp[gt,List.getD,List.getElem?_eq_getElem hn]
theorem Am{xs:List (List T)}{n:Int}{r:List T}(h0:0<=n)(h:xs[n.toNat]?=some r):tM (.l xs) (ii n)=some r:=by
 simp[tM,T.rows,T.int,h0,h]
theorem Jp{α:Type} [Inhabited α]{enc:α->List T}{l:List α}{n:Int}(h:0<=n)(h':n<l.length):Prim.ev .de [.l (l.map enc),ii n]=some (bb true):=by
 simp[Prim.ev,Am h (cD (enc:=enc) h h')]
theorem fF{xs:List (List T)}{n:Int}{w j:Nat}{r:List T}{t:T}(h0:0<=n)(h:xs[n.toNat]?=some r)(hw:r.length=w)(hj:r[j]?=some t):Prim.ev (.cell w j) [.l xs,ii n]=some t:=by
 simp[Prim.ev,Am h0 h,hw,hj]
theorem ke{xs:List (List T)}{n:Int}{w j:Nat}{r:List T}{t:T}(h0:0<=n)(h:xs[n.toNat]?=some r)(hw:r.length=w)(hj:r[j]?=some t)(hs:eh t=true):Prim.ev (.bn w j) [.l xs,ii n]=some t:=by
 simp[Prim.ev,Am h0 h,hw,hj,hs]
theorem pe{xs ys:List (List T)}{n:Int}{w j:Nat}{r:List T}(h0:0<=n)(h:xs[n.toNat]?=some r)(hw:r.length=w)(hj:r[j]?=some (.l ys)):Prim.ev (.bD w j) [.l xs,ii n]=some (.l ys):=by
 simp[Prim.ev,Am h0 h,hw,hj,T.rows]
theorem SQ{α:Type}{enc:α->List T}{l:List α}:Prim.ev .len [.l (l.map enc)]=some (ii l.length):=by
 rw[s9,List.length_map]
theorem D9{α:Type}{enc:α->List T}{w:Nat}(hw:∀x,(enc x).length=w)(l:List α):okW w (l.map enc)=true:=by
 cases l with
 |nil=>rfl
 |cons x l=>simp[okW,hw]
theorem qa{α:Type}{enc:α->List T}{w:Nat}{sc:Bool}(hw:∀x,(enc x).length=w)(hs:sc=false∨∀x,(enc x).all eh=true){l m:List α}(h:l.length+m.length<rL):Prim.ev (.app sc w) [.l (l.map enc),.l (m.map enc)]=some (.l ((l++m).map enc)):=by
 rw[List.map_append]
 refine ae' (by simpa using h) ?_ (D9 hw l) (D9 hw m)
 rcases hs with rfl|hs
 ·rfl
 ·have:(m.map enc).all (·.all eh)=true:=by simp only[List.all_map,List.all_eq_true];exactλx _=>hs x
  rw[this];simp
theorem rh{α:Type}{enc:α->List T}{w:Nat}{sc:Bool}(hw:∀x,(enc x).length=w)(hs:sc=false∨∀x,(enc x).all eh=true){m:List α}(h:m.length<rL):Prim.ev (.app sc w) [.l [],.l (m.map enc)]=some (.l (m.map enc)):=
 qa (l:=[]) hw hs (by simpa using h)
theorem xt{α:Type}{enc:α->List T}{w:Nat}(hw:∀x,(enc x).length=w){l:List α}{a:Int}(h:0<=a)(h':a<=l.length):Prim.ev (.sub w true false) [.l (l.map enc),ii a]=some (.l ((l.drop a.toNat).map enc)):=by
 simp only[Prim.ev,D9 hw l,if_true,List.length_map,eK,h,h']
 rw[if_pos (by omega)]
 have:((l.map enc).take (l.length:Int).toNat).drop a.toNat=(l.drop a.toNat).map enc:=by
  rw[List.map_drop,Int.toNat_natCast,List.take_of_length_le (by simp)]
 rw[this]
theorem xu{α:Type}{enc:α->List T}{w:Nat}(hw:∀x,(enc x).length=w){l:List α}{a:Int}(h:0<=a)(h':a<=l.length):Prim.ev (.sub w false true) [.l (l.map enc),ii a]=some (.l ((l.take a.toNat).map enc)):=by
 simp only[Prim.ev,D9 hw l,if_true,List.length_map,eK,h,h',Int.le_refl,Int.toNat_zero,List.drop_zero,List.map_take]
theorem Jq{α:Type}{enc:α->List T}{ok:α->Prop}{ty:List Ty}(h:∀r,dG ty r->∃x,r=enc x∧ok x):∀{xs:List (List T)},(∀r∈xs,dG ty r)->∃l:List α,xs=l.map enc∧∀x∈l,ok x
 | [],_=>⟨[],rfl,by simp⟩
 |r::xs,hx=>by
  obtain⟨x,rfl,h1⟩:=h r (hx _ (.head _))
  obtain⟨l,rfl,h2⟩:=Jq h (xs:=xs) λr hr=>hx r (.tail _ hr)
  refine⟨x::l,rfl,?_⟩
  intro y hy
  rcases List.mem_cons.1 hy with rfl|hy
  ·exact h1
  ·exact h2 y hy
theorem n8{α:Type}{enc:α->List T}{ok:α->Prop}{ty:List Ty}(h:∀x,ok x->dG ty (enc x)){l:List α}(hl:∀x∈l,ok x):∀r∈l.map enc,dG ty r:=by
 intro r hr
 obtain⟨x,hx,rfl⟩:=List.mem_map.1 hr
 exact h x (hl x hx)
def bz{α:Type}(f:α->Nat):List α->Nat
 | []=>0
 |x::l=>1+(f x+bz f l)
theorem ny{α:Type}{enc:α->List T}{f:α->Nat}(h:∀x,kt (enc x)=f x)(l:List α):iP (l.map enc)=bz f l:=by
 induction l with
 |nil=>simp[iP,bz]
 |cons x l ih=>simp only[List.map_cons,iP,bz,h,ih]
theorem D_{α:Type}{f:α->Nat}(l:List α):l.length<=bz f l:=by
 induction l with
 |nil=>exact Nat.le_refl _
 |cons x l ih=>simp only[List.length_cons,bz];omega
theorem afR{α:Type}{f:α->Nat}{l:List α}{x:α}(h:x∈l):f x+1<=bz f l:=by
 induction l with
 |nil=>cases h
 |cons y l ih=>
  simp only[bz]
  rcases List.mem_cons.1 h with rfl|h
  ·omega
  ·have:=ih h;omega
def aG(n:Int):List T:=[ii n]
def oG:List Ty:=[.i .i64]
def Ea(n:Int):Prop:=fE n
theorem Eb(n:Int)(h:Ea n):dG oG (aG n):=lV ⟨_,_,rfl,⟨_,rfl,h⟩,rfl⟩
def vg(_:Int):Nat:=0
theorem Ec(n:Int):kt (aG n)=vg n:=by simp only[aG,fQ,gL,iA,vg]
def fu(b:Bool):List T:=[bb b]
def ri:List Ty:=[.b]
def Jr(_:Bool):Prop:=True
theorem Ed(n:Bool)(h:Jr n):dG ri (fu n):=lV ⟨_,_,rfl,⟨_,rfl⟩,rfl⟩
def Jt(_:Bool):Nat:=0
theorem Ju(n:Bool):kt (fu n)=Jt n:=by simp only[fu,fQ,gL,iB,Jt]
theorem afS{l:List Int}{n:Int}(h:0<=n)(h':n<l.length):Prim.ev (.cell 1 0) [.l (l.map aG),ii n]=some (ii (gt l n)):=fF h (cD h h') rfl rfl
theorem afT{l:List Int}{n:Int}(h:0<=n)(h':n<l.length):Prim.ev (.bn 1 0) [.l (l.map aG),ii n]=some (ii (gt l n)):=ke h (cD h h') rfl rfl rfl
theorem SR{l m:List Int}(h:l.length+m.length<4294967296):Prim.ev (.app false 1) [.l (l.map aG),.l (m.map aG)]=some (.l ((l++m).map aG)):=qa (w:=1) (λ_=>rfl) (.inl rfl) h
theorem SS{m:List Int}(h:m.length<4294967296):Prim.ev (.app false 1) [.l [],.l (m.map aG)]=some (.l (m.map aG)):=rh (w:=1) (λ_=>rfl) (.inl rfl) h
theorem yl{l m:List Int}(h:l.length+m.length<4294967296):Prim.ev (.app true 1) [.l (l.map aG),.l (m.map aG)]=some (.l ((l++m).map aG)):=qa (w:=1) (λ_=>rfl) (.inr λ_=>rfl) h
theorem SU{m:List Int}(h:m.length<4294967296):Prim.ev (.app true 1) [.l [],.l (m.map aG)]=some (.l (m.map aG)):=rh (w:=1) (λ_=>rfl) (.inr λ_=>rfl) h
theorem afU{l:List Int}{x:Int}(h:l.length<4294967295):Prim.ev (.app false 1) [.l (l.map aG),.l ([x].map aG)]=some (.l ((l++[x]).map aG)):=SR (by simp;omega)
theorem afV{x:Int}:Prim.ev (.app false 1) [.l [],.l ([x].map aG)]=some (.l ([x].map aG)):=SS (by simp)
theorem Ee{l:List Int}{x:Int}(h:l.length<4294967295):Prim.ev (.app true 1) [.l (l.map aG),.l ([x].map aG)]=some (.l ((l++[x]).map aG)):=yl (by simp;omega)
theorem afW{x:Int}:Prim.ev (.app true 1) [.l [],.l ([x].map aG)]=some (.l ([x].map aG)):=SU (by simp)
theorem afX{l:List Int}{a:Int}(h:0<=a)(h':a<=l.length):Prim.ev (.sub 1 true false) [.l (l.map aG),ii a]=some (.l ((l.drop a.toNat).map aG)):=xt (enc:=aG) (w:=1) (λ_=>rfl) h h'
theorem afY{l:List Int}{a:Int}(h:0<=a)(h':a<=l.length):Prim.ev (.sub 1 false true) [.l (l.map aG),ii a]=some (.l ((l.take a.toNat).map aG)):=xu (enc:=aG) (w:=1) (λ_=>rfl) h h'
theorem afZ(x:Int):Prim.ev (.lit 1 [true]) [ii x]=some (.l ([x].map aG)):=n6 (by decide) rfl rfl
theorem af0(x:Int):Prim.ev (.lit 1 []) [ii x]=some (.l ([x].map aG)):=n6 (by decide) rfl rfl
theorem af1{l:List Bool}{n:Int}(h:0<=n)(h':n<l.length):Prim.ev (.cell 1 0) [.l (l.map fu),ii n]=some (bb (gt l n)):=fF h (cD h h') rfl rfl
theorem af2{l:List Bool}{n:Int}(h:0<=n)(h':n<l.length):Prim.ev (.bn 1 0) [.l (l.map fu),ii n]=some (bb (gt l n)):=ke h (cD h h') rfl rfl rfl
theorem SW{l m:List Bool}(h:l.length+m.length<4294967296):Prim.ev (.app false 1) [.l (l.map fu),.l (m.map fu)]=some (.l ((l++m).map fu)):=qa (w:=1) (λ_=>rfl) (.inl rfl) h
theorem SX{m:List Bool}(h:m.length<4294967296):Prim.ev (.app false 1) [.l [],.l (m.map fu)]=some (.l (m.map fu)):=rh (w:=1) (λ_=>rfl) (.inl rfl) h
theorem Jv{l m:List Bool}(h:l.length+m.length<4294967296):Prim.ev (.app true 1) [.l (l.map fu),.l (m.map fu)]=some (.l ((l++m).map fu)):=qa (w:=1) (λ_=>rfl) (.inr λ_=>rfl) h
theorem SY{m:List Bool}(h:m.length<4294967296):Prim.ev (.app true 1) [.l [],.l (m.map fu)]=some (.l (m.map fu)):=rh (w:=1) (λ_=>rfl) (.inr λ_=>rfl) h
theorem af3{l:List Bool}{x:Bool}(h:l.length<4294967295):Prim.ev (.app false 1) [.l (l.map fu),.l ([x].map fu)]=some (.l ((l++[x]).map fu)):=SW (by simp;omega)
theorem af4{x:Bool}:Prim.ev (.app false 1) [.l [],.l ([x].map fu)]=some (.l ([x].map fu)):=SX (by simp)
theorem af5{l:List Bool}{x:Bool}(h:l.length<4294967295):Prim.ev (.app true 1) [.l (l.map fu),.l ([x].map fu)]=some (.l ((l++[x]).map fu)):=Jv (by simp;omega)
theorem af6{x:Bool}:Prim.ev (.app true 1) [.l [],.l ([x].map fu)]=some (.l ([x].map fu)):=SY (by simp)
theorem af7{l:List Bool}{a:Int}(h:0<=a)(h':a<=l.length):Prim.ev (.sub 1 true false) [.l (l.map fu),ii a]=some (.l ((l.drop a.toNat).map fu)):=xt (enc:=fu) (w:=1) (λ_=>rfl) h h'
theorem af8{l:List Bool}{a:Int}(h:0<=a)(h':a<=l.length):Prim.ev (.sub 1 false true) [.l (l.map fu),ii a]=some (.l ((l.take a.toNat).map fu)):=xu (enc:=fu) (w:=1) (λ_=>rfl) h h'
theorem af9(x:Bool):Prim.ev (.lit 1 [true]) [bb x]=some (.l ([x].map fu)):=n6 (by decide) rfl rfl
theorem af_(x:Bool):Prim.ev (.lit 1 []) [bb x]=some (.l ([x].map fu)):=n6 (by decide) rfl rfl
structure br where
 a:Int
 b:Int
 cost:Int
 ae:Int
 deriving Inhabited
def df(x:br):List T:=[ii x.a,ii x.b,ii x.cost,ii x.ae]
def qb:List Ty:=[.i .i64,.i .i64,.i .i64,.i .i64]
def An(x:br):Prop:=fE x.a∧fE x.b∧fE x.cost∧fE x.ae
theorem af'(r:List T)(h:dG qb r):∃x,r=df x∧An x:=by
 obtain⟨_,_,rfl,⟨v0,rfl,h0⟩,_,_,rfl,⟨v1,rfl,h1⟩,_,_,rfl,⟨v2,rfl,h2⟩,_,_,rfl,⟨v3,rfl,h3⟩,rfl⟩:=r_ h
 exact⟨⟨v0,v1,v2,v3⟩,rfl,h0,h1,h2,h3⟩
theorem Ef(x:br)(h:An x):dG qb (df x):=by
 obtain⟨h0,h1,h2,h3⟩:=h
 exact lV ⟨_,_,rfl,⟨_,rfl,h0⟩,_,_,rfl,⟨_,rfl,h1⟩,_,_,rfl,⟨_,rfl,h2⟩,_,_,rfl,⟨_,rfl,h3⟩,rfl⟩
def tY(x:br):Nat:=0
theorem Ao(x:br):kt (df x)=tY x:=by
 simp only[df,tY,fQ,gL,iA,iB,gG,Nat.add_zero,Nat.zero_add]
theorem aga{l:List br}{n:Int}(h:0<=n)(h':n<l.length):Prim.ev (.cell 4 0) [.l (l.map df),ii n]=some (ii (gt l n).a):=fF h (cD h h') rfl rfl
theorem agb{l:List br}{n:Int}(h:0<=n)(h':n<l.length):Prim.ev (.bn 4 0) [.l (l.map df),ii n]=some (ii (gt l n).a):=ke h (cD h h') rfl rfl rfl
theorem agc{l:List br}{n:Int}(h:0<=n)(h':n<l.length):Prim.ev (.cell 4 1) [.l (l.map df),ii n]=some (ii (gt l n).b):=fF h (cD h h') rfl rfl
theorem agd{l:List br}{n:Int}(h:0<=n)(h':n<l.length):Prim.ev (.bn 4 1) [.l (l.map df),ii n]=some (ii (gt l n).b):=ke h (cD h h') rfl rfl rfl
theorem age{l:List br}{n:Int}(h:0<=n)(h':n<l.length):Prim.ev (.cell 4 2) [.l (l.map df),ii n]=some (ii (gt l n).cost):=fF h (cD h h') rfl rfl
theorem agf{l:List br}{n:Int}(h:0<=n)(h':n<l.length):Prim.ev (.bn 4 2) [.l (l.map df),ii n]=some (ii (gt l n).cost):=ke h (cD h h') rfl rfl rfl
theorem agh{l:List br}{n:Int}(h:0<=n)(h':n<l.length):Prim.ev (.cell 4 3) [.l (l.map df),ii n]=some (ii (gt l n).ae):=fF h (cD h h') rfl rfl
theorem agi{l:List br}{n:Int}(h:0<=n)(h':n<l.length):Prim.ev (.bn 4 3) [.l (l.map df),ii n]=some (ii (gt l n).ae):=ke h (cD h h') rfl rfl rfl
theorem SZ{l m:List br}(h:l.length+m.length<4294967296):Prim.ev (.app false 4) [.l (l.map df),.l (m.map df)]=some (.l ((l++m).map df)):=qa (w:=4) (λ_=>rfl) (.inl rfl) h
theorem S0{m:List br}(h:m.length<4294967296):Prim.ev (.app false 4) [.l [],.l (m.map df)]=some (.l (m.map df)):=rh (w:=4) (λ_=>rfl) (.inl rfl) h
theorem S1{l m:List br}(h:l.length+m.length<4294967296):Prim.ev (.app true 4) [.l (l.map df),.l (m.map df)]=some (.l ((l++m).map df)):=qa (w:=4) (λ_=>rfl) (.inr λ_=>rfl) h
theorem kV_{m:List br}(h:m.length<4294967296):Prim.ev (.app true 4) [.l [],.l (m.map df)]=some (.l (m.map df)):=rh (w:=4) (λ_=>rfl) (.inr λ_=>rfl) h
theorem agk{l:List br}{x:br}(h:l.length<4294967295):Prim.ev (.app false 4) [.l (l.map df),.l ([x].map df)]=some (.l ((l++[x]).map df)):=SZ (by simp;omega)
theorem agl{x:br}:Prim.ev (.app false 4) [.l [],.l ([x].map df)]=some (.l ([x].map df)):=S0 (by simp)
theorem agm{l:List br}{x:br}(h:l.length<4294967295):Prim.ev (.app true 4) [.l (l.map df),.l ([x].map df)]=some (.l ((l++[x]).map df)):=S1 (by simp;omega)
theorem agn{x:br}:Prim.ev (.app true 4) [.l [],.l ([x].map df)]=some (.l ([x].map df)):=kV_ (by simp)
theorem ago{l:List br}{a:Int}(h:0<=a)(h':a<=l.length):Prim.ev (.sub 4 true false) [.l (l.map df),ii a]=some (.l ((l.drop a.toNat).map df)):=xt (enc:=df) (w:=4) (λ_=>rfl) h h'
theorem agp{l:List br}{a:Int}(h:0<=a)(h':a<=l.length):Prim.ev (.sub 4 false true) [.l (l.map df),ii a]=some (.l ((l.take a.toNat).map df)):=xu (enc:=df) (w:=4) (λ_=>rfl) h h'
theorem agq(v0:Int)(v1:Int)(v2:Int)(v3:Int):Prim.ev (.lit 4 [true,true,true,true]) [ii v0,ii v1,ii v2,ii v3]=some (.l ([(⟨v0,v1,v2,v3⟩:br)].map df)):=n6 (by decide) rfl rfl
theorem ags(v0:Int)(v1:Int)(v2:Int)(v3:Int):Prim.ev (.lit 4 []) [ii v0,ii v1,ii v2,ii v3]=some (.l ([(⟨v0,v1,v2,v3⟩:br)].map df)):=n6 (by decide) rfl rfl
theorem agt(x:br):(⟨x.a,x.b,x.cost,x.ae⟩:br)=x:=rfl
structure bO where
 owner:Int
 key:Int
 cost:Int
 fT:Bool
 deriving Inhabited
def dH(x:bO):List T:=[ii x.owner,ii x.key,ii x.cost,bb x.fT]
def qw:List Ty:=[.i .i64,.i .i64,.i .i64,.b]
def Ap(x:bO):Prop:=fE x.owner∧fE x.key∧fE x.cost
theorem agu(r:List T)(h:dG qw r):∃x,r=dH x∧Ap x:=by
 obtain⟨_,_,rfl,⟨v0,rfl,h0⟩,_,_,rfl,⟨v1,rfl,h1⟩,_,_,rfl,⟨v2,rfl,h2⟩,_,_,rfl,⟨v3,rfl⟩,rfl⟩:=r_ h
 exact⟨⟨v0,v1,v2,v3⟩,rfl,h0,h1,h2⟩
theorem Eg(x:bO)(h:Ap x):dG qw (dH x):=by
 obtain⟨h0,h1,h2⟩:=h
 exact lV ⟨_,_,rfl,⟨_,rfl,h0⟩,_,_,rfl,⟨_,rfl,h1⟩,_,_,rfl,⟨_,rfl,h2⟩,_,_,rfl,⟨_,rfl⟩,rfl⟩
def tZ(x:bO):Nat:=0
theorem Aq(x:bO):kt (dH x)=tZ x:=by
 simp only[dH,tZ,fQ,gL,iA,iB,gG,Nat.add_zero,Nat.zero_add]
theorem agv{l:List bO}{n:Int}(h:0<=n)(h':n<l.length):Prim.ev (.cell 4 0) [.l (l.map dH),ii n]=some (ii (gt l n).owner):=fF h (cD h h') rfl rfl
theorem agw{l:List bO}{n:Int}(h:0<=n)(h':n<l.length):Prim.ev (.bn 4 0) [.l (l.map dH),ii n]=some (ii (gt l n).owner):=ke h (cD h h') rfl rfl rfl
theorem agx{l:List bO}{n:Int}(h:0<=n)(h':n<l.length):Prim.ev (.cell 4 1) [.l (l.map dH),ii n]=some (ii (gt l n).key):=fF h (cD h h') rfl rfl
theorem agy{l:List bO}{n:Int}(h:0<=n)(h':n<l.length):Prim.ev (.bn 4 1) [.l (l.map dH),ii n]=some (ii (gt l n).key):=ke h (cD h h') rfl rfl rfl
theorem agz{l:List bO}{n:Int}(h:0<=n)(h':n<l.length):Prim.ev (.cell 4 2) [.l (l.map dH),ii n]=some (ii (gt l n).cost):=fF h (cD h h') rfl rfl
theorem agA{l:List bO}{n:Int}(h:0<=n)(h':n<l.length):Prim.ev (.bn 4 2) [.l (l.map dH),ii n]=some (ii (gt l n).cost):=ke h (cD h h') rfl rfl rfl
theorem agB{l:List bO}{n:Int}(h:0<=n)(h':n<l.length):Prim.ev (.cell 4 3) [.l (l.map dH),ii n]=some (bb (gt l n).fT):=fF h (cD h h') rfl rfl
theorem agC{l:List bO}{n:Int}(h:0<=n)(h':n<l.length):Prim.ev (.bn 4 3) [.l (l.map dH),ii n]=some (bb (gt l n).fT):=ke h (cD h h') rfl rfl rfl
theorem S2{l m:List bO}(h:l.length+m.length<4294967296):Prim.ev (.app false 4) [.l (l.map dH),.l (m.map dH)]=some (.l ((l++m).map dH)):=qa (w:=4) (λ_=>rfl) (.inl rfl) h
theorem S3{m:List bO}(h:m.length<4294967296):Prim.ev (.app false 4) [.l [],.l (m.map dH)]=some (.l (m.map dH)):=rh (w:=4) (λ_=>rfl) (.inl rfl) h
theorem S4{l m:List bO}(h:l.length+m.length<4294967296):Prim.ev (.app true 4) [.l (l.map dH),.l (m.map dH)]=some (.l ((l++m).map dH)):=qa (w:=4) (λ_=>rfl) (.inr λ_=>rfl) h
theorem j9_{m:List bO}(h:m.length<4294967296):Prim.ev (.app true 4) [.l [],.l (m.map dH)]=some (.l (m.map dH)):=rh (w:=4) (λ_=>rfl) (.inr λ_=>rfl) h
theorem agE{l:List bO}{x:bO}(h:l.length<4294967295):Prim.ev (.app false 4) [.l (l.map dH),.l ([x].map dH)]=some (.l ((l++[x]).map dH)):=S2 (by simp;omega)
theorem agF{x:bO}:Prim.ev (.app false 4) [.l [],.l ([x].map dH)]=some (.l ([x].map dH)):=S3 (by simp)
theorem agG{l:List bO}{x:bO}(h:l.length<4294967295):Prim.ev (.app true 4) [.l (l.map dH),.l ([x].map dH)]=some (.l ((l++[x]).map dH)):=S4 (by simp;omega)
theorem agH{x:bO}:Prim.ev (.app true 4) [.l [],.l ([x].map dH)]=some (.l ([x].map dH)):=j9_ (by simp)
theorem agI{l:List bO}{a:Int}(h:0<=a)(h':a<=l.length):Prim.ev (.sub 4 true false) [.l (l.map dH),ii a]=some (.l ((l.drop a.toNat).map dH)):=xt (enc:=dH) (w:=4) (λ_=>rfl) h h'
theorem agJ{l:List bO}{a:Int}(h:0<=a)(h':a<=l.length):Prim.ev (.sub 4 false true) [.l (l.map dH),ii a]=some (.l ((l.take a.toNat).map dH)):=xu (enc:=dH) (w:=4) (λ_=>rfl) h h'
theorem agK(x:bO):(⟨x.owner,x.key,x.cost,x.fT⟩:bO)=x:=rfl
structure Net where
 n:Int
 ai:List br
 aB:List bO
 deriving Inhabited
def gd(x:Net):List T:=[ii x.n,.l (x.ai.map df),.l (x.aB.map dH)]
def S5:List Ty:=[.i .i64,.sl qb,.sl qw]
def tq(x:Net):Prop:=fE x.n∧(x.ai.length<=maxLen∧∀y∈x.ai,An y)∧(x.aB.length<=maxLen∧∀y∈x.aB,Ap y)
theorem agL(r:List T)(h:dG S5 r):∃x,r=gd x∧tq x:=by
 obtain⟨_,_,rfl,⟨v0,rfl,h0⟩,t1,_,rfl,q1,t2,_,rfl,q2,rfl⟩:=r_ h
 unfold WT at q1
 obtain⟨z1,rfl,m1,g1⟩:=q1
 obtain⟨v1,rfl,h1⟩:=Jq af' g1
 rw[List.length_map]at m1
 unfold WT at q2
 obtain⟨z2,rfl,m2,g2⟩:=q2
 obtain⟨v2,rfl,h2⟩:=Jq agu g2
 rw[List.length_map]at m2
 exact⟨⟨v0,v1,v2⟩,rfl,h0,⟨m1,h1⟩,⟨m2,h2⟩⟩
def Eh(x:Net):Nat:=bz tY x.ai+bz tZ x.aB
theorem Jw(x:Net):kt (gd x)=Eh x:=by
 simp only[gd,Eh,fQ,gL,iA,iB,gG,Nat.add_zero,Nat.zero_add,ny Ao,ny Aq]
 try omega
theorem agM{l:List Net}{n:Int}(h:0<=n)(h':n<l.length):Prim.ev (.cell 3 0) [.l (l.map gd),ii n]=some (ii (gt l n).n):=fF h (cD h h') rfl rfl
theorem agN{l:List Net}{n:Int}(h:0<=n)(h':n<l.length):Prim.ev (.bn 3 0) [.l (l.map gd),ii n]=some (ii (gt l n).n):=ke h (cD h h') rfl rfl rfl
theorem agO{l:List Net}{n:Int}(h:0<=n)(h':n<l.length):Prim.ev (.cell 3 1) [.l (l.map gd),ii n]=some (.l ((gt l n).ai.map df)):=fF h (cD h h') rfl rfl
theorem agP{l:List Net}{n:Int}(h:0<=n)(h':n<l.length):Prim.ev (.bD 3 1) [.l (l.map gd),ii n]=some (.l ((gt l n).ai.map df)):=pe h (cD h h') rfl rfl
theorem agQ{l:List Net}{n:Int}(h:0<=n)(h':n<l.length):Prim.ev (.cell 3 2) [.l (l.map gd),ii n]=some (.l ((gt l n).aB.map dH)):=fF h (cD h h') rfl rfl
theorem agR{l:List Net}{n:Int}(h:0<=n)(h':n<l.length):Prim.ev (.bD 3 2) [.l (l.map gd),ii n]=some (.l ((gt l n).aB.map dH)):=pe h (cD h h') rfl rfl
theorem S6{l m:List Net}(h:l.length+m.length<4294967296):Prim.ev (.app false 3) [.l (l.map gd),.l (m.map gd)]=some (.l ((l++m).map gd)):=qa (w:=3) (λ_=>rfl) (.inl rfl) h
theorem S7{m:List Net}(h:m.length<4294967296):Prim.ev (.app false 3) [.l [],.l (m.map gd)]=some (.l (m.map gd)):=rh (w:=3) (λ_=>rfl) (.inl rfl) h
theorem agS{l:List Net}{x:Net}(h:l.length<4294967295):Prim.ev (.app false 3) [.l (l.map gd),.l ([x].map gd)]=some (.l ((l++[x]).map gd)):=S6 (by simp;omega)
theorem agT{x:Net}:Prim.ev (.app false 3) [.l [],.l ([x].map gd)]=some (.l ([x].map gd)):=S7 (by simp)
theorem agU{l:List Net}{a:Int}(h:0<=a)(h':a<=l.length):Prim.ev (.sub 3 true false) [.l (l.map gd),ii a]=some (.l ((l.drop a.toNat).map gd)):=xt (enc:=gd) (w:=3) (λ_=>rfl) h h'
theorem agV{l:List Net}{a:Int}(h:0<=a)(h':a<=l.length):Prim.ev (.sub 3 false true) [.l (l.map gd),ii a]=some (.l ((l.take a.toNat).map gd)):=xu (enc:=gd) (w:=3) (λ_=>rfl) h h'
theorem agW(v0:Int)(v1:List br)(v2:List bO):Prim.ev (.lit 3 [true,false,false]) [ii v0,.l (v1.map df),.l (v2.map dH)]=some (.l ([(⟨v0,v1,v2⟩:Net)].map gd)):=n6 (by decide) rfl rfl
theorem agX(v0:Int)(v1:List br)(v2:List bO):Prim.ev (.lit 3 []) [ii v0,.l (v1.map df),.l (v2.map dH)]=some (.l ([(⟨v0,v1,v2⟩:Net)].map gd)):=n6 (by decide) rfl rfl
theorem agY(x:Net):(⟨x.n,x.ai,x.aB⟩:Net)=x:=rfl
structure cn where
 to:Int
 cost:Int
 deriving Inhabited
def fk(x:cn):List T:=[ii x.to,ii x.cost]
def S8:List Ty:=[.i .i64,.i .i64]
def Jx(x:cn):Prop:=fE x.to∧fE x.cost
theorem agZ(x:cn)(h:Jx x):dG S8 (fk x):=by
 obtain⟨h0,h1⟩:=h
 exact lV ⟨_,_,rfl,⟨_,rfl,h0⟩,_,_,rfl,⟨_,rfl,h1⟩,rfl⟩
def Jy(x:cn):Nat:=0
theorem ag1(x:cn):kt (fk x)=Jy x:=by
 simp only[fk,Jy,fQ,gL,iA,iB,gG,Nat.add_zero,Nat.zero_add]
theorem ag2{l:List cn}{n:Int}(h:0<=n)(h':n<l.length):Prim.ev (.cell 2 0) [.l (l.map fk),ii n]=some (ii (gt l n).to):=fF h (cD h h') rfl rfl
theorem ag3{l:List cn}{n:Int}(h:0<=n)(h':n<l.length):Prim.ev (.bn 2 0) [.l (l.map fk),ii n]=some (ii (gt l n).to):=ke h (cD h h') rfl rfl rfl
theorem ag4{l:List cn}{n:Int}(h:0<=n)(h':n<l.length):Prim.ev (.cell 2 1) [.l (l.map fk),ii n]=some (ii (gt l n).cost):=fF h (cD h h') rfl rfl
theorem ag5{l:List cn}{n:Int}(h:0<=n)(h':n<l.length):Prim.ev (.bn 2 1) [.l (l.map fk),ii n]=some (ii (gt l n).cost):=ke h (cD h h') rfl rfl rfl
theorem S9{l m:List cn}(h:l.length+m.length<4294967296):Prim.ev (.app false 2) [.l (l.map fk),.l (m.map fk)]=some (.l ((l++m).map fk)):=qa (w:=2) (λ_=>rfl) (.inl rfl) h
theorem S_{m:List cn}(h:m.length<4294967296):Prim.ev (.app false 2) [.l [],.l (m.map fk)]=some (.l (m.map fk)):=rh (w:=2) (λ_=>rfl) (.inl rfl) h
theorem S'{l m:List cn}(h:l.length+m.length<4294967296):Prim.ev (.app true 2) [.l (l.map fk),.l (m.map fk)]=some (.l ((l++m).map fk)):=qa (w:=2) (λ_=>rfl) (.inr λ_=>rfl) h
theorem Ta{m:List cn}(h:m.length<4294967296):Prim.ev (.app true 2) [.l [],.l (m.map fk)]=some (.l (m.map fk)):=rh (w:=2) (λ_=>rfl) (.inr λ_=>rfl) h
theorem ag6{l:List cn}{x:cn}(h:l.length<4294967295):Prim.ev (.app false 2) [.l (l.map fk),.l ([x].map fk)]=some (.l ((l++[x]).map fk)):=S9 (by simp;omega)
theorem ag7{x:cn}:Prim.ev (.app false 2) [.l [],.l ([x].map fk)]=some (.l ([x].map fk)):=S_ (by simp)
theorem ag8{l:List cn}{x:cn}(h:l.length<4294967295):Prim.ev (.app true 2) [.l (l.map fk),.l ([x].map fk)]=some (.l ((l++[x]).map fk)):=S' (by simp;omega)
theorem ag9{x:cn}:Prim.ev (.app true 2) [.l [],.l ([x].map fk)]=some (.l ([x].map fk)):=Ta (by simp)
theorem ag_{l:List cn}{a:Int}(h:0<=a)(h':a<=l.length):Prim.ev (.sub 2 true false) [.l (l.map fk),ii a]=some (.l ((l.drop a.toNat).map fk)):=xt (enc:=fk) (w:=2) (λ_=>rfl) h h'
theorem aha{l:List cn}{a:Int}(h:0<=a)(h':a<=l.length):Prim.ev (.sub 2 false true) [.l (l.map fk),ii a]=some (.l ((l.take a.toNat).map fk)):=xu (enc:=fk) (w:=2) (λ_=>rfl) h h'
theorem ahb(v0:Int)(v1:Int):Prim.ev (.lit 2 [true,true]) [ii v0,ii v1]=some (.l ([(⟨v0,v1⟩:cn)].map fk)):=n6 (by decide) rfl rfl
theorem ahc(v0:Int)(v1:Int):Prim.ev (.lit 2 []) [ii v0,ii v1]=some (.l ([(⟨v0,v1⟩:cn)].map fk)):=n6 (by decide) rfl rfl
theorem ahd(x:cn):(⟨x.to,x.cost⟩:cn)=x:=rfl
structure ah where
 ae:Int
 kind:Int
 owner:Int
 key:Int
 seq:Int
 bd:List cn
 cost:Int
 fT:Bool
 deriving Inhabited
def aC(x:ah):List T:=[ii x.ae,ii x.kind,ii x.owner,ii x.key,ii x.seq,.l (x.bd.map fk),ii x.cost,bb x.fT]
def oH:List Ty:=[.i .i64,.i .i64,.i .i64,.i .i64,.i .i64,.sl S8,.i .i64,.b]
def rl(x:ah):Prop:=fE x.ae∧fE x.kind∧fE x.owner∧fE x.key∧fE x.seq∧(x.bd.length<=maxLen∧∀y∈x.bd,Jx y)∧fE x.cost
theorem Ei(x:ah)(h:rl x):dG oH (aC x):=by
 obtain⟨h0,h1,h2,h3,h4,h5,h6⟩:=h
 exact lV ⟨_,_,rfl,⟨_,rfl,h0⟩,_,_,rfl,⟨_,rfl,h1⟩,_,_,rfl,⟨_,rfl,h2⟩,_,_,rfl,⟨_,rfl,h3⟩,_,_,rfl,⟨_,rfl,h4⟩,_,_,rfl,td (by rw[List.length_map];exact h5.1) (n8 agZ h5.2),_,_,rfl,⟨_,rfl,h6⟩,_,_,rfl,⟨_,rfl⟩,rfl⟩
def nz(x:ah):Nat:=bz Jy x.bd
theorem Ej(x:ah):kt (aC x)=nz x:=by
 simp only[aC,nz,fQ,gL,iA,iB,gG,Nat.add_zero,Nat.zero_add,ny ag1]
theorem ahe{l:List ah}{n:Int}(h:0<=n)(h':n<l.length):Prim.ev (.cell 8 0) [.l (l.map aC),ii n]=some (ii (gt l n).ae):=fF h (cD h h') rfl rfl
theorem ahf{l:List ah}{n:Int}(h:0<=n)(h':n<l.length):Prim.ev (.bn 8 0) [.l (l.map aC),ii n]=some (ii (gt l n).ae):=ke h (cD h h') rfl rfl rfl
theorem ahg{l:List ah}{n:Int}(h:0<=n)(h':n<l.length):Prim.ev (.cell 8 1) [.l (l.map aC),ii n]=some (ii (gt l n).kind):=fF h (cD h h') rfl rfl
theorem ahh{l:List ah}{n:Int}(h:0<=n)(h':n<l.length):Prim.ev (.bn 8 1) [.l (l.map aC),ii n]=some (ii (gt l n).kind):=ke h (cD h h') rfl rfl rfl
theorem ahi{l:List ah}{n:Int}(h:0<=n)(h':n<l.length):Prim.ev (.cell 8 2) [.l (l.map aC),ii n]=some (ii (gt l n).owner):=fF h (cD h h') rfl rfl
theorem ahj{l:List ah}{n:Int}(h:0<=n)(h':n<l.length):Prim.ev (.bn 8 2) [.l (l.map aC),ii n]=some (ii (gt l n).owner):=ke h (cD h h') rfl rfl rfl
theorem ahk{l:List ah}{n:Int}(h:0<=n)(h':n<l.length):Prim.ev (.cell 8 3) [.l (l.map aC),ii n]=some (ii (gt l n).key):=fF h (cD h h') rfl rfl
theorem ahl{l:List ah}{n:Int}(h:0<=n)(h':n<l.length):Prim.ev (.bn 8 3) [.l (l.map aC),ii n]=some (ii (gt l n).key):=ke h (cD h h') rfl rfl rfl
theorem ahm{l:List ah}{n:Int}(h:0<=n)(h':n<l.length):Prim.ev (.cell 8 4) [.l (l.map aC),ii n]=some (ii (gt l n).seq):=fF h (cD h h') rfl rfl
theorem ahn{l:List ah}{n:Int}(h:0<=n)(h':n<l.length):Prim.ev (.bn 8 4) [.l (l.map aC),ii n]=some (ii (gt l n).seq):=ke h (cD h h') rfl rfl rfl
theorem aho{l:List ah}{n:Int}(h:0<=n)(h':n<l.length):Prim.ev (.cell 8 5) [.l (l.map aC),ii n]=some (.l ((gt l n).bd.map fk)):=fF h (cD h h') rfl rfl
theorem ahp{l:List ah}{n:Int}(h:0<=n)(h':n<l.length):Prim.ev (.bD 8 5) [.l (l.map aC),ii n]=some (.l ((gt l n).bd.map fk)):=pe h (cD h h') rfl rfl
theorem ahq{l:List ah}{n:Int}(h:0<=n)(h':n<l.length):Prim.ev (.cell 8 6) [.l (l.map aC),ii n]=some (ii (gt l n).cost):=fF h (cD h h') rfl rfl
theorem ahr{l:List ah}{n:Int}(h:0<=n)(h':n<l.length):Prim.ev (.bn 8 6) [.l (l.map aC),ii n]=some (ii (gt l n).cost):=ke h (cD h h') rfl rfl rfl
theorem ahs{l:List ah}{n:Int}(h:0<=n)(h':n<l.length):Prim.ev (.cell 8 7) [.l (l.map aC),ii n]=some (bb (gt l n).fT):=fF h (cD h h') rfl rfl
theorem aht{l:List ah}{n:Int}(h:0<=n)(h':n<l.length):Prim.ev (.bn 8 7) [.l (l.map aC),ii n]=some (bb (gt l n).fT):=ke h (cD h h') rfl rfl rfl
theorem Jz{l m:List ah}(h:l.length+m.length<4294967296):Prim.ev (.app false 8) [.l (l.map aC),.l (m.map aC)]=some (.l ((l++m).map aC)):=qa (w:=8) (λ_=>rfl) (.inl rfl) h
theorem kS_{m:List ah}(h:m.length<4294967296):Prim.ev (.app false 8) [.l [],.l (m.map aC)]=some (.l (m.map aC)):=rh (w:=8) (λ_=>rfl) (.inl rfl) h
theorem ahv{l:List ah}{x:ah}(h:l.length<4294967295):Prim.ev (.app false 8) [.l (l.map aC),.l ([x].map aC)]=some (.l ((l++[x]).map aC)):=Jz (by simp;omega)
theorem ahw{x:ah}:Prim.ev (.app false 8) [.l [],.l ([x].map aC)]=some (.l ([x].map aC)):=kS_ (by simp)
theorem ahx{l:List ah}{a:Int}(h:0<=a)(h':a<=l.length):Prim.ev (.sub 8 true false) [.l (l.map aC),ii a]=some (.l ((l.drop a.toNat).map aC)):=xt (enc:=aC) (w:=8) (λ_=>rfl) h h'
theorem ahy{l:List ah}{a:Int}(h:0<=a)(h':a<=l.length):Prim.ev (.sub 8 false true) [.l (l.map aC),ii a]=some (.l ((l.take a.toNat).map aC)):=xu (enc:=aC) (w:=8) (λ_=>rfl) h h'
theorem JA(v0:Int)(v1:Int)(v2:Int)(v3:Int)(v4:Int)(v5:List cn)(v6:Int)(v7:Bool):Prim.ev (.lit 8 [true,true,true,true,true,false,true,true]) [ii v0,ii v1,ii v2,ii v3,ii v4,.l (v5.map fk),ii v6,bb v7]=some (.l ([(⟨v0,v1,v2,v3,v4,v5,v6,v7⟩:ah)].map aC)):=n6 (by decide) rfl rfl
theorem ahz(v0:Int)(v1:Int)(v2:Int)(v3:Int)(v4:Int)(v5:List cn)(v6:Int)(v7:Bool):Prim.ev (.lit 8 []) [ii v0,ii v1,ii v2,ii v3,ii v4,.l (v5.map fk),ii v6,bb v7]=some (.l ([(⟨v0,v1,v2,v3,v4,v5,v6,v7⟩:ah)].map aC)):=n6 (by decide) rfl rfl
theorem ahA(x:ah):(⟨x.ae,x.kind,x.owner,x.key,x.seq,x.bd,x.cost,x.fT⟩:ah)=x:=rfl
structure Way where
 to:Int
 cost:Int
 aH:List Int
 deriving Inhabited
def aV(x:Way):List T:=[ii x.to,ii x.cost,.l (x.aH.map aG)]
theorem ahB{l:List Way}{n:Int}(h:0<=n)(h':n<l.length):Prim.ev (.cell 3 0) [.l (l.map aV),ii n]=some (ii (gt l n).to):=fF h (cD h h') rfl rfl
theorem ahC{l:List Way}{n:Int}(h:0<=n)(h':n<l.length):Prim.ev (.bn 3 0) [.l (l.map aV),ii n]=some (ii (gt l n).to):=ke h (cD h h') rfl rfl rfl
theorem ahD{l:List Way}{n:Int}(h:0<=n)(h':n<l.length):Prim.ev (.cell 3 1) [.l (l.map aV),ii n]=some (ii (gt l n).cost):=fF h (cD h h') rfl rfl
theorem ahE{l:List Way}{n:Int}(h:0<=n)(h':n<l.length):Prim.ev (.bn 3 1) [.l (l.map aV),ii n]=some (ii (gt l n).cost):=ke h (cD h h') rfl rfl rfl
theorem ahF{l:List Way}{n:Int}(h:0<=n)(h':n<l.length):Prim.ev (.cell 3 2) [.l (l.map aV),ii n]=some (.l ((gt l n).aH.map aG)):=fF h (cD h h') rfl rfl
theorem ahG{l:List Way}{n:Int}(h:0<=n)(h':n<l.length):Prim.ev (.bD 3 2) [.l (l.map aV),ii n]=some (.l ((gt l n).aH.map aG)):=pe h (cD h h') rfl rfl
theorem GA{l m:List Way}(h:l.length+m.length<4294967296):Prim.ev (.app false 3) [.l (l.map aV),.l (m.map aV)]=some (.l ((l++m).map aV)):=qa (w:=3) (λ_=>rfl) (.inl rfl) h
theorem GC{m:List Way}(h:m.length<4294967296):Prim.ev (.app false 3) [.l [],.l (m.map aV)]=some (.l (m.map aV)):=rh (w:=3) (λ_=>rfl) (.inl rfl) h
theorem JB{l:List Way}{x:Way}(h:l.length<4294967295):Prim.ev (.app false 3) [.l (l.map aV),.l ([x].map aV)]=some (.l ((l++[x]).map aV)):=GA (by simp;omega)
theorem ahH{x:Way}:Prim.ev (.app false 3) [.l [],.l ([x].map aV)]=some (.l ([x].map aV)):=GC (by simp)
theorem ahI{l:List Way}{a:Int}(h:0<=a)(h':a<=l.length):Prim.ev (.sub 3 true false) [.l (l.map aV),ii a]=some (.l ((l.drop a.toNat).map aV)):=xt (enc:=aV) (w:=3) (λ_=>rfl) h h'
theorem ahJ{l:List Way}{a:Int}(h:0<=a)(h':a<=l.length):Prim.ev (.sub 3 false true) [.l (l.map aV),ii a]=some (.l ((l.take a.toNat).map aV)):=xu (enc:=aV) (w:=3) (λ_=>rfl) h h'
theorem ahK(v0:Int)(v1:Int)(v2:List Int):Prim.ev (.lit 3 [true,true,false]) [ii v0,ii v1,.l (v2.map aG)]=some (.l ([(⟨v0,v1,v2⟩:Way)].map aV)):=n6 (by decide) rfl rfl
theorem ahL(v0:Int)(v1:Int)(v2:List Int):Prim.ev (.lit 3 []) [ii v0,ii v1,.l (v2.map aG)]=some (.l ([(⟨v0,v1,v2⟩:Way)].map aV)):=n6 (by decide) rfl rfl
theorem ahM(x:Way):(⟨x.to,x.cost,x.aH⟩:Way)=x:=rfl
structure as8 where
 Tb:Bool
 to:Int
 kind:Int
 cost:Int
 fT:Int
 aH:List Int
 deriving Inhabited
structure Self where
 id:Int
 aQ:Int
 net:Net
 heard:List Int
 store:List ah
 deriving Inhabited
def h_(x:Self):List T:=[ii x.id,ii x.aQ,ii x.net.n,.l (x.net.ai.map df),.l (x.net.aB.map dH),.l (x.heard.map aG),.l (x.store.map aC)]
def xv(x:Self):Nat:=bz tY x.net.ai+bz tZ x.net.aB+bz vg x.heard+bz nz x.store
theorem ahN{l:List Self}{n:Int}(h:0<=n)(h':n<l.length):Prim.ev (.cell 7 0) [.l (l.map h_),ii n]=some (ii (gt l n).id):=fF h (cD h h') rfl rfl
theorem ahO{l:List Self}{n:Int}(h:0<=n)(h':n<l.length):Prim.ev (.bn 7 0) [.l (l.map h_),ii n]=some (ii (gt l n).id):=ke h (cD h h') rfl rfl rfl
theorem ahP{l:List Self}{n:Int}(h:0<=n)(h':n<l.length):Prim.ev (.cell 7 1) [.l (l.map h_),ii n]=some (ii (gt l n).aQ):=fF h (cD h h') rfl rfl
theorem ahQ{l:List Self}{n:Int}(h:0<=n)(h':n<l.length):Prim.ev (.bn 7 1) [.l (l.map h_),ii n]=some (ii (gt l n).aQ):=ke h (cD h h') rfl rfl rfl
theorem ahR{l:List Self}{n:Int}(h:0<=n)(h':n<l.length):Prim.ev (.cell 7 2) [.l (l.map h_),ii n]=some (ii (gt l n).net.n):=fF h (cD h h') rfl rfl
theorem ahS{l:List Self}{n:Int}(h:0<=n)(h':n<l.length):Prim.ev (.bn 7 2) [.l (l.map h_),ii n]=some (ii (gt l n).net.n):=ke h (cD h h') rfl rfl rfl
theorem ahT{l:List Self}{n:Int}(h:0<=n)(h':n<l.length):Prim.ev (.cell 7 3) [.l (l.map h_),ii n]=some (.l ((gt l n).net.ai.map df)):=fF h (cD h h') rfl rfl
theorem ahU{l:List Self}{n:Int}(h:0<=n)(h':n<l.length):Prim.ev (.bD 7 3) [.l (l.map h_),ii n]=some (.l ((gt l n).net.ai.map df)):=pe h (cD h h') rfl rfl
theorem ahV{l:List Self}{n:Int}(h:0<=n)(h':n<l.length):Prim.ev (.cell 7 4) [.l (l.map h_),ii n]=some (.l ((gt l n).net.aB.map dH)):=fF h (cD h h') rfl rfl
theorem ahW{l:List Self}{n:Int}(h:0<=n)(h':n<l.length):Prim.ev (.bD 7 4) [.l (l.map h_),ii n]=some (.l ((gt l n).net.aB.map dH)):=pe h (cD h h') rfl rfl
theorem ahX{l:List Self}{n:Int}(h:0<=n)(h':n<l.length):Prim.ev (.cell 7 5) [.l (l.map h_),ii n]=some (.l ((gt l n).heard.map aG)):=fF h (cD h h') rfl rfl
theorem ahY{l:List Self}{n:Int}(h:0<=n)(h':n<l.length):Prim.ev (.bD 7 5) [.l (l.map h_),ii n]=some (.l ((gt l n).heard.map aG)):=pe h (cD h h') rfl rfl
theorem ahZ{l:List Self}{n:Int}(h:0<=n)(h':n<l.length):Prim.ev (.cell 7 6) [.l (l.map h_),ii n]=some (.l ((gt l n).store.map aC)):=fF h (cD h h') rfl rfl
theorem ah0{l:List Self}{n:Int}(h:0<=n)(h':n<l.length):Prim.ev (.bD 7 6) [.l (l.map h_),ii n]=some (.l ((gt l n).store.map aC)):=pe h (cD h h') rfl rfl
theorem Tc{l m:List Self}(h:l.length+m.length<4294967296):Prim.ev (.app false 7) [.l (l.map h_),.l (m.map h_)]=some (.l ((l++m).map h_)):=qa (w:=7) (λ_=>rfl) (.inl rfl) h
theorem Td{m:List Self}(h:m.length<4294967296):Prim.ev (.app false 7) [.l [],.l (m.map h_)]=some (.l (m.map h_)):=rh (w:=7) (λ_=>rfl) (.inl rfl) h
theorem ah1{l:List Self}{x:Self}(h:l.length<4294967295):Prim.ev (.app false 7) [.l (l.map h_),.l ([x].map h_)]=some (.l ((l++[x]).map h_)):=Tc (by simp;omega)
theorem ah2{x:Self}:Prim.ev (.app false 7) [.l [],.l ([x].map h_)]=some (.l ([x].map h_)):=Td (by simp)
theorem ah3{l:List Self}{a:Int}(h:0<=a)(h':a<=l.length):Prim.ev (.sub 7 true false) [.l (l.map h_),ii a]=some (.l ((l.drop a.toNat).map h_)):=xt (enc:=h_) (w:=7) (λ_=>rfl) h h'
theorem ah4{l:List Self}{a:Int}(h:0<=a)(h':a<=l.length):Prim.ev (.sub 7 false true) [.l (l.map h_),ii a]=some (.l ((l.take a.toNat).map h_)):=xu (enc:=h_) (w:=7) (λ_=>rfl) h h'
theorem ah5(v0:Int)(v1:Int)(v2:Int)(v3:List br)(v4:List bO)(v5:List Int)(v6:List ah):Prim.ev (.lit 7 [true,true,true,false,false,false,false]) [ii v0,ii v1,ii v2,.l (v3.map df),.l (v4.map dH),.l (v5.map aG),.l (v6.map aC)]=some (.l ([(⟨v0,v1,⟨v2,v3,v4⟩,v5,v6⟩:Self)].map h_)):=n6 (by decide) rfl rfl
theorem ah6(v0:Int)(v1:Int)(v2:Int)(v3:List br)(v4:List bO)(v5:List Int)(v6:List ah):Prim.ev (.lit 7 []) [ii v0,ii v1,ii v2,.l (v3.map df),.l (v4.map dH),.l (v5.map aG),.l (v6.map aC)]=some (.l ([(⟨v0,v1,⟨v2,v3,v4⟩,v5,v6⟩:Self)].map h_)):=n6 (by decide) rfl rfl
theorem ah7(x:Self):(⟨x.id,x.aQ,⟨x.net.n,x.net.ai,x.net.aB⟩,x.heard,x.store⟩:Self)=x:=rfl
structure fR where
 node:Int
 ae:Int
 left:Int
 both:Bool
 deriving Inhabited
def c9(x:fR):List T:=[ii x.node,ii x.ae,ii x.left,bb x.both]
def Te:List Ty:=[.i .i64,.i .i64,.i .i64,.b]
def vh(x:fR):Prop:=fE x.node∧fE x.ae∧fE x.left
theorem ah8(x:fR)(h:vh x):dG Te (c9 x):=by
 obtain⟨h0,h1,h2⟩:=h
 exact lV ⟨_,_,rfl,⟨_,rfl,h0⟩,_,_,rfl,⟨_,rfl,h1⟩,_,_,rfl,⟨_,rfl,h2⟩,_,_,rfl,⟨_,rfl⟩,rfl⟩
def xw(x:fR):Nat:=0
theorem ah9(x:fR):kt (c9 x)=xw x:=by
 simp only[c9,xw,fQ,gL,iA,iB,gG,Nat.add_zero,Nat.zero_add]
theorem ah_{l:List fR}{n:Int}(h:0<=n)(h':n<l.length):Prim.ev (.cell 4 0) [.l (l.map c9),ii n]=some (ii (gt l n).node):=fF h (cD h h') rfl rfl
theorem ah'{l:List fR}{n:Int}(h:0<=n)(h':n<l.length):Prim.ev (.bn 4 0) [.l (l.map c9),ii n]=some (ii (gt l n).node):=ke h (cD h h') rfl rfl rfl
theorem aia{l:List fR}{n:Int}(h:0<=n)(h':n<l.length):Prim.ev (.cell 4 1) [.l (l.map c9),ii n]=some (ii (gt l n).ae):=fF h (cD h h') rfl rfl
theorem aib{l:List fR}{n:Int}(h:0<=n)(h':n<l.length):Prim.ev (.bn 4 1) [.l (l.map c9),ii n]=some (ii (gt l n).ae):=ke h (cD h h') rfl rfl rfl
theorem aic{l:List fR}{n:Int}(h:0<=n)(h':n<l.length):Prim.ev (.cell 4 2) [.l (l.map c9),ii n]=some (ii (gt l n).left):=fF h (cD h h') rfl rfl
theorem aid{l:List fR}{n:Int}(h:0<=n)(h':n<l.length):Prim.ev (.bn 4 2) [.l (l.map c9),ii n]=some (ii (gt l n).left):=ke h (cD h h') rfl rfl rfl
theorem aie{l:List fR}{n:Int}(h:0<=n)(h':n<l.length):Prim.ev (.cell 4 3) [.l (l.map c9),ii n]=some (bb (gt l n).both):=fF h (cD h h') rfl rfl
theorem aif{l:List fR}{n:Int}(h:0<=n)(h':n<l.length):Prim.ev (.bn 4 3) [.l (l.map c9),ii n]=some (bb (gt l n).both):=ke h (cD h h') rfl rfl rfl
theorem Tf{l m:List fR}(h:l.length+m.length<4294967296):Prim.ev (.app false 4) [.l (l.map c9),.l (m.map c9)]=some (.l ((l++m).map c9)):=qa (w:=4) (λ_=>rfl) (.inl rfl) h
theorem Tg{m:List fR}(h:m.length<4294967296):Prim.ev (.app false 4) [.l [],.l (m.map c9)]=some (.l (m.map c9)):=rh (w:=4) (λ_=>rfl) (.inl rfl) h
theorem Th{l m:List fR}(h:l.length+m.length<4294967296):Prim.ev (.app true 4) [.l (l.map c9),.l (m.map c9)]=some (.l ((l++m).map c9)):=qa (w:=4) (λ_=>rfl) (.inr λ_=>rfl) h
theorem Ti{m:List fR}(h:m.length<4294967296):Prim.ev (.app true 4) [.l [],.l (m.map c9)]=some (.l (m.map c9)):=rh (w:=4) (λ_=>rfl) (.inr λ_=>rfl) h
theorem aih{l:List fR}{x:fR}(h:l.length<4294967295):Prim.ev (.app false 4) [.l (l.map c9),.l ([x].map c9)]=some (.l ((l++[x]).map c9)):=Tf (by simp;omega)
theorem aii{x:fR}:Prim.ev (.app false 4) [.l [],.l ([x].map c9)]=some (.l ([x].map c9)):=Tg (by simp)
theorem aij{l:List fR}{x:fR}(h:l.length<4294967295):Prim.ev (.app true 4) [.l (l.map c9),.l ([x].map c9)]=some (.l ((l++[x]).map c9)):=Th (by simp;omega)
theorem aik{x:fR}:Prim.ev (.app true 4) [.l [],.l ([x].map c9)]=some (.l ([x].map c9)):=Ti (by simp)
theorem ail{l:List fR}{a:Int}(h:0<=a)(h':a<=l.length):Prim.ev (.sub 4 true false) [.l (l.map c9),ii a]=some (.l ((l.drop a.toNat).map c9)):=xt (enc:=c9) (w:=4) (λ_=>rfl) h h'
theorem aim{l:List fR}{a:Int}(h:0<=a)(h':a<=l.length):Prim.ev (.sub 4 false true) [.l (l.map c9),ii a]=some (.l ((l.take a.toNat).map c9)):=xu (enc:=c9) (w:=4) (λ_=>rfl) h h'
theorem ain(v0:Int)(v1:Int)(v2:Int)(v3:Bool):Prim.ev (.lit 4 [true,true,true,true]) [ii v0,ii v1,ii v2,bb v3]=some (.l ([(⟨v0,v1,v2,v3⟩:fR)].map c9)):=n6 (by decide) rfl rfl
theorem aio(v0:Int)(v1:Int)(v2:Int)(v3:Bool):Prim.ev (.lit 4 []) [ii v0,ii v1,ii v2,bb v3]=some (.l ([(⟨v0,v1,v2,v3⟩:fR)].map c9)):=n6 (by decide) rfl rfl
theorem aip(x:fR):(⟨x.node,x.ae,x.left,x.both⟩:fR)=x:=rfl
structure Node where
 self:Self
 gO:List fR
 deriving Inhabited
def gf(x:Node):List T:=[ii x.self.id,ii x.self.aQ,ii x.self.net.n,.l (x.self.net.ai.map df),.l (x.self.net.aB.map dH),.l (x.self.heard.map aG),.l (x.self.store.map aC),.l (x.gO.map c9)]
def qc:List Ty:=[.i .i64,.i .i64,.i .i64,.sl qb,.sl qw,.sl oG,.sl oH,.sl Te]
def Ek(x:Node):Prop:=fE x.self.id∧fE x.self.aQ∧fE x.self.net.n∧(x.self.net.ai.length<=maxLen∧∀y∈x.self.net.ai,An y)∧(x.self.net.aB.length<=maxLen∧∀y∈x.self.net.aB,Ap y)∧(x.self.heard.length<=maxLen∧∀y∈x.self.heard,Ea y)∧(x.self.store.length<=maxLen∧∀y∈x.self.store,rl y)∧(x.gO.length<=maxLen∧∀y∈x.gO,vh y)
theorem Tj(x:Node)(h:Ek x):dG qc (gf x):=by
 obtain⟨h0,h1,h2,h3,h4,h5,h6,h7⟩:=h
 exact lV ⟨_,_,rfl,⟨_,rfl,h0⟩,_,_,rfl,⟨_,rfl,h1⟩,_,_,rfl,⟨_,rfl,h2⟩,_,_,rfl,td (by rw[List.length_map];exact h3.1) (n8 Ef h3.2),_,_,rfl,td (by rw[List.length_map];exact h4.1) (n8 Eg h4.2),_,_,rfl,td (by rw[List.length_map];exact h5.1) (n8 Eb h5.2),_,_,rfl,td (by rw[List.length_map];exact h6.1) (n8 Ei h6.2),_,_,rfl,td (by rw[List.length_map];exact h7.1) (n8 ah8 h7.2),rfl⟩
def Ar(x:Node):Nat:=bz tY x.self.net.ai+bz tZ x.self.net.aB+bz vg x.self.heard+bz nz x.self.store+bz xw x.gO
theorem Tk(x:Node):kt (gf x)=Ar x:=by
 simp only[gf,Ar,fQ,gL,iA,iB,gG,Nat.add_zero,Nat.zero_add,ny ah9,ny Ec,ny Ao,ny Ej,ny Aq]
 try omega
theorem aiq{l:List Node}{n:Int}(h:0<=n)(h':n<l.length):Prim.ev (.cell 8 0) [.l (l.map gf),ii n]=some (ii (gt l n).self.id):=fF h (cD h h') rfl rfl
theorem air{l:List Node}{n:Int}(h:0<=n)(h':n<l.length):Prim.ev (.bn 8 0) [.l (l.map gf),ii n]=some (ii (gt l n).self.id):=ke h (cD h h') rfl rfl rfl
theorem ais{l:List Node}{n:Int}(h:0<=n)(h':n<l.length):Prim.ev (.cell 8 1) [.l (l.map gf),ii n]=some (ii (gt l n).self.aQ):=fF h (cD h h') rfl rfl
theorem ait{l:List Node}{n:Int}(h:0<=n)(h':n<l.length):Prim.ev (.bn 8 1) [.l (l.map gf),ii n]=some (ii (gt l n).self.aQ):=ke h (cD h h') rfl rfl rfl
theorem aiu{l:List Node}{n:Int}(h:0<=n)(h':n<l.length):Prim.ev (.cell 8 2) [.l (l.map gf),ii n]=some (ii (gt l n).self.net.n):=fF h (cD h h') rfl rfl
theorem aiv{l:List Node}{n:Int}(h:0<=n)(h':n<l.length):Prim.ev (.bn 8 2) [.l (l.map gf),ii n]=some (ii (gt l n).self.net.n):=ke h (cD h h') rfl rfl rfl
theorem aiw{l:List Node}{n:Int}(h:0<=n)(h':n<l.length):Prim.ev (.cell 8 3) [.l (l.map gf),ii n]=some (.l ((gt l n).self.net.ai.map df)):=fF h (cD h h') rfl rfl
theorem aix{l:List Node}{n:Int}(h:0<=n)(h':n<l.length):Prim.ev (.bD 8 3) [.l (l.map gf),ii n]=some (.l ((gt l n).self.net.ai.map df)):=pe h (cD h h') rfl rfl
theorem aiy{l:List Node}{n:Int}(h:0<=n)(h':n<l.length):Prim.ev (.cell 8 4) [.l (l.map gf),ii n]=some (.l ((gt l n).self.net.aB.map dH)):=fF h (cD h h') rfl rfl
theorem aiz{l:List Node}{n:Int}(h:0<=n)(h':n<l.length):Prim.ev (.bD 8 4) [.l (l.map gf),ii n]=some (.l ((gt l n).self.net.aB.map dH)):=pe h (cD h h') rfl rfl
theorem aiA{l:List Node}{n:Int}(h:0<=n)(h':n<l.length):Prim.ev (.cell 8 5) [.l (l.map gf),ii n]=some (.l ((gt l n).self.heard.map aG)):=fF h (cD h h') rfl rfl
theorem aiB{l:List Node}{n:Int}(h:0<=n)(h':n<l.length):Prim.ev (.bD 8 5) [.l (l.map gf),ii n]=some (.l ((gt l n).self.heard.map aG)):=pe h (cD h h') rfl rfl
theorem Tl{l:List Node}{n:Int}(h:0<=n)(h':n<l.length):Prim.ev (.cell 8 6) [.l (l.map gf),ii n]=some (.l ((gt l n).self.store.map aC)):=fF h (cD h h') rfl rfl
theorem aiC{l:List Node}{n:Int}(h:0<=n)(h':n<l.length):Prim.ev (.bD 8 6) [.l (l.map gf),ii n]=some (.l ((gt l n).self.store.map aC)):=pe h (cD h h') rfl rfl
theorem aiD{l:List Node}{n:Int}(h:0<=n)(h':n<l.length):Prim.ev (.cell 8 7) [.l (l.map gf),ii n]=some (.l ((gt l n).gO.map c9)):=fF h (cD h h') rfl rfl
theorem aiE{l:List Node}{n:Int}(h:0<=n)(h':n<l.length):Prim.ev (.bD 8 7) [.l (l.map gf),ii n]=some (.l ((gt l n).gO.map c9)):=pe h (cD h h') rfl rfl
theorem qW_{l m:List Node}(h:l.length+m.length<4294967296):Prim.ev (.app false 8) [.l (l.map gf),.l (m.map gf)]=some (.l ((l++m).map gf)):=qa (w:=8) (λ_=>rfl) (.inl rfl) h
theorem Tm{m:List Node}(h:m.length<4294967296):Prim.ev (.app false 8) [.l [],.l (m.map gf)]=some (.l (m.map gf)):=rh (w:=8) (λ_=>rfl) (.inl rfl) h
theorem aiF{l:List Node}{x:Node}(h:l.length<4294967295):Prim.ev (.app false 8) [.l (l.map gf),.l ([x].map gf)]=some (.l ((l++[x]).map gf)):=qW_ (by simp;omega)
theorem aiG{x:Node}:Prim.ev (.app false 8) [.l [],.l ([x].map gf)]=some (.l ([x].map gf)):=Tm (by simp)
theorem aiH{l:List Node}{a:Int}(h:0<=a)(h':a<=l.length):Prim.ev (.sub 8 true false) [.l (l.map gf),ii a]=some (.l ((l.drop a.toNat).map gf)):=xt (enc:=gf) (w:=8) (λ_=>rfl) h h'
theorem aiI{l:List Node}{a:Int}(h:0<=a)(h':a<=l.length):Prim.ev (.sub 8 false true) [.l (l.map gf),ii a]=some (.l ((l.take a.toNat).map gf)):=xu (enc:=gf) (w:=8) (λ_=>rfl) h h'
theorem JC(v0:Int)(v1:Int)(v2:Int)(v3:List br)(v4:List bO)(v5:List Int)(v6:List ah)(v7:List fR):Prim.ev (.lit 8 [true,true,true,false,false,false,false,false]) [ii v0,ii v1,ii v2,.l (v3.map df),.l (v4.map dH),.l (v5.map aG),.l (v6.map aC),.l (v7.map c9)]=some (.l ([(⟨⟨v0,v1,⟨v2,v3,v4⟩,v5,v6⟩,v7⟩:Node)].map gf)):=n6 (by decide) rfl rfl
theorem aiJ(v0:Int)(v1:Int)(v2:Int)(v3:List br)(v4:List bO)(v5:List Int)(v6:List ah)(v7:List fR):Prim.ev (.lit 8 []) [ii v0,ii v1,ii v2,.l (v3.map df),.l (v4.map dH),.l (v5.map aG),.l (v6.map aC),.l (v7.map c9)]=some (.l ([(⟨⟨v0,v1,⟨v2,v3,v4⟩,v5,v6⟩,v7⟩:Node)].map gf)):=n6 (by decide) rfl rfl
theorem aiK(x:Node):(⟨⟨x.self.id,x.self.aQ,⟨x.self.net.n,x.self.net.ai,x.self.net.aB⟩,x.self.heard,x.self.store⟩,x.gO⟩:Node)=x:=rfl
structure cE where
 kind:Int
 Tn:Int
 to:Int
 ae:Int
 heard:List Int
 list:List ah
 deriving Inhabited
def jE(x:cE):List T:=[ii x.kind,ii x.Tn,ii x.to,ii x.ae,.l (x.heard.map aG),.l (x.list.map aC)]
def BV:List Ty:=[.i .i64,.i .i64,.i .i64,.i .i64,.sl oG,.sl oH]
def To(x:cE):Prop:=fE x.kind∧fE x.Tn∧fE x.to∧fE x.ae∧(x.heard.length<=maxLen∧∀y∈x.heard,Ea y)∧(x.list.length<=maxLen∧∀y∈x.list,rl y)
theorem Tp(x:cE)(h:To x):dG BV (jE x):=by
 obtain⟨h0,h1,h2,h3,h4,h5⟩:=h
 exact lV ⟨_,_,rfl,⟨_,rfl,h0⟩,_,_,rfl,⟨_,rfl,h1⟩,_,_,rfl,⟨_,rfl,h2⟩,_,_,rfl,⟨_,rfl,h3⟩,_,_,rfl,td (by rw[List.length_map];exact h4.1) (n8 Eb h4.2),_,_,rfl,td (by rw[List.length_map];exact h5.1) (n8 Ei h5.2),rfl⟩
def El(x:cE):Nat:=bz vg x.heard+bz nz x.list
theorem Tq(x:cE):kt (jE x)=El x:=by
 simp only[jE,El,fQ,gL,iA,iB,gG,Nat.add_zero,Nat.zero_add,ny Ec,ny Ej]
 try omega
theorem aiL{l:List cE}{n:Int}(h:0<=n)(h':n<l.length):Prim.ev (.cell 6 0) [.l (l.map jE),ii n]=some (ii (gt l n).kind):=fF h (cD h h') rfl rfl
theorem aiM{l:List cE}{n:Int}(h:0<=n)(h':n<l.length):Prim.ev (.bn 6 0) [.l (l.map jE),ii n]=some (ii (gt l n).kind):=ke h (cD h h') rfl rfl rfl
theorem aiN{l:List cE}{n:Int}(h:0<=n)(h':n<l.length):Prim.ev (.cell 6 1) [.l (l.map jE),ii n]=some (ii (gt l n).Tn):=fF h (cD h h') rfl rfl
theorem aiO{l:List cE}{n:Int}(h:0<=n)(h':n<l.length):Prim.ev (.bn 6 1) [.l (l.map jE),ii n]=some (ii (gt l n).Tn):=ke h (cD h h') rfl rfl rfl
theorem aiP{l:List cE}{n:Int}(h:0<=n)(h':n<l.length):Prim.ev (.cell 6 2) [.l (l.map jE),ii n]=some (ii (gt l n).to):=fF h (cD h h') rfl rfl
theorem aiQ{l:List cE}{n:Int}(h:0<=n)(h':n<l.length):Prim.ev (.bn 6 2) [.l (l.map jE),ii n]=some (ii (gt l n).to):=ke h (cD h h') rfl rfl rfl
theorem aiR{l:List cE}{n:Int}(h:0<=n)(h':n<l.length):Prim.ev (.cell 6 3) [.l (l.map jE),ii n]=some (ii (gt l n).ae):=fF h (cD h h') rfl rfl
theorem aiS{l:List cE}{n:Int}(h:0<=n)(h':n<l.length):Prim.ev (.bn 6 3) [.l (l.map jE),ii n]=some (ii (gt l n).ae):=ke h (cD h h') rfl rfl rfl
theorem aiT{l:List cE}{n:Int}(h:0<=n)(h':n<l.length):Prim.ev (.cell 6 4) [.l (l.map jE),ii n]=some (.l ((gt l n).heard.map aG)):=fF h (cD h h') rfl rfl
theorem aiU{l:List cE}{n:Int}(h:0<=n)(h':n<l.length):Prim.ev (.bD 6 4) [.l (l.map jE),ii n]=some (.l ((gt l n).heard.map aG)):=pe h (cD h h') rfl rfl
theorem aiV{l:List cE}{n:Int}(h:0<=n)(h':n<l.length):Prim.ev (.cell 6 5) [.l (l.map jE),ii n]=some (.l ((gt l n).list.map aC)):=fF h (cD h h') rfl rfl
theorem aiW{l:List cE}{n:Int}(h:0<=n)(h':n<l.length):Prim.ev (.bD 6 5) [.l (l.map jE),ii n]=some (.l ((gt l n).list.map aC)):=pe h (cD h h') rfl rfl
theorem Ts{l m:List cE}(h:l.length+m.length<4294967296):Prim.ev (.app false 6) [.l (l.map jE),.l (m.map jE)]=some (.l ((l++m).map jE)):=qa (w:=6) (λ_=>rfl) (.inl rfl) h
theorem Tt{m:List cE}(h:m.length<4294967296):Prim.ev (.app false 6) [.l [],.l (m.map jE)]=some (.l (m.map jE)):=rh (w:=6) (λ_=>rfl) (.inl rfl) h
theorem aiX{l:List cE}{x:cE}(h:l.length<4294967295):Prim.ev (.app false 6) [.l (l.map jE),.l ([x].map jE)]=some (.l ((l++[x]).map jE)):=Ts (by simp;omega)
theorem aiY{x:cE}:Prim.ev (.app false 6) [.l [],.l ([x].map jE)]=some (.l ([x].map jE)):=Tt (by simp)
theorem aiZ{l:List cE}{a:Int}(h:0<=a)(h':a<=l.length):Prim.ev (.sub 6 true false) [.l (l.map jE),ii a]=some (.l ((l.drop a.toNat).map jE)):=xt (enc:=jE) (w:=6) (λ_=>rfl) h h'
theorem ai0{l:List cE}{a:Int}(h:0<=a)(h':a<=l.length):Prim.ev (.sub 6 false true) [.l (l.map jE),ii a]=some (.l ((l.take a.toNat).map jE)):=xu (enc:=jE) (w:=6) (λ_=>rfl) h h'
theorem ai1(v0:Int)(v1:Int)(v2:Int)(v3:Int)(v4:List Int)(v5:List ah):Prim.ev (.lit 6 [true,true,true,true,false,false]) [ii v0,ii v1,ii v2,ii v3,.l (v4.map aG),.l (v5.map aC)]=some (.l ([(⟨v0,v1,v2,v3,v4,v5⟩:cE)].map jE)):=n6 (by decide) rfl rfl
theorem ai2(v0:Int)(v1:Int)(v2:Int)(v3:Int)(v4:List Int)(v5:List ah):Prim.ev (.lit 6 []) [ii v0,ii v1,ii v2,ii v3,.l (v4.map aG),.l (v5.map aC)]=some (.l ([(⟨v0,v1,v2,v3,v4,v5⟩:cE)].map jE)):=n6 (by decide) rfl rfl
theorem ai3(x:cE):(⟨x.kind,x.Tn,x.to,x.ae,x.heard,x.list⟩:cE)=x:=rfl
structure ai4 where
 Tb:Bool
 to:Int
 aH:List Int
 deriving Inhabited
structure auO where
 gone:Bool
 line:ai4
 deriving Inhabited
structure World where
 net:Net
 ai:List Bool
 up:List Bool
 lW:List Int
 nodes:List Node
 jh:List cE
 told:List ah
 errors:Int
 deriving Inhabited
def iW(x:World):List T:=[ii x.net.n,.l (x.net.ai.map df),.l (x.net.aB.map dH),.l (x.ai.map fu),.l (x.up.map fu),.l (x.lW.map aG),.l (x.nodes.map gf),.l (x.jh.map jE),.l (x.told.map aC),ii x.errors]
def ai5:List Ty:=[.i .i64,.sl qb,.sl qw,.sl ri,.sl ri,.sl oG,.sl qc,.sl BV,.sl oH,.i .i64]
def Tu(x:World):Prop:=fE x.net.n∧(x.net.ai.length<=maxLen∧∀y∈x.net.ai,An y)∧(x.net.aB.length<=maxLen∧∀y∈x.net.aB,Ap y)∧(x.ai.length<=maxLen∧∀y∈x.ai,Jr y)∧(x.up.length<=maxLen∧∀y∈x.up,Jr y)∧(x.lW.length<=maxLen∧∀y∈x.lW,Ea y)∧(x.nodes.length<=maxLen∧∀y∈x.nodes,Ek y)∧(x.jh.length<=maxLen∧∀y∈x.jh,To y)∧(x.told.length<=maxLen∧∀y∈x.told,rl y)∧fE x.errors
theorem ai6(x:World)(h:Tu x):dG ai5 (iW x):=by
 obtain⟨h0,h1,h2,h3,h4,h5,h6,h7,h8,h9⟩:=h
 exact lV ⟨_,_,rfl,⟨_,rfl,h0⟩,_,_,rfl,td (by rw[List.length_map];exact h1.1) (n8 Ef h1.2),_,_,rfl,td (by rw[List.length_map];exact h2.1) (n8 Eg h2.2),_,_,rfl,td (by rw[List.length_map];exact h3.1) (n8 Ed h3.2),_,_,rfl,td (by rw[List.length_map];exact h4.1) (n8 Ed h4.2),_,_,rfl,td (by rw[List.length_map];exact h5.1) (n8 Eb h5.2),_,_,rfl,td (by rw[List.length_map];exact h6.1) (n8 Tj h6.2),_,_,rfl,td (by rw[List.length_map];exact h7.1) (n8 Tp h7.2),_,_,rfl,td (by rw[List.length_map];exact h8.1) (n8 Ei h8.2),_,_,rfl,⟨_,rfl,h9⟩,rfl⟩
def As(x:World):Nat:=bz tY x.net.ai+bz tZ x.net.aB+bz Jt x.ai+bz Jt x.up+bz vg x.lW+bz Ar x.nodes+bz El x.jh+bz nz x.told
theorem JD(x:World):kt (iW x)=As x:=by
 simp only[iW,As,fQ,gL,iA,iB,gG,Nat.add_zero,Nat.zero_add,ny Ju,ny Ec,ny Ao,ny Tk,ny Tq,ny Ej,ny Aq]
 try omega
theorem ai7{l:List World}{n:Int}(h:0<=n)(h':n<l.length):Prim.ev (.cell 10 0) [.l (l.map iW),ii n]=some (ii (gt l n).net.n):=fF h (cD h h') rfl rfl
theorem ai8{l:List World}{n:Int}(h:0<=n)(h':n<l.length):Prim.ev (.bn 10 0) [.l (l.map iW),ii n]=some (ii (gt l n).net.n):=ke h (cD h h') rfl rfl rfl
theorem ai9{l:List World}{n:Int}(h:0<=n)(h':n<l.length):Prim.ev (.cell 10 1) [.l (l.map iW),ii n]=some (.l ((gt l n).net.ai.map df)):=fF h (cD h h') rfl rfl
theorem ai_{l:List World}{n:Int}(h:0<=n)(h':n<l.length):Prim.ev (.bD 10 1) [.l (l.map iW),ii n]=some (.l ((gt l n).net.ai.map df)):=pe h (cD h h') rfl rfl
theorem ai'{l:List World}{n:Int}(h:0<=n)(h':n<l.length):Prim.ev (.cell 10 2) [.l (l.map iW),ii n]=some (.l ((gt l n).net.aB.map dH)):=fF h (cD h h') rfl rfl
theorem aja{l:List World}{n:Int}(h:0<=n)(h':n<l.length):Prim.ev (.bD 10 2) [.l (l.map iW),ii n]=some (.l ((gt l n).net.aB.map dH)):=pe h (cD h h') rfl rfl
theorem ajb{l:List World}{n:Int}(h:0<=n)(h':n<l.length):Prim.ev (.cell 10 3) [.l (l.map iW),ii n]=some (.l ((gt l n).ai.map fu)):=fF h (cD h h') rfl rfl
theorem ajc{l:List World}{n:Int}(h:0<=n)(h':n<l.length):Prim.ev (.bD 10 3) [.l (l.map iW),ii n]=some (.l ((gt l n).ai.map fu)):=pe h (cD h h') rfl rfl
theorem ajd{l:List World}{n:Int}(h:0<=n)(h':n<l.length):Prim.ev (.cell 10 4) [.l (l.map iW),ii n]=some (.l ((gt l n).up.map fu)):=fF h (cD h h') rfl rfl
theorem aje{l:List World}{n:Int}(h:0<=n)(h':n<l.length):Prim.ev (.bD 10 4) [.l (l.map iW),ii n]=some (.l ((gt l n).up.map fu)):=pe h (cD h h') rfl rfl
theorem ajf{l:List World}{n:Int}(h:0<=n)(h':n<l.length):Prim.ev (.cell 10 5) [.l (l.map iW),ii n]=some (.l ((gt l n).lW.map aG)):=fF h (cD h h') rfl rfl
theorem ajg{l:List World}{n:Int}(h:0<=n)(h':n<l.length):Prim.ev (.bD 10 5) [.l (l.map iW),ii n]=some (.l ((gt l n).lW.map aG)):=pe h (cD h h') rfl rfl
theorem ajh{l:List World}{n:Int}(h:0<=n)(h':n<l.length):Prim.ev (.cell 10 6) [.l (l.map iW),ii n]=some (.l ((gt l n).nodes.map gf)):=fF h (cD h h') rfl rfl
theorem aji{l:List World}{n:Int}(h:0<=n)(h':n<l.length):Prim.ev (.bD 10 6) [.l (l.map iW),ii n]=some (.l ((gt l n).nodes.map gf)):=pe h (cD h h') rfl rfl
theorem ajj{l:List World}{n:Int}(h:0<=n)(h':n<l.length):Prim.ev (.cell 10 7) [.l (l.map iW),ii n]=some (.l ((gt l n).jh.map jE)):=fF h (cD h h') rfl rfl
theorem ajk{l:List World}{n:Int}(h:0<=n)(h':n<l.length):Prim.ev (.bD 10 7) [.l (l.map iW),ii n]=some (.l ((gt l n).jh.map jE)):=pe h (cD h h') rfl rfl
theorem ajl{l:List World}{n:Int}(h:0<=n)(h':n<l.length):Prim.ev (.cell 10 8) [.l (l.map iW),ii n]=some (.l ((gt l n).told.map aC)):=fF h (cD h h') rfl rfl
theorem ajm{l:List World}{n:Int}(h:0<=n)(h':n<l.length):Prim.ev (.bD 10 8) [.l (l.map iW),ii n]=some (.l ((gt l n).told.map aC)):=pe h (cD h h') rfl rfl
theorem ajn{l:List World}{n:Int}(h:0<=n)(h':n<l.length):Prim.ev (.cell 10 9) [.l (l.map iW),ii n]=some (ii (gt l n).errors):=fF h (cD h h') rfl rfl
theorem ajo{l:List World}{n:Int}(h:0<=n)(h':n<l.length):Prim.ev (.bn 10 9) [.l (l.map iW),ii n]=some (ii (gt l n).errors):=ke h (cD h h') rfl rfl rfl
theorem Tv{l m:List World}(h:l.length+m.length<4294967296):Prim.ev (.app false 10) [.l (l.map iW),.l (m.map iW)]=some (.l ((l++m).map iW)):=qa (w:=10) (λ_=>rfl) (.inl rfl) h
theorem Tw{m:List World}(h:m.length<4294967296):Prim.ev (.app false 10) [.l [],.l (m.map iW)]=some (.l (m.map iW)):=rh (w:=10) (λ_=>rfl) (.inl rfl) h
theorem ajp{l:List World}{x:World}(h:l.length<4294967295):Prim.ev (.app false 10) [.l (l.map iW),.l ([x].map iW)]=some (.l ((l++[x]).map iW)):=Tv (by simp;omega)
theorem ajq{x:World}:Prim.ev (.app false 10) [.l [],.l ([x].map iW)]=some (.l ([x].map iW)):=Tw (by simp)
theorem ajr{l:List World}{a:Int}(h:0<=a)(h':a<=l.length):Prim.ev (.sub 10 true false) [.l (l.map iW),ii a]=some (.l ((l.drop a.toNat).map iW)):=xt (enc:=iW) (w:=10) (λ_=>rfl) h h'
theorem ajs{l:List World}{a:Int}(h:0<=a)(h':a<=l.length):Prim.ev (.sub 10 false true) [.l (l.map iW),ii a]=some (.l ((l.take a.toNat).map iW)):=xu (enc:=iW) (w:=10) (λ_=>rfl) h h'
theorem ajt(v0:Int)(v1:List br)(v2:List bO)(v3:List Bool)(v4:List Bool)(v5:List Int)(v6:List Node)(v7:List cE)(v8:List ah)(v9:Int):Prim.ev (.lit 10 [true,false,false,false,false,false,false,false,false,true]) [ii v0,.l (v1.map df),.l (v2.map dH),.l (v3.map fu),.l (v4.map fu),.l (v5.map aG),.l (v6.map gf),.l (v7.map jE),.l (v8.map aC),ii v9]=some (.l ([(⟨⟨v0,v1,v2⟩,v3,v4,v5,v6,v7,v8,v9⟩:World)].map iW)):=n6 (by decide) rfl rfl
theorem aju(v0:Int)(v1:List br)(v2:List bO)(v3:List Bool)(v4:List Bool)(v5:List Int)(v6:List Node)(v7:List cE)(v8:List ah)(v9:Int):Prim.ev (.lit 10 []) [ii v0,.l (v1.map df),.l (v2.map dH),.l (v3.map fu),.l (v4.map fu),.l (v5.map aG),.l (v6.map gf),.l (v7.map jE),.l (v8.map aC),ii v9]=some (.l ([(⟨⟨v0,v1,v2⟩,v3,v4,v5,v6,v7,v8,v9⟩:World)].map iW)):=n6 (by decide) rfl rfl
theorem ajv(x:World):(⟨⟨x.net.n,x.net.ai,x.net.aB⟩,x.ai,x.up,x.lW,x.nodes,x.jh,x.told,x.errors⟩:World)=x:=rfl
set_option linter.unusedSimpArgs false
set_option linter.defProp false
theorem pz:(∀p:Prop,(p∨p)=p)∧(∀p:Prop,(p∨True)=True)∧(∀p:Prop,(True∨p)=True)∧(∀p:Prop,(p∨False)=p)∧(∀p:Prop,(False∨p)=p)∧(¬True)=False∧(¬False)=True∧(∀a:Int,(a<a)=False):=
 ⟨or_self,or_true,true_or,or_false,false_or,not_true_eq_false,not_false_eq_true,λa=>eq_false (Int.lt_irrefl a)⟩
@[congr] theorem auP {α β:Type} {F:(α->Option β)->α->Option β} {R:Nat} {x y:α} (h:x=y):iter F R x=iter F R y:=by rw[h]
@[congr] theorem auQ {α β:Type} {o o':Option α} {f:α->Option β} (h:o=o'):o.bind f=o'.bind f:=by rw[h]
@[congr] theorem auR {t t':T} {x y:Option (List T)} (h:t=t'):aA t x y=aA t' x y:=by rw[h]
@[congr] theorem auS {k:af} {b:af->Option (List T)}:jn k b=jn k b:=rfl
@[congr] theorem auT {o o':Option (List T)} {k:T->Option (List T)} (h:o=o'):bp o k=bp o' k:=by rw[h]
@[congr] theorem auU {k:T->Option (List T)} {l l':List T} (h:l=l'):ft k l=ft k l':=by rw[h]
@[congr] theorem auV {k:T->T->Option (List T)} {l l':List T} (h:l=l'):ew k l=ew k l':=by rw[h]
@[congr] theorem auW {o o':Option (List T)} {k:T->T->T->Option (List T)} (h:o=o'):lK o k=lK o' k:=by rw[h]
@[congr] theorem auX {k:T->T->T->Option (List T)} {l l':List T} (h:l=l'):ve k l=ve k l':=by rw[h]
@[congr] theorem auY {o o':Option (List T)} {k:T->T->T->T->Option (List T)} (h:o=o'):tl o k=tl o' k:=by rw[h]
@[congr] theorem auZ {k:T->T->T->T->Option (List T)} {l l':List T} (h:l=l'):Jn k l=Jn k l':=by rw[h]
@[congr] theorem au0 {k:T->T->T->T->T->Option (List T)} {l l':List T} (h:l=l'):Gy k l=Gy k l':=by rw[h]
@[congr] theorem au1 {o o':Option (List T)} {k:T->T->T->T->T->T->T->Option (List T)} (h:o=o'):D7 o k=D7 o' k:=by rw[h]
@[congr] theorem au2 {o o':Option (List T)} {k:T->T->T->T->T->T->T->T->Option (List T)} (h:o=o'):sb o k=sb o' k:=by rw[h]
@[congr] theorem au3 {o o':Option (List T)} {k:T->T->T->T->T->T->T->T->T->Option (List T)} (h:o=o'):D8 o k=D8 o' k:=by rw[h]
theorem Tx(b:Bool)(x y:Option (List T)):aA (bb b) x y=if b=true then x else y:=by cases b<;>rfl
theorem ajw:Prim.ev .len [.l []]=some (ii 0):=rfl
theorem ajx(a b:Int)(h:b≠0):Prim.ev (.bin .rem) [ii a,ii b]=some (ii (a.tmod b)):=by
 simp only[Prim.ev,T.val,lD,Option.bind_some,if_true,h,if_false]
theorem ajy(a b:Int):Prim.ev .mx [ii a,ii b]=some (ii (if b>a then b else a)):=rfl
theorem ajz(a b:Int):Prim.ev .mn [ii a,ii b]=some (ii (if b<a then b else a)):=rfl
theorem ajA(a b c d a' b' c' d':Int):Prim.ev (.su [1,1,1,1]) [ii a,ii b,ii c,ii d,ii a',ii b',ii c',ii d']=some (bb (a==a'&&(b==b'&&(c==c'&&(d==d'))))):=by
 simp[Prim.ev,vB,Nq]
theorem ajB(a b c a' b' c':Int)(d d':Bool):Prim.ev (.su [1,1,1,4]) [ii a,ii b,ii c,bb d,ii a',ii b',ii c',bb d']=some (bb (a==a'&&(b==b'&&(c==c'&&(d==d'))))):=by
 simp[Prim.ev,vB,Nq]
theorem ajC{w:Nat}(h:0<w):Prim.ev (.lit w []) []=some (.l []):=by
 simp[Prim.ev,uo,pU,h]
theorem ajD(a b:Int):Prim.ev (.lit 1 [true,true]) [ii a,ii b]=some (.l ([a,b].map aG)):=by simp[Prim.ev,uo,pU,eh,aG]
theorem ajE(a b:Int):Prim.ev (.lit 1 []) [ii a,ii b]=some (.l ([a,b].map aG)):=by simp[Prim.ev,uo,pU,aG]
theorem ajF{l:List Int}{x y:Int}(h:l.length<4294967294):Prim.ev (.app true 1) [.l (l.map aG),.l ([x,y].map aG)]=some (.l ((l++[x,y]).map aG)):=yl (by simp;omega)
theorem ajG(a b:Int):((a==b)=true)=(a=b):=by simp
theorem ajH(a b:Int):((a !=b)=true)=¬(a=b):=by simp
theorem ajI(b:Bool):((!b)=true)=¬(b=true):=by simp
theorem ajJ(a b:Bool):((a !=b)=true)=¬((a=true)=(b=true)):=by cases a<;>cases b<;>simp
theorem ajK(a b:Bool):((a==b)=true)=((a=true)=(b=true)):=by cases a<;>cases b<;>simp
theorem JE(a b:Nat):((a+b:Nat):Int)=(a:Int)+b:=by simp
theorem JF:((1:Nat):Int)=1:=rfl
theorem ajL:((2:Nat):Int)=2:=rfl
theorem ajM:((3:Nat):Int)=3:=rfl
theorem ajN:((5:Nat):Int)=5:=rfl
theorem ajO:((6:Nat):Int)=6:=rfl
theorem ajP:((7:Nat):Int)=7:=rfl
theorem ajQ:((9:Nat):Int)=9:=rfl
theorem JG:((0:Nat):Int)=0:=rfl
theorem xy{α:Type}{p q:Prop} [Decidable p] [Decidable q](h:p↔q)(x y:α):(if p then x else y)=if q then x else y:=by
 by_cases hq:q
 ·rw[if_pos (h.2 hq),if_pos hq]
 ·rw[if_neg (λhp=>hq (h.1 hp)),if_neg hq]
def nA(n:Nat)(p:Nat->Bool):Bool:=(List.range n).all p
theorem cq{n:Nat}{p:Nat->Bool}:nA n p=true↔∀i,i<n->p i=true:=by
 simp[nA]
theorem Au{β σ:Type}{F:(σ->Option β)->σ->Option β}(n:Nat)(st:Nat->σ)(p:Nat->Bool){jy g_:Option β}
  (step:∀i:Nat,(i:Int)<(n:Int)->∀s,F s (st i)=if p i=true then s (st (i+1))else g_)(fin:∀s,F s (st n)=jy){R:Nat}(hR:n<R):
  iter F R (st 0)=if nA n p=true then jy else g_:=by
 classical
 have:∀(d i:Nat),i+d=n->∀R,d<R->iter F R (st i)=if(∀j,i<=j->j<n->p j=true)then jy else g_:=by
  intro d
  induction d with
  |zero=>
   intro i hi R hR
   cases R with
   |zero=>omega
   |succ R=>
    have hi:i=n:=hi
    subst hi
    rw[if_pos (λj h1 h2=>absurd h1 (by omega))]
    exact fin _
  |succ d ih=>
   intro i hi R hR
   cases R with
   |zero=>omega
   |succ R=>
    unfold iter
    rw[step i (by omega)]
    by_cases hp:p i=true
    ·rw[if_pos hp,ih (i+1) (by omega) R (by omega)]
     refine xy ⟨λh j h1 h2=>?_,λh j h1 h2=>h j (by omega) h2⟩ _ _
     rcases Nat.lt_or_ge i j with h3|h3
     ·exact h j h3 h2
     ·have:j=i:=by omega
      subst this;exact hp
    ·rw[if_neg hp,if_neg λh=>hp (h i (Nat.le_refl i) (by omega))]
 rw[this n 0 (by omega) R hR]
 exact xy ⟨λh=>cq.2 λi hi=>h i (Nat.zero_le i) hi,λh j _ h2=>cq.1 h j h2⟩ _ _
def eF{α:Type}(p:α->Bool)(l:List α):Int:=match l.findIdx? p with|some i=>(i:Int)|none=>-1
theorem tv{α:Type}(p:α->Bool)(l:List α):eF p l<l.length:=by
 unfold eF
 cases h:l.findIdx? p with
 |none=>show(-1:Int)<_;omega
 |some i=>
  obtain⟨h1,_⟩:=List.findIdx?_eq_some_iff_getElem.1 h
  show(i:Int)<_;omega
theorem ajR{α:Type}(p:α->Bool)(l:List α):-1<=eF p l:=by
 unfold eF
 cases h:l.findIdx? p with
 |none=>show(-1:Int)<=-1;omega
 |some i=>show(-1:Int)<=(i:Int);omega
theorem t_{α:Type} [Inhabited α](p:α->Bool)(l:List α)(h:0<=eF p l):p (gt l (eF p l))=true:=by
 unfold eF at h⊢
 cases h':l.findIdx? p with
 |none=>rw[h']at h;exact absurd h (by decide)
 |some i=>
  obtain⟨h1,h2,_⟩:=List.findIdx?_eq_some_iff_getElem.1 h'
  show p (gt l (i:Int))=true
  rw[eS h1];exact h2
theorem BW{α:Type}(p:α->Bool)(l:List α):eF p l<0↔∀x∈l,p x=false:=by
 unfold eF
 cases h:l.findIdx? p with
 |none=>
  rw[List.findIdx?_eq_none_iff]at h
  exact⟨λ_=>h,λ_=>by show(-1:Int)<0;decide⟩
 |some i=>
  obtain⟨h1,h2,_⟩:=List.findIdx?_eq_some_iff_getElem.1 h
  refine⟨λh3=>absurd (show(i:Int)<0 from h3) (by omega),λh3=>?_⟩
  rw[h3 _ (List.getElem_mem h1)]at h2
  cases h2
theorem JH{α β σ:Type} [Inhabited α]{F:(σ->Option β)->σ->Option β}(l:List α)(st:Nat->σ)(p:α->Bool)(rp:Int->Option β){kY:Option β}
  (step:∀i:Nat,(i:Int)<(l.length:Int)->∀s,F s (st i)=if p (gt l i)=true then rp i else s (st (i+1)))(fin:∀s,F s (st l.length)=kY){R:Nat}(hR:l.length<R):
  iter F R (st 0)=if eF p l<0 then kY else rp (eF p l):=by
 have:∀(d i:Nat),i+d=l.length->∀R,d<R->iter F R (st i)=(match(l.drop i).findIdx? p with|some k=>rp ((i+k:Nat):Int)|none=>kY):=by
  intro d
  induction d with
  |zero=>
   intro i hi R hR
   cases R with
   |zero=>omega
   |succ R=>
    rw[Nat.add_zero]at hi
    subst hi
    rw[List.drop_length]
    exact fin _
  |succ d ih=>
   intro i hi R hR
   cases R with
   |zero=>omega
   |succ R=>
    have a_:i<l.length:=by omega
    unfold iter
    rw[step i (by omega),List.drop_eq_getElem_cons a_,List.findIdx?_cons,eS a_]
    cases hp:p l[i]with
    |true=>simp
    |false=>
     simp only[dI,if_false]
     rw[ih (i+1) (by omega) R (by omega)]
     cases(l.drop (i+1)).findIdx? p with
     |none=>rfl
     |some k=>simp[Int.add_assoc,Int.add_comm 1]
 have h:=this l.length 0 (by omega) R hR
 rw[h,List.drop_zero]
 unfold eF
 cases l.findIdx? p with
 |none=>rfl
 |some i=>
  show rp ((0+i:Nat):Int)=if(i:Int)<0 then kY else rp (i:Int)
  rw[if_neg (by omega),Nat.zero_add]
theorem Tz{α γ β σ:Type} [Inhabited α]{F:(σ->Option β)->σ->Option β}(l:List α)(st:Nat->γ->σ)(g:γ->α->γ)(out:γ->Option β)(c:γ)(Inv:Nat->γ->Prop)(h0:Inv 0 c)
  (step:∀(i:Nat) c,(i:Int)<(l.length:Int)->Inv i c->Inv (i+1) (g c (gt l i))∧∀s,F s (st i c)=s (st (i+1) (g c (gt l i))))(fin:∀c s,Inv l.length c->F s (st l.length c)=out c){R:Nat}(hR:l.length<R):
  iter F R (st 0 c)=out (l.foldl g c):=by
 have:∀(d i:Nat) (c:γ),i+d=l.length->Inv i c->∀R,d<R->iter F R (st i c)=out ((l.drop i).foldl g c):=by
  intro d
  induction d with
  |zero=>
   intro i c hi hc R hR
   cases R with
   |zero=>omega
   |succ R=>
    rw[Nat.add_zero]at hi
    subst hi
    rw[List.drop_length]
    exact fin _ _ hc
  |succ d ih=>
   intro i c hi hc R hR
   cases R with
   |zero=>omega
   |succ R=>
    have a_:i<l.length:=by omega
    unfold iter
    obtain⟨h1,h2⟩:=step i c (by omega) hc
    rw[h2,List.drop_eq_getElem_cons a_,List.foldl_cons,ih (i+1) _ (by omega) h1 R (by omega),eS a_]
 have h:=this l.length 0 c (by omega) h0 R hR
 simpa using h
theorem ajS{γ β σ:Type}{F:(σ->Option β)->σ->Option β}(n:Nat)(st:Nat->γ->σ)(g:γ->Nat->γ)(out:γ->Option β)(c:γ)(Inv:Nat->γ->Prop)(h0:Inv 0 c)
  (step:∀(i:Nat) c,(i:Int)<(n:Int)->Inv i c->Inv (i+1) (g c i)∧∀s,F s (st i c)=s (st (i+1) (g c i)))(fin:∀c s,Inv n c->F s (st n c)=out c){R:Nat}(hR:n<R):
  iter F R (st 0 c)=out ((List.range n).foldl g c):=by
 have hl:(List.range n).length=n:=List.length_range
 refine Tz (List.range n) st g out c Inv h0 (λi c hi hc=>?_) (λc s hc=>?_) (by rw[hl];exact hR)
 ·rw[hl]at hi
  rw[eS (by rw[hl];omega),List.getElem_range]
  exact step i c hi hc
 ·rw[hl]at hc⊢
  exact fin c s hc
theorem JI{α β:Type}(p:α->Bool)(f:α->β)(l:List α)(acc:List β):l.foldl (λc a=>if p a=true then c++[f a]else c) acc=acc++(l.filter p).map f:=by
 induction l generalizing acc with
 |nil=>simp
 |cons a l ih=>
  rw[List.foldl_cons,ih]
  cases h:p a<;>simp[h,List.filter_cons]
theorem foldl_map{α β:Type}(f:α->β)(l:List α)(acc:List β):l.foldl (λc a=>c++[f a]) acc=acc++l.map f:=by
 induction l generalizing acc with
 |nil=>simp
 |cons a l ih=>rw[List.foldl_cons,ih];simp
theorem BX{β σ:Type}{F:(σ->Option β)->σ->Option β}{R:Nat}{x:σ}(n:Nat)(st:Nat->σ)(p:Nat->Bool){jy g_:Option β}(hx:x=st 0)(hR:n<R)
  (step:∀i:Nat,(i:Int)<(n:Int)->∀s,F s (st i)=if p i=true then s (st (i+1))else g_)(fin:∀s,F s (st n)=jy):
  iter F R x=if nA n p=true then jy else g_:=by rw[hx];exact Au n st p step fin hR
theorem GD{α β σ:Type} [Inhabited α]{F:(σ->Option β)->σ->Option β}{R:Nat}{x:σ}(l:List α)(st:Nat->σ)(p:α->Bool)(rp:Int->Option β){kY:Option β}(hx:x=st 0)(hR:l.length<R)
  (step:∀i:Nat,(i:Int)<(l.length:Int)->∀s,F s (st i)=if p (gt l i)=true then rp i else s (st (i+1)))(fin:∀s,F s (st l.length)=kY):
  iter F R x=if eF p l<0 then kY else rp (eF p l):=by rw[hx];exact JH l st p rp step fin hR
theorem kC{α γ β σ:Type} [Inhabited α]{F:(σ->Option β)->σ->Option β}{R:Nat}{x:σ}(l:List α)(st:Nat->γ->σ)(g:γ->α->γ)(out:γ->Option β)(c:γ)(Inv:Nat->γ->Prop)(hx:x=st 0 c)(hR:l.length<R)(h0:Inv 0 c)
  (step:∀(i:Nat) c,(i:Int)<(l.length:Int)->Inv i c->Inv (i+1) (g c (gt l i))∧∀s,F s (st i c)=s (st (i+1) (g c (gt l i))))(fin:∀c s,Inv l.length c->F s (st l.length c)=out c):
  iter F R x=out (l.foldl g c):=by rw[hx];exact Tz l st g out c Inv h0 step fin hR
theorem rq{γ β σ:Type}{F:(σ->Option β)->σ->Option β}{R:Nat}{x:σ}(n:Nat)(st:Nat->γ->σ)(g:γ->Nat->γ)(out:γ->Option β)(c:γ)(Inv:Nat->γ->Prop)(hx:x=st 0 c)(hR:n<R)(h0:Inv 0 c)
  (step:∀(i:Nat) c,(i:Int)<(n:Int)->Inv i c->Inv (i+1) (g c i)∧∀s,F s (st i c)=s (st (i+1) (g c i)))(fin:∀c s,Inv n c->F s (st n c)=out c):
  iter F R x=out ((List.range n).foldl g c):=by rw[hx];exact ajS n st g out c Inv h0 step fin hR
theorem NY{α γ:Type} [Inhabited α]{l:List α}{g:γ->α->γ}{c:γ}{Inv:Nat->γ->Prop}(h0:Inv 0 c)(step:∀(i:Nat) c,(i:Int)<(l.length:Int)->Inv i c->Inv (i+1) (g c (gt l i))):Inv l.length (l.foldl g c):=by
 have:∀(d i:Nat) (c:γ),i+d=l.length->Inv i c->Inv l.length ((l.drop i).foldl g c):=by
  intro d
  induction d with
  |zero=>intro i c hi hc;rw[Nat.add_zero]at hi;subst hi;rw[List.drop_length];exact hc
  |succ d ih=>
   intro i c hi hc
   have a_:i<l.length:=by omega
   rw[List.drop_eq_getElem_cons a_,List.foldl_cons]
   have:=step i c (by omega) hc
   rw[eS a_]at this
   exact ih (i+1) _ (by omega) this
 have h:=this l.length 0 c (by omega) h0
 simpa using h
theorem TA(n:Nat):(n:Int).tmod 2=((n%2:Nat):Int):=rfl
theorem ek{n:Nat}(h:n<=1048576):n<rounds:=by unfold rounds;omega
def JJ{γ:Type}(ok:Nat->γ->Bool)(g:γ->Nat->γ)(n:Nat)(c:γ):Option γ:=(List.range n).foldl (λo i=>o.bind λc=>if ok i c=true then some (g c i)else none) (some c)
theorem ajT{γ:Type}(ok:Nat->γ->Bool)(g:γ->Nat->γ)(l:List Nat):l.foldl (λo i=>o.bind λc=>if ok i c=true then some (g c i)else none) (none:Option γ)=none:=by
 induction l with
 |nil=>rfl
 |cons i l ih=>exact ih
theorem ajU{γ β σ:Type}{F:(σ->Option β)->σ->Option β}{R:Nat}{x:σ}(n:Nat)(st:Nat->γ->σ)(ok:Nat->γ->Bool)(g:γ->Nat->γ)(out:γ->Option β){g_:Option β}(c:γ)(Inv:Nat->γ->Prop)(hx:x=st 0 c)(hR:n<R)(h0:Inv 0 c)
  (step:∀(i:Nat) c,(i:Int)<(n:Int)->Inv i c->(ok i c=true->Inv (i+1) (g c i))∧∀s,F s (st i c)=if ok i c=true then s (st (i+1) (g c i))else g_)(fin:∀c s,Inv n c->F s (st n c)=out c):
  iter F R x=match JJ ok g n c with|some c=>out c|none=>g_:=by
 subst hx
 have:∀(d i:Nat) (c:γ),i+d=n->Inv i c->∀R,d<R->iter F R (st i c)=match((List.range n).drop i).foldl (λo i=>o.bind λc=>if ok i c=true then some (g c i)else none) (some c)with|some c=>out c|none=>g_:=by
  intro d
  induction d with
  |zero=>
   intro i c hi hc R hR
   cases R with
   |zero=>omega
   |succ R=>
    rw[Nat.add_zero]at hi
    subst hi
    rw[List.drop_eq_nil_iff.2 (by simp)]
    exact fin _ _ hc
  |succ d ih=>
   intro i c hi hc R hR
   cases R with
   |zero=>omega
   |succ R=>
    have a_:i<(List.range n).length:=by simp;omega
    unfold iter
    obtain⟨h1,h2⟩:=step i c (by omega) hc
    rw[h2,List.drop_eq_getElem_cons a_,List.foldl_cons,List.getElem_range]
    cases hp:ok i c with
    |true=>
     simp only[if_true,Option.bind_some,hp]
     exact ih (i+1) _ (by omega) (h1 hp) R (by omega)
    |false=>
     simp only[dI,if_false,Option.bind_some,hp,ajT]
 have h:=this n 0 c (by omega) h0 R hR
 simpa[JJ]using h
theorem TB{α:Type}(p:α->Bool)(l:List α)(acc:List α):l.foldl (λc a=>if p a=true then c++[a]else c) acc=acc++l.filter p:=by
 induction l generalizing acc with
 |nil=>simp
 |cons a l ih=>
  rw[List.foldl_cons,ih]
  cases h:p a<;>simp[h,List.filter_cons]
def ps0:=(aj (aj (aj (aj (@eK T (List T)) (aj trivial @SH)) (aj trivial (aj @afL @afM))) (aj (aj trivial (aj trivial @afN)) (aj @afO (aj @afP trivial)))) (aj (aj (aj trivial (aj trivial trivial)) (aj trivial (aj trivial trivial))) (aj (aj trivial (aj @SI @SJ)) (aj @SK (aj @SL @SM)))))
def ps1:=(aj (aj (aj (aj trivial (aj trivial trivial)) (aj trivial (aj trivial trivial))) (aj (aj trivial (aj trivial trivial)) (aj trivial (aj trivial Tx)))) (aj (aj (aj (λ(p:Prop) (_:Decidable p)=>@decide_eq_true_eq p _) (aj bA Bool.or_eq_true)) (aj ajI (aj ajJ ajK))) (aj (aj ajG (aj ajH @SQ)) (aj ajw (aj @RP @uY)))))
def ps2:=(aj (aj (aj (aj @RR (aj @RS @RT)) (aj @DP (aj @xi @Ab))) (aj (aj @DQ (aj @aeK ajx)) (aj ajy (aj ajz DR)))) (aj (aj (aj RW (aj I4 @Aa)) (aj DO (aj RQ @Jp))) (aj (aj @BR (aj aeX ajA)) (aj ajB (aj @ajC JE)))))
def ps3:=(aj (aj (aj (aj JG (aj JF ajL)) (aj ajM (aj ajN ajO))) (aj (aj ajP (aj ajQ RU)) (aj RV (aj ajD ajE)))) (aj (aj (aj @ajF (aj (λ(k:Nat)=>@Int.toNat_natCast k) (λ(α:Type) (f:α->List T) (l:List α)=>@List.length_map α (List T) l f))) (aj agt (aj agK agY))) (aj (aj ahd (aj ahA ahM)) (aj trivial (aj ah7 aip)))))
def ps4:=(aj (aj (aj (aj aiK (aj ai3 trivial)) (aj trivial (aj ajv @afS))) (aj (aj @afT (aj @afU @afV)) (aj @SR (aj @SS @Ee)))) (aj (aj (aj @afW (aj @yl @SU)) (aj @afX (aj @afY @afZ))) (aj (aj @af0 (aj @af1 @af2)) (aj @af3 (aj @af4 @SW)))))
def ps5:=(aj (aj (aj (aj @SX (aj @af5 @af6)) (aj @Jv (aj @SY @af7))) (aj (aj @af8 (aj @af9 @af_)) (aj @aga (aj @agb @agc)))) (aj (aj (aj @agd (aj @age @agf)) (aj @agh (aj @agi @agk))) (aj (aj @agl (aj @SZ @S0)) (aj @agm (aj @agn @S1)))))
def ps6:=(aj (aj (aj (aj @kV_ (aj @ago @agp)) (aj @agq (aj @ags @agv))) (aj (aj @agw (aj @agx @agy)) (aj @agz (aj @agA @agB)))) (aj (aj (aj @agC (aj @agE @agF)) (aj @S2 (aj @S3 @agG))) (aj (aj @agH (aj @S4 @j9_)) (aj @agI (aj @agJ @agM)))))
def ps7:=(aj (aj (aj (aj @agN (aj @agO @agP)) (aj @agQ (aj @agR @agS))) (aj (aj @agT (aj @S6 @S7)) (aj @agU (aj @agV @agW)))) (aj (aj (aj @agX (aj @ag2 @ag3)) (aj @ag4 (aj @ag5 @ag6))) (aj (aj @ag7 (aj @S9 @S_)) (aj @ag8 (aj @ag9 @S')))))
def ps8:=(aj (aj (aj (aj @Ta (aj @ag_ @aha)) (aj @ahb (aj @ahc @ahe))) (aj (aj @ahf (aj @ahg @ahh)) (aj @ahi (aj @ahj @ahk)))) (aj (aj (aj @ahl (aj @ahm @ahn)) (aj @aho (aj @ahp @ahq))) (aj (aj @ahr (aj @ahs @aht)) (aj @ahv (aj @ahw @Jz)))))
def ps9:=(aj (aj (aj (aj @kS_ (aj @ahx @ahy)) (aj @JA (aj @ahz @ahB))) (aj (aj @ahC (aj @ahD @ahE)) (aj @ahF (aj @ahG @JB)))) (aj (aj (aj @ahH (aj @GA @GC)) (aj @ahI (aj @ahJ @ahK))) (aj (aj @ahL (aj trivial trivial)) (aj trivial (aj trivial trivial)))))
def ajV:=(aj (aj (aj (aj trivial (aj trivial trivial)) (aj trivial (aj trivial trivial))) (aj (aj trivial (aj trivial trivial)) (aj trivial (aj trivial trivial)))) (aj (aj (aj trivial (aj trivial trivial)) (aj @ahN (aj @ahO @ahP))) (aj (aj @ahQ (aj @ahR @ahS)) (aj @ahT (aj @ahU @ahV)))))
def ajW:=(aj (aj (aj (aj @ahW (aj @ahX @ahY)) (aj @ahZ (aj @ah0 @ah1))) (aj (aj @ah2 (aj @Tc @Td)) (aj @ah3 (aj @ah4 @ah5)))) (aj (aj (aj @ah6 (aj @ah_ @ah')) (aj @aia (aj @aib @aic))) (aj (aj @aid (aj @aie @aif)) (aj @aih (aj @aii @Tf)))))
def ajX:=(aj (aj (aj (aj @Tg (aj @aij @aik)) (aj @Th (aj @Ti @ail))) (aj (aj @aim (aj @ain @aio)) (aj @aiq (aj @air @ais)))) (aj (aj (aj @ait (aj @aiu @aiv)) (aj @aiw (aj @aix @aiy))) (aj (aj @aiz (aj @aiA @aiB)) (aj @Tl (aj @aiC @aiD)))))
def ajY:=(aj (aj (aj (aj @aiE (aj @aiF @aiG)) (aj @qW_ (aj @Tm @aiH))) (aj (aj @aiI (aj @JC @aiJ)) (aj @aiL (aj @aiM @aiN)))) (aj (aj (aj @aiO (aj @aiP @aiQ)) (aj @aiR (aj @aiS @aiT))) (aj (aj @aiU (aj @aiV @aiW)) (aj @aiX (aj @aiY @Ts)))))
def ajZ:=(aj (aj (aj (aj @Tt (aj @aiZ @ai0)) (aj @ai1 (aj @ai2 trivial))) (aj (aj trivial (aj trivial trivial)) (aj trivial (aj trivial trivial)))) (aj (aj (aj trivial (aj trivial trivial)) (aj trivial (aj trivial trivial))) (aj (aj trivial (aj trivial trivial)) (aj trivial (aj trivial trivial)))))
def aj0:=(aj (aj (aj (aj trivial (aj trivial trivial)) (aj trivial (aj trivial trivial))) (aj (aj trivial (aj trivial trivial)) (aj trivial (aj trivial @ai7)))) (aj (aj (aj @ai8 (aj @ai9 @ai_)) (aj @ai' (aj @aja @ajb))) (aj (aj @ajc (aj @ajd @aje)) (aj @ajf (aj @ajg @ajh)))))
def aj1:=(aj (aj (aj @aji (aj @ajj @ajk)) (aj (aj @ajl @ajm) (aj @ajn @ajo))) (aj (aj (aj @ajp @ajq) (aj @Tv @Tw)) (aj (aj @ajr @ajs) (aj @ajt @aju))))
def pq:=(aj (aj (aj (aj (aj SG Tx) (aj afl (aj afm afn))) (aj (aj afo (aj afp afq)) (aj afr (aj afs aft)))) (aj (aj (aj afu afv) (aj afw (aj afx afy))) (aj (aj afz (aj afA afB)) (aj afC (aj afD afE))))) (aj (aj (aj (aj afF afG) (aj afH (aj afI afJ))) (aj (aj afK (aj trivial @SI)) (aj @SJ (aj @SK @SL)))) (aj (aj (aj @SM (aj trivial trivial)) (aj trivial (aj trivial trivial))) (aj (aj trivial (aj trivial trivial)) (aj trivial (aj trivial trivial))))))
def pj:=aj afQ trivial
def ps:=(aj (aj (aj (aj ps0 ps1) (aj ps2 ps3)) (aj (aj ps4 ps5) (aj ps6 ps7))) (aj (aj (aj ps8 ps9) (aj ajV ajW)) (aj (aj ajX ajY) (aj ajZ (aj aj0 aj1)))))
def pS:=aj ps pz
def pQ:=aj pq pj
end Go.Proofs.YtjimmglpkndemaaGreatC

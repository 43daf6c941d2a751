/- The walk by reflection: a part of its laws, for any function. Conditions: none. -/
import Derived.Test.YtjimmglpkndemaaGreatKa
import Derived.Laws.Slices
import Derived.Deep.AppendSrc
namespace Go.Proofs.YtjimmglpkndemaaGreatC
set_option linter.unusedVariables false
theorem Ja{xs:List (List T)}{i off:Nat}{r ts:List T}(hr:xs[i]?=some r)(hf:off+ts.length<=r.length)(i' j':Nat):
  dK (setRow xs i off ts) i' j'=if i'=i∧off<=j'∧j'<off+ts.length then ts[j'-off]? else dK xs i' j':=by
 unfold dK setRow
 rw[List.getElem?_modify]
 by_cases hi:i=i'
 ·subst hi
  simp only[hr,if_true,Option.map_eq_map,Option.map_some,Option.bind_some,true_and]
  have hl:(r.take off).length=off:=by simp;omega
  by_cases h1:j'<off
  ·rw[if_neg (by omega),List.append_assoc,List.getElem?_append_left (by omega),List.getElem?_take,if_pos h1]
  ·rw[List.append_assoc,List.getElem?_append_right (by omega),hl]
   by_cases h2:j'<off+ts.length
   ·rw[if_pos ⟨by omega,h2⟩,List.getElem?_append_left (by omega)]
   ·rw[if_neg (by omega),List.getElem?_append_right (by omega),List.getElem?_drop]
    congr 1
    omega
 ·rw[if_neg (by omega:¬(i'=i∧_))]
  cases xs[i']? <;>simp[hi]
theorem CO{xs:List (List T)}{i off:Nat}{ts:List T}:(setRow xs i off ts).length=xs.length:=by simp[setRow]
theorem QO{xs:List (List T)}{i off wd:Nat}{r ts:List T}(hw:∀r∈xs,r.length=wd)(hr:xs[i]?=some r)(hf:off+ts.length<=r.length):
  ∀r∈setRow xs i off ts,r.length=wd:=by
 intro r' iN
 obtain⟨n,hn⟩:=List.getElem?_of_mem iN
 unfold setRow at hn
 rw[List.getElem?_modify]at hn
 by_cases hi:i=n
 ·subst hi
  simp only[hr,if_true,Option.map_eq_map,Option.map_some,br]at hn
  have:=hw r (List.mem_of_getElem? hr)
  subst hn
  simp
  omega
 ·simp only[if_neg hi]at hn
  cases hx:xs[n]? with
  |none=>simp[hx]at hn
  |some r''=>simp[hx]at hn;subst hn;exact hw _ (List.mem_of_getElem? hx)
theorem eX.sib{G:Gh}{w w':World}{id:Nat}{p:List (Nat×Nat)}{t:T}{dp:Bool}(h:eX G w id dp p t)(gA:dp=true)
  (hh:∀c q,G.ω c=some (.o id (p++q))->w'.heap[c]?=w.heap[c]?):eX G w' id dp p t:=by
 induction h with
 |nil h=>exact .nil h
 | @l dp p xs b wd cap bT elem cv h1 h2 h3 h4 h5 h6 h7 h8 h9 nz wE ih=>
  refine .l h1 h2 h3 ((hh b [] (by simpa using h3)).trans h4) h5 h6 h7 h8 (λi j ys hy hd=>by rw[gA]at hd;cases hd) nz λi j ys hy hd=>?_
  exact ih i j ys hy hd rfl λc q hc=>hh c ((i,j)::q) (by simpa using hc)
theorem eX.put{G:Gh}{w w':World}{id:Nat}{dp:Bool}{p:List (Nat×Nat)}{xs:List (List T)}{b n cap:Nat}(h:eX G w id dp p (.l xs))
  (hH:G.H id p=.slice (some ⟨b,0,none⟩) n cap)(Jb:qt (.o id p)=false){i off:Nat}{r ts:List T}{vs:List Value}(hr:xs[i]?=some r)(hf:off+ts.length<=r.length)(hl:vs.length=ts.length)
  {bT:Array Value}{elem:TypeId}(hb:w.heap[b]?=some (.cells bT elem (0,0)))
  (jz:w'.heap[b]?=some (.cells (bT.toList.take (i*r.length+off)++vs++bT.toList.drop (i*r.length+off+vs.length)).toArray elem (0,0)))
  (hs:w'.heap.size=w.heap.size)(hh:∀c,c≠b->w'.heap[c]?=w.heap[c]?)
  (hd:∀(j:Nat) (t:T) (v:Value),ts[j]?=some t->vs[j]?=some v->eM G.q w' t v)(l9:dp=true->ts.all eA=true):eX G w' id dp p (.l (setRow xs i off ts)):=by
 cases h with
 |nil HB=>rw[hH]at HB;cases HB
 | @l _ _ _ b2 wd Jc aw7 av3 cv h1 h2 h3 h4 h5 h6 h7 h8 h9 nz wE=>
  rw[hH]at h1
  cases h1
  rw[hb]at h4
  cases h4
  have hrl:r.length=wd:=h6 r (List.mem_of_getElem? hr)
  rw[hrl]at jz
  have QP:i<xs.length:=(List.getElem?_eq_some_iff.1 hr).1
  have kY:i*wd+off+vs.length<=bT.size:=by
   rw[h5]
   have:(i+1)*wd<=cap*wd:=Nat.mul_le_mul_right _ (by omega)
   rw[Nat.add_mul]at this
   omega
  have pK:∀c,c<w.heap.size->G.q c=none->G.q c=none∧w'.heap[c]?=w.heap[c]?:=λc _ hc=>⟨hc,hh c λe=>by subst e;exact vt h3 Jb hc⟩
  let rH:Nat->Nat->Value:=λi' j'=>if i'=i∧off<=j'∧j'<off+ts.length then vs.getD (j'-off) undef else cv i' j'
  have bE:=Ja hr hf
  have pL:∀i' j',j'<wd->(bT.toList.take (i*wd+off)++vs++bT.toList.drop (i*wd+off+vs.length)).toArray[i'*wd+j']? =
    if i'=i∧off<=j'∧j'<off+ts.length then vs[j'-off]? else bT[i'*wd+j']?:=by
   intro i' j' uN
   rw[List.getElem?_toArray,<-jP_ _ _ _ kY,Array.getElem?_toList,OW _ _ _ _ kY]
   have key:(i*wd+off<=i'*wd+j'∧i'*wd+j'<i*wd+off+vs.length)↔(i'=i∧off<=j'∧j'<off+ts.length):=by
    constructor
    ·rintro⟨g1,g2⟩
     have:i'=i:=by
      rcases Nat.lt_trichotomy i' i with be|he|Jd
      ·have:(i'+1)*wd<=i*wd:=Nat.mul_le_mul_right _ be
       rw[Nat.add_mul]at this
       omega
      ·exact he
      ·have:(i+1)*wd<=i'*wd:=Nat.mul_le_mul_right _ Jd
       rw[Nat.add_mul]at this
       omega
     subst this
     exact⟨rfl,by omega,by omega⟩
    ·rintro⟨rfl,g1,g2⟩
     exact⟨by omega,by omega⟩
   by_cases hc:i'=i∧off<=j'∧j'<off+ts.length
   ·rw[if_pos (key.2 hc),if_pos hc]
    congr 1
    obtain⟨rfl,_,_⟩:=hc
    omega
   ·rw[if_neg (λg=>hc (key.1 g)),if_neg hc]
  have inn:∀i' j' t,dK (setRow xs i off ts) i' j'=some t->(i'=i∧off<=j'∧j'<off+ts.length)->∃v,vs[j'-off]?=some v∧rH i' j'=v∧eM G.q w' t v:=by
   intro i' j' t ht hc
   rw[bE,if_pos hc]at ht
   have be:j'-off<vs.length:=by omega
   refine⟨vs[j'-off],List.getElem?_eq_getElem be,?_,hd _ _ _ ht (List.getElem?_eq_getElem be)⟩
   simp[rH,hc,List.getD,List.getElem?_eq_getElem be]
  have out:∀i' j' t,dK (setRow xs i off ts) i' j'=some t->¬(i'=i∧off<=j'∧j'<off+ts.length)->dK xs i' j'=some t∧rH i' j'=cv i' j':=by
   intro i' j' t ht hc
   rw[bE,if_neg hc]at ht
   exact⟨ht,by simp only[rH,if_neg hc]⟩
  have wI:∀i' j' t,dK (setRow xs i off ts) i' j'=some t->(i'=i∧off<=j'∧j'<off+ts.length)->dp=true->eA t=true:=by
   intro i' j' t ht hc gA
   rw[bE,if_pos hc]at ht
   exact List.all_eq_true.1 (l9 gA) t (List.mem_of_getElem? ht)
  refine .l (cv:=rH) (b:=b) (wd:=wd) (cap:=cap) (elem:=elem) (by rw[hH,CO]) (by rw[CO];exact⟨h2.1,λhe=>h2.2 (List.eq_nil_of_length_eq_zero (by rw[<-CO,he];rfl))⟩) h3 jz ?_ (QO h6 hr hf) ?_ ?_ ?_ ?_ ?_
  ·rw[List.size_toArray,<-jP_ _ _ _ kY,Array.length_toList,OV];exact h5
  ·intro i' j' t ht
   have uN:j'<wd:=by
    obtain⟨r',iN,iB,_,_,be⟩:=wD ht
    have:=QO h6 hr hf r' iB
    omega
   rw[pL i' j' uN]
   by_cases hc:i'=i∧off<=j'∧j'<off+ts.length
   ·obtain⟨v,g1,g2,_⟩:=inn i' j' t ht hc
    rw[if_pos hc,g1,g2]
   ·obtain⟨g1,g2⟩:=out i' j' t ht hc
    rw[if_neg hc,g2]
    exact h7 i' j' t g1
  ·intro i' j' v ht
   by_cases hc:i'=i∧off<=j'∧j'<off+ts.length
   ·obtain⟨u,g1,g2,g3⟩:=inn i' j' _ ht hc
    obtain⟨e,hs⟩:=g3.scalar
    exact⟨g2.trans e,hs⟩
   ·obtain⟨g1,g2⟩:=out i' j' _ ht hc
    rw[g2];exact h8 i' j' v g1
  ·intro i' j' ys ht gA
   by_cases hc:i'=i∧off<=j'∧j'<off+ts.length
   ·obtain⟨u,g1,g2,g3⟩:=inn i' j' _ ht hc
    rw[g2];exact g3
   ·obtain⟨g1,g2⟩:=out i' j' _ ht hc
    rw[g2];exact(h9 i' j' ys g1 gA).aY (by omega) pK
  ·intro i' j' ys ht gA
   by_cases hc:i'=i∧off<=j'∧j'<off+ts.length
   ·have:=wI i' j' _ ht hc gA
    simp[eA]at this
   ·obtain⟨g1,g2⟩:=out i' j' _ ht hc
    rw[g2];exact nz i' j' ys g1 gA
  ·intro i' j' ys ht gA
   by_cases hc:i'=i∧off<=j'∧j'<off+ts.length
   ·have:=wI i' j' _ ht hc gA
    simp[eA]at this
   ·obtain⟨g1,g2⟩:=out i' j' _ ht hc
    refine(wE i' j' ys g1 gA).sib rfl λc q Je=>hh c λe=>?_
    subst e
    rw[h3]at Je
    simp at Je
def mX:List (Nat×Nat)->T->T->Option T
 | [],_,u=>some u
 |(i,j)::p,.l xs,u=>(dK xs i j).bind λs=>(mX p s u).bind λs'=>some (.l (setRow xs i j [s']))
 |_,_,_=>none
theorem aeJ:∀{p:List (Nat×Nat)} {t:T} {ys:List (List T)},iw p t=some (.l ys)->∃xs,t=.l xs
 | [],t,ys,h=>by simp[iw]at h;exact⟨ys,h⟩
 |(i,j)::p,.l xs,ys,h=>⟨xs,rfl⟩
 |(i,j)::p,.c v,ys,h=>by simp[iw]at h
theorem aeK:∀{p:List (Nat×Nat)} {t t':T} {zs:List (List T)},mX p t (.l zs)=some t'->∃xs,t'=.l xs
 | [],t,t',zs,h=>by simp[mX]at h;exact⟨zs,h.symm⟩
 |(i,j)::p,.l xs,t',zs,h=>by
  simp only[mX,cG,br]at h
  obtain⟨s,hs,s',D4,rfl⟩:=h
  exact⟨_,rfl⟩
 |(i,j)::p,.c v,t',zs,h=>by simp[mX]at h
theorem eX.mX{G:Gh}{w w':World}{id b:Nat}(hh:∀c,c≠b->w'.heap[c]?=w.heap[c]?):∀{p p0:List (Nat×Nat)} {t t':T} {ys zs:List (List T)},
  eX G w id true p0 t->iw p t=some (.l ys)->mX p t (.l zs)=some t'->G.ω b=some (.o id (p0++p))->eX G w' id true (p0++p) (.l zs)->eX G w' id true p0 t'
 | [],p0,t,t',ys,zs,h,hd,hb,gV,hs=>by
  simp only[Go.Proofs.YtjimmglpkndemaaGreatC.mX,br]at hb
  subst hb
  simpa using hs
 |(i,j)::p,p0,t,t',ys,zs,h,hd,hb,gV,hs=>by
  cases h with
  |nil hH=>simp[iw,dK]at hd
  | @l _ _ xs b2 wd cap bT elem cv h1 h2 h3 h4 h5 h6 h7 h8 h9 nz wE=>
   simp only[iw,cG]at hd
   obtain⟨s,mN,nM⟩:=hd
   simp only[Go.Proofs.YtjimmglpkndemaaGreatC.mX,mN,Option.bind_some,cG,br]at hb
   obtain⟨s',D4,rfl⟩:=hb
   obtain⟨us,rfl⟩:=aeJ nM
   obtain⟨us',rfl⟩:=aeK D4
   have ih:=eX.mX hh (p:=p) (p0:=p0++[(i,j)]) (wE i j us mN rfl) nM D4 (by simpa using gV) (by simpa using hs)
   obtain⟨r,hr,iB,HC,_,hjl⟩:=wD mN
   have hf:j+[T.l us'].length<=r.length:=by simp;omega
   have dk:b2≠b:=by intro e;subst e;rw[h3]at gV;simp at gV
   have bE:∀i' j',dK (setRow xs i j [T.l us']) i' j'=if i'=i∧j'=j then some (T.l us')else dK xs i' j':=by
    intro i' j'
    rw[Ja hr hf]
    by_cases hc:i'=i∧j'=j
    ·obtain⟨rfl,rfl⟩:=hc
     rw[if_pos ⟨rfl,Nat.le_refl _,by simp⟩,if_pos ⟨rfl,rfl⟩];simp
    ·rw[if_neg (by simp only[List.length_singleton];omega),if_neg hc]
   refine .l (cv:=cv) (by rw[CO];exact h1) (by rw[CO];exact⟨h2.1,λhe=>h2.2 (List.eq_nil_of_length_eq_zero (by rw[<-CO,he];rfl))⟩) h3 ((hh b2 dk).trans h4) h5 (QO h6 hr hf) ?_ ?_ (λi' j' ys' ht jB=>by cases jB) ?_ ?_
   ·intro i' j' t ht
    rw[bE]at ht
    split at ht
    ·rename_i hc;obtain⟨rfl,rfl⟩:=hc;exact h7 _ _ _ mN
    ·exact h7 _ _ _ ht
   ·intro i' j' v ht
    rw[bE]at ht
    split at ht
    ·cases ht
    ·exact h8 _ _ _ ht
   ·intro i' j' ys' ht _
    rw[bE]at ht
    split at ht
    ·rename_i hc;obtain⟨rfl,rfl⟩:=hc;exact nz _ _ _ mN rfl
    ·exact nz _ _ _ ht rfl
   ·intro i' j' ys' ht _
    rw[bE]at ht
    split at ht
    ·rename_i hc;obtain⟨rfl,rfl⟩:=hc;cases ht;exact ih
    ·rename_i hc
     refine(wE i' j' ys' ht rfl).sib rfl λc q Je=>hh c λe=>?_
     subst e
     rw[gV]at Je
     simp at Je
     exact hc ⟨Je.1.1.symm,Je.1.2.symm⟩
section
variable {S:Nat->af} {ρ:List T}
theorem Wk.rI:∀(q:mJ) (k:Wk) (x y:Lf),k.eP (k.up x y q).1
 | [],k,x,y=>.refl k
 |(ix,w,j)::q,k,x,y=>by
  simp only[Wk.up]
  exact((Wk.bF k _ _).trans (Wk.rI q _ _ _)).trans (Wk.bF _ _ _)
theorem Wk.vA:∀(q:mJ) (k:Wk) (x y:Lf),(k.up x y q).1.bA S ρ->k.bA S ρ
 | [],_,_,_,h=>h
 |(ix,w,j)::q,k,x,y,h=>by
  simp only[Wk.up]at h
  exact(Wk.bO (Wk.vA q _ _ _ (Wk.bO h).1)).1
theorem aeM{x ix z:Lf}{w j i:Nat}{xs:List (List T)}{t u:T}(hx:x.fE ρ=some (.l xs))(hi:lI ρ ix=some i)(hz:z.fE ρ=some u)
  (h:Prim.ev (.jd w j) [x.ev ρ,ix.ev ρ,z.ev ρ]=some t):t=.l (setRow xs i j [u]):=by
 obtain⟨k,hk⟩:=xM hi
 rw[Lf.bM hx,hk,Lf.bM hz]at h
 simp only[Prim.ev,Ac,T.rows,T.int,Option.bind_some,Int.toNat_natCast]at h
 cases hr:xs[i]? with
 |none=>simp[hr]at h
 |some r=>
  simp only[hr,Option.bind_some]at h
  split at h
  ·split at h
   ·simp only[br]at h;exact h.symm
   ·cases h
  ·cases h
theorem Wk.wJ:∀(q:mJ) (k:Wk) (x y:Lf) {t:T} {zs:List (List T)} {p:List (Nat×Nat)},(k.up x y q).1.bA S ρ->x.fE ρ=some t->y.fE ρ=some (.l zs)->gD ρ q=some p->
  (q=[]∨∃xs,t=.l xs)->∃t',mX p t (.l zs)=some t'∧(k.up x y q).2.fE ρ=some t'
 | [],k,x,y,t,zs,p,h,hx,hy,hp,_=>by
  simp only[gD]at hp
  cases hp
  exact⟨.l zs,rfl,hy⟩
 |(ix,w,j)::q,k,x,y,t,zs,p,h,hx,hy,hp,ht=>by
  simp only[Wk.up]at h⊢
  obtain⟨xs,rfl⟩:=ht.resolve_left (by simp)
  simp only[gD]at hp
  cases hi:lI ρ ix with
  |none=>simp[hi]at hp
  |some i=>
   cases hq:gD ρ q with
   |none=>simp[hi,hq]at hp
   |some p'=>
    simp[hi,hq]at hp
    subst hp
    obtain⟨h2,t',jA,jg⟩:=Wk.bO h
    obtain⟨_,u,hu,huv⟩:=Wk.bO (Wk.vA q _ _ _ h2)
    obtain⟨ys,rfl,bE,_⟩:=DT hx hi hu
    obtain⟨v,hv,sA⟩:=Wk.wJ q _ _ _ h2 huv hy hq (.inr ⟨ys,rfl⟩)
    have:=aeM hx hi sA jA
    subst this
    exact⟨_,by simp[mX,bE,hv],jg⟩
end
section
variable {M:Nat->Prop} {B:eI} {d:Nat} {up:Nat->Nat->Value} {ρ:List T} {G:Gh} {a:Act} {w:World} {S:Nat->af} {P:Program}
variable {cx:Cx} {cC eW oi:Nat} {s:St} {R:List bn} {ct:Ct} {k':Wk} {o:Oper} {Q:Exit->Act->World->Prop}
theorem jd_{t:Nat}{ti:TI}(hT:td P t ti){b off:Nat}{v:Value}(hl:v.cells.size=ti.sz){bT:Array Value}{elem:TypeId}
  (hb:w.heap[b]?=some (.cells bT elem (0,0)))(hf:off+v.cells.size<=bT.size)(h1:∀u∈v.cells.toList,u.oneCell'=true):
  (Instr.storeAt t (.pointer (some ⟨b,off,none⟩)) v).run P w=.ok () (w.setRow b (bT.toList.take off++v.cells.toList++bT.toList.drop (off+v.cells.toList.length)).toArray):=by
 obtain⟨i,z,hi,hs,_,_,_⟩:=hT.info
 have cm:=run_storeCells_at (P:=P) b off elem v.cells.toList 0 bT w hb (by simpa using hf) h1
 simp only[Nat.add_zero]at cm
 simp[Instr.storeAt,Instr.sureAddr,storeVar,sizeOf,typeInfo,hi,hs,hl]
 simpa[hl]using cm
theorem Jf(w:World)(b:Nat)(cs:Array Value):jk w (w.setRow b cs):=⟨rfl,rfl,rfl⟩
theorem HD(w:World)(b:Nat)(cs:Array Value):(w.setRow b cs).heap.size=w.heap.size:=by simp[World.setRow]
theorem QQ{b:Nat}{l:Lb}(hl:G.ω b=some l)(Jb:qt l=false)(cs:Array Value){I:Lb->Prop}(hI:I l){N:Nat->Prop}:di I N G w G (w.setRow b cs):=by
 refine⟨by rw[HD];exact Nat.le_refl _,λc _ hc=>⟨hc,setRow_other _ _ _ _ λe=>?_⟩,λc _ hc=>hc,λc l' hc hn=>⟨hc,setRow_other _ _ _ _ λe=>?_⟩,λ_ _=>⟨rfl,λ_ _=>rfl⟩⟩
 ·subst e;exact vt hl Jb hc
 ·subst e;rw[hl]at hc;cases hc;exact hn hI
theorem D5{t:Nat}{x y:Operand}(ho:o.op=.store t x y){w':World}(h:(Instr.storeAt t (a.eval x) (a.eval y)).run P w=.ok () w'):
  (execOp a.eval o).run P w=.ok .skip w':=by
 unfold execOp
 rw[ho]
 show Sem.run P (do Instr.storeAt t (a.eval x) (a.eval y);pure Next.skip) w=_
 rw[Sem.run_bind,h];rfl
theorem aeN(dT:eu P cx)(h:Rel M B d up s ρ G a w)(hn:∀n,o.dst=some n->n<a.tmps.size){t:Nat}{x y:Operand}(ho:o.op=.store t x y)
  {bx off:Nat}(hx:ch d (Wk.get ⟨s.only R,[],ct,[]⟩) x=.pt bx off)
  (hk:∃k1,storeAt cx ⟨s.only R,[],ct,[]⟩ t (ch d (Wk.get ⟨s.only R,[],ct,[]⟩) x) (ch d (Wk.get ⟨s.only R,[],ct,[]⟩) y)=some k1∧bX d o k1 .un=k'):bJ P M B d up ρ a w s o k'.w Q∧k'.ct.i=ct.i:=by
 have hw:=dh.start h R ct
 obtain⟨k1,cm,hk⟩:=hk
 have cK:bX d o k1 .un=k':=hk
 subst cK
 simp only[storeAt,hx,cG]at cm
 obtain⟨ti,fJ,cs,kg,cm⟩:=cm
 cases hl:Nat.beq cs.length ti.sz with
 |false=>simp[hl]at cm
 |true=>
  simp only[hl,cond_true]at cm
  have hlen:=dN hl
  obtain⟨hr,hm⟩:=hw.iy y
  obtain⟨wG,_⟩:=hw.iy x
  rw[hx]at wG
  unfold cellsOf at kg
  split at kg
  ·rename_i ag es0 dV
   cases kg
   rw[dV]at hr hm
   have sD:=QJ hr
   split at cm
   ·rename_i ag0 xA hold
    cases hle:Nat.ble (off+cs.length) xA.length with
    |false=>simp[hle]at cm
    |true=>
     simp only[hle,cond_true,br]at cm
     subst cm
     have kY:=Nat.le_of_ble_eq_true hle
     have uK:=hw.rel.bx bx
     rw[<-Wk.aS,hold]at uK
     obtain⟨gV,bT,elem,hb,HE⟩:=uK
     have pi:=sD.length
     have x_:=HE.length
     simp only[Array.length_toList]at pi x_
     have eB:=jd_ (w:=w) (dT.ty _ _ fJ) (v:=a.eval y) (by rw[<-pi];exact hlen) hb (off:=off) (by omega) (λu hu=>sD.one u hu)
     have lc:=HE.gk off sD
     have D3:=QH xA cs off
     have hmo:∀i∈dF xA,M i:=λi hi=>hw.rel.fQ (.x bx) i (by rw[<-Wk.aS,hold];exact hi)
     have hmM:∀i∈dF (gk xA off cs),M i:=λi hi=>(D3 i hi).elim (hmo i) (hm i)
     refine⟨?_,by rw[mM];rfl⟩
     have hK:di (oA (fi d o .un++[(.x bx,.v ag0 (gk xA off cs))])) (λ_=>False) G w G
       (w.setRow (G.β bx) (bT.toList.take off++(a.eval y).cells.toList++bT.toList.drop (off+(a.eval y).cells.toList.length)).toArray):=by
      refine QQ gV rfl _ ?_
      show St.look _ (bn.x bx)≠none
      rw[l_,uL];simp
     simp only[bJ,Oper.wp,D5 ho (by rw[show a.eval x=_ from wG];exact eB),Oper.upon]
     refine⟨G,I7 h hw (W2:=fi d o .un++[(.x bx,.v ag0 (gk xA off cs))]) (xY (W2:=[(.x bx,.v ag0 (gk xA off cs))]) λr=>by exact uM r)
      hK (λi hi=>hi.elim) (λi hi=>hi) (λn oG=>I9 oG) (Jf _ _ _) ?_,Af _ _ _⟩
     refine⟨λe n u he hl=>?_,λb u hl=>?_,λi u hl=>?_,λr u hl i hi=>?_,λi hi=>?_,λb l hb=>?_⟩
     ·rcases k_ hl with⟨n',iA,e1,rfl⟩|hl
      ·trivial
      ·rcases jI hl with⟨e1,_⟩|hl
       ·cases e1
       ·cases hl
     ·rcases k_ hl with⟨n',iA,e1,rfl⟩|hl
      ·cases e1
      ·rcases jI hl with⟨e1,rfl⟩|hl
       ·cases e1
        refine⟨gV,_,elem,setRow_heap w _ bT _ elem _ hb,?_⟩
        exact lc.aY hK λi _ hf=>hf
       ·cases hl
     ·rcases k_ hl with⟨n',iA,e1,rfl⟩|hl
      ·cases e1
      ·rcases jI hl with⟨e1,rfl⟩|hl
       ·cases e1
       ·cases hl
     ·rcases k_ hl with⟨n',iA,e1,rfl⟩|hl
      ·simp[de]at hi
      ·rcases jI hl with⟨e1,rfl⟩|hl
       ·exact hmM i hi
       ·cases hl
     ·have:∀r:bn,(r=.x i∨r=.o i)->St.look (fi d o .un++[(bn.x bx,SV.v ag0 (gk xA off cs))]) r≠none->i=bx:=by
       intro r hr hl
       obtain⟨u,hu⟩:=Option.ne_none_iff_exists'.1 hl
       rcases k_ hu with⟨n',iA,e1,rfl⟩|hl
       ·rcases hr with rfl|rfl<;>cases e1
       ·rcases jI hl with⟨e1,rfl⟩|hl
        ·rcases hr with rfl|rfl
         ·cases e1;rfl
         ·cases e1
        ·cases hl
      have hMb:M bx:=hw.rel.key bx (.inl (by rw[<-Wk.aS,hold];simp))
      rcases hi with hi|hi
      ·rw[this _ (.inl rfl) hi];exact hMb
      ·rw[this _ (.inr rfl) hi];exact hMb
     ·rw[HD];exact h.ia b l hb
   ·cases cm
  ·cases kg
def ew(ω:Nat->Option Lb)(w:World):List T->List Value->Prop
 | [],[]=>True
 |t::ts,v::vs=>eM ω w t v∧ew ω w ts vs
 |_,_=>False
theorem ew.length{ω:Nat->Option Lb}:∀{ts:List T} {vs:List Value},ew ω w ts vs->ts.length=vs.length
 | [],[],_=>rfl
 | [],_::_,h=>h.elim
 |_::_,[],h=>h.elim
 |_::ts,_::vs,h=>by simp[ew.length h.2]
theorem ew.get{ω:Nat->Option Lb}:∀{ts:List T} {vs:List Value},ew ω w ts vs->∀(j:Nat) (t:T) (v:Value),ts[j]?=some t->vs[j]?=some v->eM ω w t v
 | [],[],_,j,t,v,h,_=>by simp at h
 | [],_::_,h,_,_,_,_,_=>h.elim
 |_::_,[],h,_,_,_,_,_=>h.elim
 |t::ts,v::vs,h,0,_,_,h1,h2=>by simp at h1 h2;subst h1 h2;exact h.1
 |t::ts,v::vs,h,j+1,_,_,h1,h2=>ew.get h.2 j _ _ (by simpa using h1) (by simpa using h2)
theorem ew.eA{ω vu:Nat->Option Lb}{w':World}:∀{ts:List T} {vs:List Value},ew ω w ts vs->ts.all eA=true->ew vu w' ts vs
 | [],[],_,_=>trivial
 | [],_::_,h,_=>h.elim
 |_::_,[],h,_=>h.elim
 |t::ts,v::vs,h,hs=>by
  simp only[List.all_cons,bk]at hs
  refine⟨?_,ew.eA h.2 hs.2⟩
  obtain⟨u,rfl⟩:=xV hs.1
  obtain⟨rfl,hu⟩:=h.1.scalar
  exact .c hu
theorem ew.aY{ω vu:Nat->Option Lb}{w':World}(hs:w.heap.size<=w'.heap.size)(hf:∀b,b<w.heap.size->ω b=none->vu b=none∧w'.heap[b]?=w.heap[b]?):
  ∀{ts:List T} {vs:List Value},ew ω w ts vs->ew vu w' ts vs
 | [],[],_=>trivial
 | [],_::_,h=>h.elim
 |_::_,[],h=>h.elim
 |t::ts,v::vs,h=>⟨h.1.aY hs hf,ew.aY hs hf h.2⟩
def Aq(k:Wk)(cs:List Ce):Prop:=∀id∈dF cs,∃pv x,k.get (.o id)=.fz pv x
theorem Wk.qV{k k1:Wk}{c:Ce}{x:Lf}{G1:Gh}{v:Value}(h:k.val c=some (k1,x))(hr:fT G1 w ρ c v)(hk:dh M B d up ρ G a w k G1)(hf:Aq k [c]):
  ∃t,x.fE ρ=some t∧eM G1.q w t v:=by
 cases c with
 |p y=>simp[Wk.val]at h;obtain⟨_,rfl⟩:=h;exact hr
 |n=>simp[Wk.val]at h;obtain⟨_,rfl⟩:=h;cases hr;exact⟨_,rfl,.nil⟩
 |d=>simp[Wk.val]at h
 |o id q=>
  obtain⟨pv,y,hy⟩:=hf id (by simp[dF])
  have ei:=hk.obj id
  obtain⟨p,hp,rfl⟩:=hr
  simp only[Wk.val,hy]at h
  rw[hy]at ei
  split at h
  ·simp at h
   obtain⟨_,rfl⟩:=h
   simp only[l7]at hp
   cases hp
   exact⟨_,ei.choose_spec.1,ei.choose_spec.2.1⟩
  ·cases h
theorem Wk.gK:∀{cs:List Ce} {k k1:Wk} {xs:List Lf},k.je cs=some (k1,xs)->k.eP k1
 | [],k,k1,xs,h=>by simp[Wk.je]at h;obtain⟨rfl,_⟩:=h;exact .refl _
 |c::cs,k,k1,xs,h=>by
  simp only[Wk.je,cG,br,Prod.mk.injEq]at h
  obtain⟨⟨k2,x⟩,h1,⟨k3,ys⟩,h2,rfl,rfl⟩:=h
  exact(Wk.dO h1).trans (Wk.gK h2)
theorem Wk.ld:∀{cs:List Ce} {k k1:Wk} {xs:List Lf},k.je cs=some (k1,xs)->k1.bA S ρ->k.bA S ρ
 | [],k,k1,xs,h,hd=>by simp[Wk.je]at h;obtain⟨rfl,_⟩:=h;exact hd
 |c::cs,k,k1,xs,h,hd=>by
  simp only[Wk.je,cG,br,Prod.mk.injEq]at h
  obtain⟨⟨k2,x⟩,h1,⟨k3,ys⟩,h2,rfl,rfl⟩:=h
  exact Wk.lJ h1 (Wk.ld h2 hd)
theorem Wk.gL:∀{cs:List Ce} {k k1:Wk} {xs:List Lf} {G1:Gh} {vs:List Value},k.je cs=some (k1,xs)->k1.bA S ρ->aX G1 w ρ cs vs->dh M B d up ρ G a w k G1->
  ∃ts,xs.map (Lf.ev ρ)=ts∧ew (er G1.ω) w ts vs∧(Aq k cs->ew G1.q w ts vs)∧xs.length=vs.length
 | [],k,k1,xs,G1,vs,h,hd,hr,hk=>by
  simp[Wk.je]at h
  obtain⟨_,rfl⟩:=h
  cases vs with
  |nil=>exact⟨[],rfl,trivial,λ_=>trivial,rfl⟩
  |cons _ _=>exact hr.elim
 |c::cs,k,k1,xs,G1,[],h,hd,hr,hk=>hr.elim
 |c::cs,k,k1,xs,G1,v::vs,h,hd,hr,hk=>by
  simp only[Wk.je,cG,br,Prod.mk.injEq]at h
  obtain⟨⟨k2,x⟩,h1,⟨k3,ys⟩,h2,rfl,rfl⟩:=h
  have hs:=Wk.dO h1
  obtain⟨ts,e1,e2,e3,e4⟩:=Wk.gL h2 hd hr.2 (hk.same hs)
  obtain⟨t,ht,l8⟩:=Wk.kV h1 (Wk.ld h2 hd) hr.1 λid _=>hk.obj id
  refine⟨t::ts,by simp[e1,Lf.bM ht],⟨l8,e2⟩,λhf=>⟨?_,e3 λid gS=>?_⟩,by simp[e4]⟩
  ·obtain⟨t',jA,mh⟩:=Wk.qV h1 hr.1 hk λid gS=>hf id (by rw[xL];exact List.mem_append_left _ gS)
   rw[ht]at jA
   cases jA
   exact mh
  ·rw[hs.get]
   exact hf id (by rw[xL];exact List.mem_append_right _ gS)
theorem dh.et:∀{cs:List Ce} {k k1:Wk} {G1:Gh},dh M B d up ρ G a w k G1->k.et cs=some k1->
  ∃G2,dh M B d up ρ G a w k1 G2∧G2.β=G1.β∧G2.H=G1.H∧k1.ct=k.ct∧k1.is=k.is∧Aq k1 cs∧(∀id pv x,k.get (.o id)=.fz pv x->k1.get (.o id)=.fz pv x)∧
   (∀id dp x,k1.get (.o id)=.ob dp x->k.get (.o id)=.ob dp x)
 | [],k,k1,G1,h,hk=>by
  simp[Wk.et]at hk
  subst hk
  exact⟨G1,h,rfl,rfl,rfl,rfl,(λ_ h=>by cases h),(λ_ _ _ h=>h),λ_ _ _ h=>h⟩
 |c::cs,k,k1,G1,h,hk=>by
  cases c with
  |o id q=>
   simp only[Wk.et,cG]at hk
   obtain⟨k2,h1,h2⟩:=hk
   obtain⟨G2,g1,g2,g3,g4,g5,g6⟩:=h.lQ h1
   obtain⟨G3,f1,f2,f3,f4,f5,f6,f7,f8⟩:=dh.et g1 h2
   have tl:∃pv x,k2.get (.o id)=.fz pv x:=by
    unfold Wk.lQ at h1
    split at h1
    ·rename_i dp x hx;cases h1;exact⟨.z,x,by simp[Wk.get,Wk.set,St.bg]⟩
    ·rename_i pv x hx;cases h1;exact⟨pv,x,hx⟩
    ·cases h1
   have Ar:∀i,i≠id->k2.get (.o i)=k.get (.o i):=by
    intro i hi
    unfold Wk.lQ at h1
    split at h1
    ·cases h1;simp only[Wk.get,Wk.set];rw[St.cz _ _ (by simpa using Ne.symm hi)]
    ·cases h1;rfl
    ·cases h1
   have QR:∀pv x,k.get (.o id)=.fz pv x->k2.get (.o id)=.fz pv x:=by
    intro pv x hx
    unfold Wk.lQ at h1
    rw[hx]at h1
    cases h1
    exact hx
   refine⟨G3,f1,f2.trans g2,f3.trans g3,f4.trans g5,f5.trans g6,?_,?_,?_⟩
   ·intro i hi
    rw[xL]at hi
    rcases List.mem_append.1 hi with hi|hi
    ·simp[dF]at hi
     subst hi
     obtain⟨pv,x,hx⟩:=tl
     exact⟨pv,x,f7 _ _ _ hx⟩
    ·exact f6 i hi
   ·intro i pv x hx
    refine f7 i pv x ?_
    by_cases hi:i=id
    ·subst hi;exact QR pv x hx
    ·rw[Ar i hi];exact hx
   ·intro i dp x hx
    have:=f8 i dp x hx
    by_cases hi:i=id
    ·subst hi;obtain⟨pv,y,hy⟩:=tl;rw[hy]at this;cases this
    ·rwa[Ar i hi]at this
  |p x=>
   obtain⟨G2,g1,g2,g3,g4,g5,g6,g7⟩:=dh.et h (show k.et cs=some k1 from hk)
   exact⟨G2,g1,g2,g3,g4,g5,by intro i hi;rw[xL]at hi;exact g6 i (by simpa[dF]using hi),g7⟩
  |n=>
   obtain⟨G2,g1,g2,g3,g4,g5,g6,g7⟩:=dh.et h (show k.et cs=some k1 from hk)
   exact⟨G2,g1,g2,g3,g4,g5,by intro i hi;rw[xL]at hi;exact g6 i (by simpa[dF]using hi),g7⟩
  |d=>
   obtain⟨G2,g1,g2,g3,g4,g5,g6,g7⟩:=dh.et h (show k.et cs=some k1 from hk)
   exact⟨G2,g1,g2,g3,g4,g5,by intro i hi;rw[xL]at hi;exact g6 i (by simpa[dF]using hi),g7⟩
theorem QS{k:Wk}{G1:Gh}(h:Rel M B d up s ρ G a w)(hk:dh M B d up ρ G a w k G1)(hn:∀n,o.dst=some n->n<a.tmps.size){id b:Nat}{p:List (Nat×Nat)}{dp:Bool}{y:Lf}
  {t':T}{cells:Array Value}(gV:G1.ω b=some (.o id p))(Jb:p=[]∨id%2=1)(rJ:id%4≠2)(hy:y.fE ρ=some t')(bI:eX G1 (w.setRow b cells) id dp [] t')
  (hx:(execOp a.eval o).run P w=.ok .skip (w.setRow b cells)):bJ P M B d up ρ a w s o (bX d o (k.set (.o id) (.ob dp y)) .un).w Q:=by
 have hM:M id:=(hk.rel.ia b _ gV).1
 have hK:di (oA (fi d o .un++[(.o id,.ob dp y)])) (λ_=>False) G1 w G1 (w.setRow b cells):=by
  refine QQ gV (IM (ρ:=ρ) Jb rJ) _ ?_
  show St.look _ (bn.o id)≠none
  rw[l_,uL];simp
 simp only[bJ,Oper.wp,hx,Oper.upon]
 refine⟨G1,I7 h hk (W2:=fi d o .un++[(.o id,.ob dp y)]) (xY (W2:=[(.o id,.ob dp y)]) λr=>by exact uM r)
  hK (λi hi=>hi.elim) (λi hi=>hi) (λn oG=>I9 oG) (Jf _ _ _) ?_,Af _ _ _⟩
 refine⟨λe n u he hl=>?_,λb u hl=>?_,λi u hl=>?_,λr u hl i hi=>?_,λi hi=>?_,λb l hb=>?_⟩
 ·rcases k_ hl with⟨n',iA,e1,rfl⟩|hl
  ·trivial
  ·rcases jI hl with⟨e1,_⟩|hl
   ·cases e1
   ·cases hl
 ·rcases k_ hl with⟨n',iA,e1,rfl⟩|hl
  ·cases e1
  ·rcases jI hl with⟨e1,rfl⟩|hl
   ·cases e1
   ·cases hl
 ·rcases k_ hl with⟨n',iA,e1,rfl⟩|hl
  ·cases e1
  ·rcases jI hl with⟨e1,rfl⟩|hl
   ·cases e1
    exact⟨t',hy,bI⟩
   ·cases hl
 ·rcases k_ hl with⟨n',iA,e1,rfl⟩|hl
  ·simp[de]at hi
  ·rcases jI hl with⟨e1,rfl⟩|hl
   ·simp[de]at hi
   ·cases hl
 ·have:∀r:bn,(r=.x i∨r=.o i)->St.look (fi d o .un++[(bn.o id,SV.ob dp y)]) r≠none->i=id:=by
   intro r hr hl
   obtain⟨u,hu⟩:=Option.ne_none_iff_exists'.1 hl
   rcases k_ hu with⟨n',iA,e1,rfl⟩|hl
   ·rcases hr with rfl|rfl<;>cases e1
   ·rcases jI hl with⟨e1,rfl⟩|hl
    ·rcases hr with rfl|rfl
     ·cases e1
     ·cases e1;rfl
    ·cases hl
  rcases hi with hi|hi
  ·rw[this _ (.inl rfl) hi];exact hM
  ·rw[this _ (.inr rfl) hi];exact hM
 ·rw[HD];exact hk.rel.ia b l hb
theorem QT{x ix:Lf}{sc:Bool}{wd off n i:Nat}{xs:List (List T)}{ts:List T}{t:T}(hx:x.fE ρ=some (.l xs))(hi:lI ρ ix=some i)
  (h:Prim.ev (.put sc wd off n) (x.ev ρ::ix.ev ρ::ts)=some t):∃r,xs[i]?=some r∧r.length=wd∧off+ts.length<=r.length∧(sc=true->ts.all eA=true)∧t=.l (setRow xs i off ts):=by
 obtain⟨k,hk⟩:=xM hi
 rw[Lf.bM hx,hk]at h
 simp only[Prim.ev,Ac,T.rows,T.int,Option.bind_some,Int.toNat_natCast]at h
 cases hr:xs[i]? with
 |none=>simp[hr]at h
 |some r=>
  simp only[hr,Option.bind_some]at h
  split at h
  ·rename_i g1
   split at h
   ·rename_i g2
    split at h
    ·rename_i g3
     split at h
     ·rename_i g4
      simp only[br]at h
      refine⟨r,rfl,g1,by omega,λhs=>?_,h.symm⟩
      subst hs
      simpa using g4
     ·cases h
    ·cases h
   ·cases h
  ·cases h
theorem Wk.cg(k:Wk)(r:bn)(v:SV):(k.set r v).get r=v:=by
 simp[Wk.get,Wk.set,St.bg]
theorem aeO(dT:eu P cx)(h:Rel M B d up s ρ G a w)(hn:∀n,o.dst=some n->n<a.tmps.size){t:Nat}{x y:Operand}(ho:o.op=.store t x y)
  {id:Nat}{q:mJ}{ix:Lf}{wd off:Nat}(hx:ch d (Wk.get ⟨s.only R,[],ct,[]⟩) x=.ep id q ix wd off)
  (hk:∃k1,storeAt cx ⟨s.only R,[],ct,[]⟩ t (ch d (Wk.get ⟨s.only R,[],ct,[]⟩) x) (ch d (Wk.get ⟨s.only R,[],ct,[]⟩) y)=some k1∧bX d o k1 .un=k')(hd:k'.bA S ρ):bJ P M B d up ρ a w s o k'.w Q∧k'.ct.i=ct.i:=by
 have hw:=dh.start h R ct
 obtain⟨k1,cm,hk⟩:=hk
 have cK:bX d o k1 .un=k':=hk
 subst cK
 have fx:=cL.1 hd
 simp only[storeAt,hx,cG]at cm
 obtain⟨ti,fJ,cs,kg,cm⟩:=cm
 cases hl:Nat.beq cs.length ti.sz with
 |false=>simp[hl]at cm
 |true=>
  simp only[hl,cond_true]at cm
  have hlen:=dN hl
  obtain⟨hr,hm⟩:=hw.iy y
  obtain⟨wG,_⟩:=hw.iy x
  rw[hx]at wG
  obtain⟨p,b,n,cap,i,hp,hH,hi,jl,jg⟩:=wG
  unfold cellsOf at kg
  split at kg
  ·rename_i ag es0 dV
   cases kg
   rw[dV]at hr hm
   have sD:=QJ hr
   have pi:=sD.length
   cases rJ:Nat.beq (id%4) 2 with
   |true=>simp[rJ]at cm
   |false=>
   have rJ:id%4≠2:=λe=>by rw[e]at rJ;cases rJ
   simp only[show Nat.beq (id%4) 2=false from(by cases hb:Nat.beq (id%4) 2 with|false=>rfl|true=>exact absurd (dN hb) rJ),cond_false]at cm
   cases hN:ti.zero.any fB with
   |true=>
    simp only[hN,cond_true]at cm
    split at cm
    ·simp only[l7,br]at hp
     subst hp
     simp only[cG]at cm
     obtain⟨k2,wK,k3,ya,⟨k4,xs⟩,o7,cm⟩:=cm
     obtain⟨G2,w2,e1,e2,e3,e4,e5⟩:=hw.flat wK
     obtain⟨G3,w3,f1,f2,f4,f5,f6,f7,f8⟩:=w2.et ya
     have D6:=Wk.gK o7
     have w4:=w3.same D6
     simp only at cm
     split at cm
     ·rename_i dp0 z hz
      simp only[br]at cm
      subst cm
      have ei:=w4.obj id
      rw[hz]at ei
      obtain⟨tt,zm,bI⟩:=ei
      have oB:(k4.em (.put false wd off xs.length) (z::ix::xs)).1.bA S ρ:=fx
      obtain⟨HA,t',kt,CP⟩:=Wk.bO oB
      have QU:G3.H id []=.slice (some ⟨b,0,none⟩) n cap:=by rw[f2,e2];exact hH
      have aeP:aX G3 w ρ cs (a.eval y).cells.toList:=by
       have k3:di (oA k3.w) (λ_=>False) G w G3 w:=w3.aY
       exact sD.aY k3 λ_ _ hf=>hf
      obtain⟨ts,g1,_,g3,g4⟩:=Wk.gL o7 HA aeP w3
      simp only[List.map_cons]at kt
      rw[g1]at kt
      obtain⟨rows,rfl⟩:∃ys,tt=.l ys:=by cases bI<;>exact⟨_,rfl⟩
      obtain⟨r,oE,qE,CQ,_,rfl⟩:=QT zm hi kt
      have D7:=g3 λj hj=>f6 j hj
      have As:=D7.length
      have gA:dp0=false:=by
       have h3:k3.get (.o id)=.ob dp0 z:=by rw[<-D6.get];exact hz
       have h2:=f8 _ _ _ h3
       unfold Wk.flat at wK
       split at wK
       ·cases wK;rw[Wk.cg]at h2;cases h2;rfl
       ·rename_i z2 sB;cases wK;rw[sB]at h2;cases h2
       ·cases wK
      subst gA
      have tq:∃bT elem,G3.ω b=some (.o id [])∧w.heap[b]?=some (.cells bT elem (0,0))∧(i*wd+off)+(a.eval y).cells.size<=bT.size:=by
       cases bI with
       |nil HB=>rw[QU]at HB;cases HB
       | @l _ _ _ b2 CR Jc bT elem cv h1 h2 h3 h4 h5 h6 _ _ _ _ _=>
        rw[QU]at h1
        cases h1
        refine⟨bT,elem,h3,h4,?_⟩
        have qp:CR=wd:=by rw[<-qE];exact(h6 r (List.mem_of_getElem? oE)).symm
        subst qp
        rw[h5]
        have:(i+1)*CR<=cap*CR:=Nat.mul_le_mul_right _ (by omega)
        rw[Nat.add_mul]at this
        simp only[Array.length_toList]at As
        omega
      obtain⟨bT,elem,gV,hb,kY⟩:=tq
      have eB:=jd_ (P:=P) (w:=w) (dT.ty _ _ fJ) (v:=a.eval y) (by simp only[Array.length_toList]at pi;rw[<-pi];exact hlen) hb (off:=i*wd+off) kY (λu hu=>sD.one u hu)
      have pJ:=bI.put (w':=w.setRow b (bT.toList.take (i*wd+off)++(a.eval y).cells.toList++bT.toList.drop (i*wd+off+(a.eval y).cells.toList.length)).toArray)
       QU (DO rJ) oE CQ As.symm hb (by rw[qE];exact setRow_heap w _ bT _ elem _ hb) (HD _ _ _) (λc hc=>setRow_other _ _ _ _ hc)
       (ew.get (D7.aY (by rw[HD];exact Nat.le_refl _) λc _ hc=>⟨hc,setRow_other _ _ _ _ λe=>by subst e;exact vt gV (DO rJ) hc⟩)) (λhf=>by cases hf)
      refine⟨QS h (w4.same (Wk.bF _ _ _)) hn (gV:=gV) (Jb:=.inl rfl) (rJ:=rJ) (hy:=CP) (bI:=pJ) (D5 ho (by rw[jg];exact eB)),?_⟩
      rw[mM]
      show k4.ct.i=ct.i
      rw[D6.i,f4,e4]
     ·cases cm
    ·cases cm
   |false=>
    simp only[hN,cond_false,cG]at cm
    obtain⟨⟨k4,xs⟩,o7,cm⟩:=cm
    have D6:=Wk.gK o7
    have w4:=hw.same D6
    simp only at cm
    split at cm
    ·rename_i dp z hz
     cases hdq:(dp||q.isEmpty)with
     |false=>simp[hdq]at cm
     |true=>
      simp only[hdq,cond_true,br]at cm
      subst cm
      have ei:=w4.obj id
      rw[hz]at ei
      obtain⟨tt,zm,bI⟩:=ei
      obtain⟨rows,rfl⟩:∃ys,tt=.l ys:=by cases bI<;>exact⟨_,rfl⟩
      have hdu:(Wk.up ((k4.down z q).1.em (.put true wd off xs.length) ((k4.down z q).2::ix::xs)).1 z ((k4.down z q).1.em (.put true wd off xs.length) ((k4.down z q).2::ix::xs)).2 q).1.bA S ρ:=fx
      have aeQ:=Wk.vA _ _ _ _ hdu
      obtain⟨oG,t',kt,CP⟩:=Wk.bO aeQ
      obtain⟨u,hu,hzu,Qq⟩:=Wk.iJ q k4 z oG zm (ta hp) (.inr ⟨_,rfl⟩)
      obtain⟨ys,rfl⟩:∃ys,u=.l ys:=by
       rcases Qq with rfl|h'
       ·simp only[l7]at hp;cases hp;simp[iw]at hu;exact⟨rows,hu.symm⟩
       ·exact h'
      obtain⟨ts,g1,g2,_,g4⟩:=Wk.gL o7 (Wk.kU q _ _ oG) sD hw
      simp only[List.map_cons]at kt
      rw[g1]at kt
      obtain⟨r,oE,qE,CQ,l9,rfl⟩:=QT hzu hi kt
      obtain⟨t2,Ak,hy2⟩:=Wk.wJ q _ z _ hdu zm CP (ta hp) (.inr ⟨_,rfl⟩)
      have D7:ew G.q (w.setRow b #[]) ts (a.eval y).cells.toList:=g2.eA (l9 rfl)
      have As:=g2.length
      have kX:eX G w id dp p (.l ys):=by
       cases dp with
       |true=>simpa using eX.dJ p bI hu ⟨ys,rfl⟩
       |false=>
        have hq:q=[]:=by simpa using hdq
        subst hq
        simp only[l7]at hp
        cases hp
        simp[iw]at hu
        subst hu
        exact bI
      have tq:∃bT elem,G.ω b=some (.o id p)∧w.heap[b]?=some (.cells bT elem (0,0))∧(i*wd+off)+(a.eval y).cells.size<=bT.size:=by
       cases kX with
       |nil HB=>rw[hH]at HB;cases HB
       | @l _ _ _ b2 CR Jc bT elem cv h1 h2 h3 h4 h5 h6 _ _ _ _ _=>
        rw[hH]at h1
        cases h1
        refine⟨bT,elem,h3,h4,?_⟩
        have qp:CR=wd:=by rw[<-qE];exact(h6 r (List.mem_of_getElem? oE)).symm
        subst qp
        rw[h5]
        have:(i+1)*CR<=cap*CR:=Nat.mul_le_mul_right _ (by omega)
        rw[Nat.add_mul]at this
        simp only[Array.length_toList]at As
        omega
      obtain⟨bT,elem,gV,hb,kY⟩:=tq
      have eB:=jd_ (P:=P) (w:=w) (dT.ty _ _ fJ) (v:=a.eval y) (by simp only[Array.length_toList]at pi;rw[<-pi];exact hlen) hb (off:=i*wd+off) kY (λu hu=>sD.one u hu)
      have pJ:=kX.put (w':=w.setRow b (bT.toList.take (i*wd+off)++(a.eval y).cells.toList++bT.toList.drop (i*wd+off+(a.eval y).cells.toList.length)).toArray)
       hH (IM (ρ:=ρ) (DP hp) rJ) oE CQ As.symm hb (by rw[qE];exact setRow_heap w _ bT _ elem _ hb) (HD _ _ _) (λc hc=>setRow_other _ _ _ _ hc)
       (ew.get (g2.eA (l9 rfl))) (λ_=>l9 rfl)
      have QV:eX G (w.setRow b (bT.toList.take (i*wd+off)++(a.eval y).cells.toList++bT.toList.drop (i*wd+off+(a.eval y).cells.toList.length)).toArray) id dp [] t2:=by
       cases dp with
       |true=>exact eX.mX (λc hc=>setRow_other _ _ _ _ hc) bI hu Ak (by simpa using gV) (by simpa using pJ)
       |false=>
        have hq:q=[]:=by simpa using hdq
        subst hq
        simp only[l7]at hp
        cases hp
        simp only[mX,br]at Ak
        subst Ak
        exact pJ
      refine⟨QS h (((w4.same (Wk.ff q _ _)).same (Wk.bF _ _ _)).same (Wk.rI q _ _ _)) hn (gV:=gV) (Jb:=DP hp) (rJ:=rJ) (hy:=hy2) (bI:=QV) (D5 ho (by rw[jg];exact eB)),?_⟩
      rw[mM]
      show(Wk.up _ z _ q).1.ct.i=ct.i
      rw[(Wk.rI q _ _ _).i,(Wk.bF _ _ _).i,(Wk.ff q _ _).i,D6.i]
    ·cases cm
  ·cases kg
theorem aeR(dT:eu P cx)(h:Rel M B d up s ρ G a w)(hn:∀n,o.dst=some n->n<a.tmps.size){t:Nat}{x y:Operand}(ho:o.op=.store t x y)
  (hk:∃k1,storeAt cx ⟨s.only R,[],ct,[]⟩ t (ch d (Wk.get ⟨s.only R,[],ct,[]⟩) x) (ch d (Wk.get ⟨s.only R,[],ct,[]⟩) y)=some k1∧bX d o k1 .un=k')(hd:k'.bA S ρ):bJ P M B d up ρ a w s o k'.w Q∧k'.ct.i=ct.i:=by
 cases hx:ch d (Wk.get ⟨s.only R,[],ct,[]⟩) x with
 |pt bx off=>exact aeN dT h hn ho hx hk
 |ep id q ix wd off=>exact aeO dT h hn ho hx hk hd
 |_=>
  exfalso
  obtain⟨k1,hk,_⟩:=hk
  simp only[storeAt,hx,cG]at hk
  obtain⟨ti,_,cs,_,h1⟩:=hk
  cases hb:Nat.beq cs.length ti.sz<;>simp[hb]at h1
theorem Jg{xs:List (List T)}{l h:Nat}{i j:Nat}{t:T}(ht:dK ((xs.take h).drop l) i j=some t):dK xs (l+i) j=some t:=by
 unfold dK at ht⊢
 rw[List.getElem?_drop,List.getElem?_take]at ht
 split at ht
 ·exact ht
 ·simp at ht
theorem eM.sub{ω:Nat->Option Lb}{xs:List (List T)}{ao:Option Addr}{n cap l h sz:Nat}(hd:eM ω w (.l xs) (.slice ao n cap))(vB:l<=h)(hh:h<=xs.length)(dQ:okW sz xs=true):
  eM ω w (.l ((xs.take h).drop l)) (sliced ao l h cap sz):=by
 unfold sliced
 by_cases he:l=h
 ·subst he
  have:(xs.take l).drop l=[]:=by simp
  rw[this,Nat.sub_self]
  exact .nil
 ·cases hd with
  |nil=>simp at hh;omega
  | @l _ b off wd _ cv hw hc hb be h1 h2=>
   have dk:¬(cap=l):=by omega
   have hlen:((xs.take h).drop l).length=h-l:=by simp;omega
   have gY:sz=wd:=by
    cases xs with
    |nil=>simp at hh;omega
    |cons r xs=>rw[<-hw r (by simp)];exact(dN dQ).symm
   subst gY
   rw[if_neg dk]
   simp only[Option.map_some,Addr.add_lit]
   rw[<-hlen]
   refine .l (cv:=λi j=>cv (l+i) j) (λr hr=>hw r (List.mem_of_mem_take (List.mem_of_mem_drop hr))) (by rw[hlen];omega) hb be (λi j t ht=>?_) λi j t ht=>h2 _ _ _ (Jg ht)
   have:=h1 _ _ _ (Jg ht)
   rw[Nat.add_mul]at this
   rw[show off+l*sz+(i*sz+j)=off+(l*sz+i*sz+j) by omega]
   exact this
def o9(k:Wk)(f:Operand->SV):Option Operand->Option (Wk×List Lf)
 |none=>some (k,[])
 |some l=>(k.one (f l)).bind λr=>some (r.1,[r.2])
theorem D8{k k1:Wk}{G1:Gh}(hk:dh M B d up ρ G a w k G1){lo:Option Operand}{ls:List Lf}{f:Operand->SV}(hf:∀x,lo=some x->cD G1 w ρ (f x) (a.eval x))
  (h:o9 k f lo=some (k1,ls))(hd:k1.bA S ρ):
  k.bA S ρ∧k.eP k1∧((lo=none∧ls=[])∨∃x y t,lo=some x∧ls=[y]∧y.ev ρ=t∧eM (er G1.ω) w t (a.eval x)):=by
 cases lo with
 |none=>
  simp only[o9,br,Prod.mk.injEq]at h
  obtain⟨rfl,rfl⟩:=h
  exact⟨hd,.refl _,.inl ⟨rfl,rfl⟩⟩
 |some x=>
  simp only[o9,cG,br,Prod.mk.injEq]at h
  obtain⟨⟨k2,y⟩,h1,rfl,rfl⟩:=h
  obtain⟨e1,e2,t,e3,e4⟩:=Wk.gW hk h1 hd (hf x rfl)
  exact⟨e1,e2,.inr ⟨x,y,t,rfl,rfl,Lf.bM e3,e4⟩⟩
theorem Au{ω:Nat->Option Lb}{k:IntKind}{n:Int}{v:Value}(h:eM ω w (.c (.int k n)) v):v=.int k n:=h.scalar.1
theorem Jh{ω:Nat->Option Lb}{lo hi:Option Operand}{ls hs:List Lf}{n:Nat}{r:T}{F:Int->Int->Option T}
  (nN:(lo=none∧ls=[])∨∃x y t,lo=some x∧ls=[y]∧y.ev ρ=t∧eM ω w t (a.eval x))(vC:(hi=none∧hs=[])∨∃x y t,hi=some x∧hs=[y]∧y.ev ρ=t∧eM ω w t (a.eval x))
  (h:((match lo.isSome,hi.isSome,(ls++hs).map (Lf.ev ρ)with
   |false,false,[]=>some ((0:Int),(n:Int))
   |true,false,[.c (.int _ l)]=>some (l,(n:Int))
   |false,true,[.c (.int _ h)]=>some (0,h)
   |true,true,[.c (.int _ l),.c (.int _ h)]=>some (l,h)
   |_,_,_=>none).bind λb=>F b.1 b.2)=some r):
  ∃l h:Int,F l h=some r∧((lo.map a.eval=none∧l=0)∨∃k,lo.map a.eval=some (.int k l))∧((hi.map a.eval=none∧h=n)∨∃k,hi.map a.eval=some (.int k h)):=by
 rcases nN with⟨rfl,rfl⟩|⟨x,y,t,rfl,rfl,ht,l8⟩
 ·rcases vC with⟨rfl,rfl⟩|⟨x',y',t',rfl,rfl,jA,mh⟩
  ·simp at h
   exact⟨0,n,h,.inl ⟨rfl,rfl⟩,.inl ⟨rfl,rfl⟩⟩
  ·simp only[Option.isSome_none,Option.isSome_some,List.nil_append,List.map_cons,List.map_nil,jA]at h
   cases t' with
   |l _=>simp at h
   |c v=>cases v with
    |int k m=>
     simp at h
     have:=Au mh
     exact⟨0,m,h,.inl ⟨rfl,rfl⟩,.inr ⟨k,by simp[this]⟩⟩
    |_=>simp at h
 ·cases t with
  |l _=>rcases vC with⟨rfl,rfl⟩|⟨x',y',t',rfl,rfl,jA,mh⟩<;>simp[ht]at h
  |c v=>cases v with
   |int k m=>
    have e1:=Au l8
    rcases vC with⟨rfl,rfl⟩|⟨x',y',t',rfl,rfl,jA,mh⟩
    ·simp[ht]at h
     exact⟨m,n,h,.inr ⟨k,by simp[e1]⟩,.inl ⟨rfl,rfl⟩⟩
    ·simp only[Option.isSome_some,List.cons_append,List.nil_append,List.map_cons,List.map_nil,ht,jA]at h
     cases t' with
     |l _=>simp at h
     |c v'=>cases v' with
      |int k' m'=>
       simp at h
       have e2:=Au mh
       exact⟨m,m',h,.inr ⟨k,by simp[e1]⟩,.inr ⟨k',by simp[e2]⟩⟩
      |_=>simp at h
   |_=>rcases vC with⟨rfl,rfl⟩|⟨x',y',t',rfl,rfl,jA,mh⟩<;>simp[ht]at h
theorem QW{t e:Nat}(ht:P.underlying t=some (.slice e)){sz:Nat}(Ao:∃i,P.info? e=some i∧i.size=sz){ao:Option Addr}{n cap:Nat}(hc:n<=cap){lo hi:Option Value}{l h:Int}
  (nN:(lo=none∧l=0)∨∃k,lo=some (.int k l))(vC:(hi=none∧h=n)∨∃k,hi=some (.int k h))(h0:0<=l)(vB:l<=h)(hh:h<=n):
  (Instr.sliceAt t (.slice ao n cap) lo hi none).run P w=.ok (sliced ao l.toNat h.toNat cap sz) w:=by
 have wL:P.elem t=e:=by simp[Program.elem,ht]
 have jA:P.underlying t=some (.slice (P.elem t)):=by rw[wL];exact ht
 obtain⟨i,uO,mO⟩:=Ao
 have hs:(sizeOf (P.elem t)).run P w=.ok sz w:=by rw[wL];simp[sizeOf,typeInfo,uO,mO]
 rw[run_sliceAt_slice w t _ _ _ _ jA]
 have o_:h<=cap:=by omega
 rcases nN with⟨rfl,rfl⟩|⟨k,rfl⟩
 ·rcases vC with⟨rfl,rfl⟩|⟨k',rfl⟩
  ·rw[run_slice_all w t ao n cap jA,hs];simp
  ·rw[run_slice_h w t ao n cap jA k' h vB o_,hs];simp
 ·rcases vC with⟨rfl,rfl⟩|⟨k',rfl⟩
  ·rw[run_slice_l w t ao n cap jA k l h0 vB,hs];simp
  ·rw[run_slice_lh w t ao n cap jA k k' l h h0 vB o_,hs];simp
theorem QX{sz:Nat}{b1 b2:Bool}{t r:T}{ts:List T}(h:Prim.ev (.sub sz b1 b2) (t::ts)=some r):∃xs,t=.l xs∧okW sz xs=true∧
  ((match b1,b2,ts with
   |false,false,[]=>some ((0:Int),(xs.length:Int))
   |true,false,[.c (.int _ l)]=>some (l,(xs.length:Int))
   |false,true,[.c (.int _ h)]=>some (0,h)
   |true,true,[.c (.int _ l),.c (.int _ h)]=>some (l,h)
   |_,_,_=>none).bind λb=>if 0<=b.1 then(if b.1<=b.2 then(if b.2<=xs.length then some (T.l ((xs.take b.2.toNat).drop b.1.toNat))else none)else none)else none)=some r:=by
 cases t with
 |c v=>simp[Prim.ev]at h
 |l xs=>
  simp only[Prim.ev]at h
  split at h
  ·rename_i dQ
   exact⟨xs,rfl,dQ,h⟩
  ·cases h
theorem aeS{b1 b2:Bool}{t r:T}{ts:List T}(h:Prim.ev (.zM b1 b2) (t::ts)=some r):∃x:ByteArray,t=.c (.string x)∧
  ((match b1,b2,ts with
   |false,false,[]=>some ((0:Int),(x.size:Int))
   |true,false,[.c (.int _ l)]=>some (l,(x.size:Int))
   |false,true,[.c (.int _ h)]=>some (0,h)
   |true,true,[.c (.int _ l),.c (.int _ h)]=>some (l,h)
   |_,_,_=>none).bind λb=>if 0<=b.1 then(if b.1<=b.2 then(if b.2<=x.size then some (T.c (.string (x.extract b.1.toNat b.2.toNat)))else none)else none)else none)=some r:=by
 cases t with
 |l xs=>simp[Prim.ev]at h
 |c v=>
  cases v with
  |string x=>exact⟨x,rfl,h⟩
  |_=>simp[Prim.ev]at h
theorem aeT{t:Nat}(ht:P.underlying t=some .string){x:ByteArray}{lo hi:Option Value}{l h:Int}
  (nN:(lo=none∧l=0)∨∃k,lo=some (.int k l))(vC:(hi=none∧h=x.size)∨∃k,hi=some (.int k h))(h0:0<=l)(vB:l<=h)(hh:h<=x.size):
  (Instr.sliceAt t (.string x) lo hi none).run P w=.ok (.string (x.extract l.toNat h.toNat)) w:=by
 rw[run_sliceAt_string w t _ _ _ _ ht]
 have e1:(h.toNat:Int)=h:=Int.toNat_of_nonneg (by omega)
 rcases nN with⟨rfl,rfl⟩|⟨k,rfl⟩
 ·rcases vC with⟨rfl,rfl⟩|⟨k',rfl⟩
  ·rw[run_slice_string_all w t x ht];simp
  ·rw[run_slice_string_h w t x ht k' h vB hh];simp
 ·rcases vC with⟨rfl,rfl⟩|⟨k',rfl⟩
  ·rw[run_slice_string_l w t x ht k l h0 vB];simp
  ·simp[Instr.slice,run_underlying ht,Instr.sliceBounds,run_sliceBound,e1,h0,vB,hh,(by omega:0<=h)]
theorem aeU(dT:eu P cx)(h:Rel M B d up s ρ G a w)(hn:∀n,o.dst=some n->n<a.tmps.size){t:Nat}{x:Operand}{lo hi mx:Option Operand}(ho:o.op=.slice t x lo hi mx)
  (OX:(bif mx.isSome then none else zR cx ⟨s.only R,[],ct,[]⟩ t (ch d (Wk.get ⟨s.only R,[],ct,[]⟩) x) (lo.map (ch d (Wk.get ⟨s.only R,[],ct,[]⟩))) (hi.map (ch d (Wk.get ⟨s.only R,[],ct,[]⟩))))=none)
  (hk:iI cx cC eW d o oi ⟨s.only R,[],ct,[]⟩=some k')(hd:k'.bA S ρ):bJ P M B d up ρ a w s o k'.w Q∧k'.ct.i=ct.i:=by
 have hw:=dh.start h R ct
 simp only[iI,ho]at hk
 split at hk
 ·rename_i k v he
  exact absurd (he.symm.trans OX) (by simp)
 simp only[cG]at hk
 obtain⟨ti,fJ,k1,ya,⟨k2,z⟩,pM,hk⟩:=hk
 obtain⟨G2,w1,e1,e2,e3,e4,e5,_⟩:=hw.et ya
 have hK:di (oA k1.w) (λ_=>False) G w G2 w:=w1.aY
 have iy:∀y,cD G2 w ρ (ch d (Wk.get ⟨s.only R,[],ct,[]⟩) y) (a.eval y):=λy=>(hw.iy y).1.aY hK λ_ _ hf=>hf
 have nM:k1.eP k2:=by
  unfold Wk.one at pM
  split at pM
  ·exact Wk.dO pM
  ·cases pM
 have w2:=w1.same nM
 simp only at hk
 cases mx with
 |some _=>simp at hk
 |none=>
  simp only at hk
  have iz:∃k3 ls,o9 k2 (ch d (Wk.get ⟨s.only R,[],ct,[]⟩)) lo=some (k3,ls)∧
    ∃k4 hs,o9 k3 (ch d (Wk.get ⟨s.only R,[],ct,[]⟩)) hi=some (k4,hs)∧
    ((Nat.beq ti.kd 3=true∧∃te,cx.ty ti.el=some te∧k'=bX d o (k4.em (.sub te.sz lo.isSome hi.isSome) (z::(ls++hs))).1 (.v false [.p (k4.em (.sub te.sz lo.isSome hi.isSome) (z::(ls++hs))).2]))∨
     (Nat.beq ti.kd 2=true∧k'=bX d o (k4.em (.zM lo.isSome hi.isSome) (z::(ls++hs))).1 (.v false [.p (k4.em (.zM lo.isSome hi.isSome) (z::(ls++hs))).2]))):=by
   rw[cG]at hk
   obtain⟨⟨k3,ls⟩,h1,hk⟩:=hk
   rw[cG]at hk
   obtain⟨⟨k4,hs⟩,h2,hk⟩:=hk
   refine⟨k3,ls,?_,k4,hs,?_,?_⟩
   ·cases lo<;>exact h1
   ·cases hi<;>exact h2
   ·simp only at hk
    cases h3:Nat.beq ti.kd 3 with
    |true=>
     simp only[h3,cond_true,cG,br]at hk
     obtain⟨te,pF,hk⟩:=hk
     exact .inl ⟨rfl,te,pF,hk.symm⟩
    |false=>
     simp only[h3,cond_false]at hk
     cases h4:Nat.beq ti.kd 2 with
     |true=>
      simp only[h4,cond_true,br]at hk
      exact .inr ⟨rfl,hk.symm⟩
     |false=>simp[h4]at hk
  obtain⟨k3,ls,nN,k4,hs,vC,lT⟩:=iz
  have fin:∀(p:Prim),k'=bX d o (k4.em p (z::(ls++hs))).1 (.v false [.p (k4.em p (z::(ls++hs))).2])->
    ∃r tz,p.ev (tz::(ls++hs).map (Lf.ev ρ))=some r∧(∀c,(ch d (Wk.get ⟨s.only R,[],ct,[]⟩) x)=.v false [c]->eM G2.q w tz (a.eval x))∧
     (∃c,(ch d (Wk.get ⟨s.only R,[],ct,[]⟩) x)=.v false [c])∧
     ((lo=none∧ls=[])∨∃x y t,lo=some x∧ls=[y]∧y.ev ρ=t∧eM (er G2.ω) w t (a.eval x))∧((hi=none∧hs=[])∨∃x y t,hi=some x∧hs=[y]∧y.ev ρ=t∧eM (er G2.ω) w t (a.eval x))∧
     (∀v,(execOp a.eval o).run P w=.ok (.value v) w->eM G2.q w r v->(∀x,v≠.agg x)->bJ P M B d up ρ a w s o k'.w Q∧k'.ct.i=ct.i):=by
   intro p hp
   subst hp
   have jB:=cL.1 hd
   obtain⟨HA,r,hr,oC⟩:=Wk.bO jB
   have hs3:k2.eP k3:=by
    unfold o9 at nN
    split at nN
    ·simp only[br,Prod.mk.injEq]at nN;obtain⟨rfl,_⟩:=nN;exact .refl _
    ·simp only[cG,br,Prod.mk.injEq]at nN
     obtain⟨⟨k5,y5⟩,h5,rfl,_⟩:=nN
     unfold Wk.one at h5
     split at h5
     ·exact Wk.dO h5
     ·cases h5
   obtain⟨zn,D6,oF⟩:=D8 (w2.same hs3) (f:=ch d (Wk.get ⟨s.only R,[],ct,[]⟩)) (λy _=>iy y) vC HA
   obtain⟨oB,_,ma⟩:=D8 w2 (f:=ch d (Wk.get ⟨s.only R,[],ct,[]⟩)) (λy _=>iy y) nN zn
   have xQ:∃c,(ch d (Wk.get ⟨s.only R,[],ct,[]⟩) x)=.v false [c]:=by
    unfold Wk.one at pM
    split at pM
    ·rename_i c dV;exact⟨c,dV⟩
    ·cases pM
   obtain⟨c,hc⟩:=xQ
   have QY:=iy x
   rw[hc]at QY pM ya
   obtain⟨_,oD,qs,_⟩:=QY
   cases oD
   have gX:k1.val c=some (k2,z):=pM
   obtain⟨OY,w1',_,_,_,_,sE,_⟩:=hw.et ya
   obtain⟨tz,hz,QZ⟩:=Wk.qV gX qs w1 (by simpa[Dn]using sE)
   refine⟨r,tz,by simpa[Lf.bM hz]using hr,λ_ _=>QZ,⟨c,hc⟩,ma,oF,λv hv hdv DX=>⟨?_,?_⟩⟩
   ·exact rD h (((w2.same hs3).same D6).same (Wk.bF _ _ _)) hn hv (Qr oC hdv DX) (λi hi=>by simp[de,dF]at hi) Q
   ·rw[mM,(Wk.bF _ _ _).i,D6.i,hs3.i,nM.i,e3]
  have eB:∀v,(Instr.sliceAt t (a.eval x) (lo.map a.eval) (hi.map a.eval) none).run P w=.ok v w->(execOp a.eval o).run P w=.ok (.value v) w:=by
   intro v hv
   exact CN (x:=Instr.sliceAt t (a.eval x) (lo.map a.eval) (hi.map a.eval) none) (by unfold execOp;rw[ho];rfl) hv
  rcases lT with⟨h3,te,pF,hk⟩|⟨h3,hk⟩
  ·obtain⟨r,tz,hr,QZ,⟨c,hc⟩,ma,oF,lT⟩:=fin _ hk
   obtain⟨xs,rfl,dQ,hr⟩:=QX hr
   obtain⟨l,hh,hF,pi,x_⟩:=Jh (F:=λl h=>if 0<=l then(if l<=h then(if h<=xs.length then some (T.l ((xs.take h.toNat).drop l.toNat))else none)else none)else none) ma oF hr
   split at hF
   ·rename_i h0
    split at hF
    ·rename_i vB
     split at hF
     ·rename_i Q0
      simp only[br]at hF
      subst hF
      have Av:=QZ c hc
      obtain⟨ao,cap,gX,o_⟩:=Av.rows
      have hT:=dT.ty _ _ fJ
      have hE:=dT.ty _ _ pF
      obtain⟨i,zz,uO,mO,_⟩:=hE.info
      by_cases rK:xs.length<=cap
      ·have oH:=QW (P:=P) (w:=w) (hT.sl (dN h3)) ⟨i,uO,mO⟩ (ao:=ao) rK pi x_ h0 vB Q0
       rw[<-gX]at oH
       refine lT _ (eB _ oH) ?_ (λ_ hf=>by unfold sliced at hf;cases hf)
       rw[gX]at Av
       exact Av.sub (by omega) (by omega) dQ
      ·have CS:xs=[]:=by
        cases xs with
        |nil=>rfl
        |cons y ys=>exact absurd (o_ (by simp)) rK
       subst CS
       simp at rK
     ·cases hF
    ·cases hF
   ·cases hF
  ·obtain⟨r,tz,hr,QZ,⟨c,hc⟩,ma,oF,lT⟩:=fin _ hk
   obtain⟨x',rfl,hr⟩:=aeS hr
   obtain⟨l,hh,hF,pi,x_⟩:=Jh (F:=λl h=>if 0<=l then(if l<=h then(if h<=x'.size then some (T.c (.string (x'.extract l.toNat h.toNat)))else none)else none)else none) ma oF hr
   split at hF
   ·rename_i h0
    split at hF
    ·rename_i vB
     split at hF
     ·rename_i Q0
      simp only[br]at hF
      subst hF
      obtain⟨gX,_⟩:=(QZ c hc).scalar
      have hT:=dT.ty _ _ fJ
      have oH:=aeT (P:=P) (w:=w) (hT.st (dN h3)) (x:=x') pi x_ h0 vB Q0
      rw[<-gX]at oH
      exact lT _ (eB _ oH) (.c rfl) (λ_ hf=>by cases hf)
     ·cases hF
    ·cases hF
   ·cases hF
end
def Gh.dB(G:Gh)(nb:Option Nat)(i:Nat)(f:Lb->Option Lb)(Hn:List (Nat×Nat)->Value)(mY:∀p,∃a n c,Hn p=.slice a n c):Gh where
 ω:=λb=>if nb=some b then some (.o i [])else(G.ω b).bind f
 β:=G.β
 H:=λj=>if j=i then Hn else G.H j
 hs:=λj p=>by
  by_cases h:j=i
  ·simp only[h,if_true];exact mY p
  ·simp only[h,if_false];exact G.hs j p
section
variable {M:Nat->Prop} {B:eI} {d:Nat} {up:Nat->Nat->Value} {ρ:List T} {G:Gh} {a:Act} {w:World} {S:Nat->af} {P:Program}
variable {cx:Cx} {cC eW oi:Nat} {s:St} {R:List bn} {ct:Ct} {k':Wk} {o:Oper} {Q:Exit->Act->World->Prop}
variable {nb:Option Nat} {i:Nat} {f:Lb->Option Lb} {Hn:List (Nat×Nat)->Value} {mY:∀p,∃a n c,Hn p=.slice a n c} {w':World}
theorem D9(Q1:∀l l',qt l=true->f l=some l'->qt l'=true){b:Nat}(dk:nb≠some b)(h0:G.q b=none):(G.dB nb i f Hn mY).q b=none:=by
 refine s_ h0 (λh1=>by simp[Gh.dB,dk,h1]) λl hl hq=>?_
 cases wK:f l with
 |none=>exact .inl (by simp[Gh.dB,dk,hl,wK])
 |some l'=>exact .inr ⟨l',by simp[Gh.dB,dk,hl,wK],Q1 l l' hq wK⟩
theorem aeW{I:Lb->Prop}(hf:∀l,¬I l->f l=some l)(Q1:∀l l',qt l=true->f l=some l'->qt l'=true)(vD:∀c,nb=some c->w.heap.size<=c∨∃l,G.ω c=some l∧I l∧qt l=false)(hs:w.heap.size<=w'.heap.size)
  (hh:∀b,b<w.heap.size->nb≠some b->w'.heap[b]?=w.heap[b]?)(mi:∀b l,G.ω b=some l->b<w.heap.size):di I (λj=>j=i) G w (G.dB nb i f Hn mY) w':=by
 refine⟨hs,λb hb h0=>?_,λb hb h0=>?_,λb l hb hl=>?_,λj hj=>?_⟩
 ·have dk:nb≠some b:=by
   intro e
   rcases vD _ e with h|⟨l,h,_,hq⟩
   ·omega
   ·exact vt h hq h0
  refine⟨D9 Q1 dk h0,hh b hb dk⟩
 ·have dk:nb≠some b:=by
   intro e
   rcases vD _ e with h|⟨l,h,_⟩
   ·omega
   ·rw[h0]at h;cases h
  simp[Gh.dB,dk,h0]
 ·have be:=mi b l hb
  have dk:nb≠some b:=by
   intro e
   rcases vD _ e with h|⟨l',h,h',_⟩
   ·omega
   ·rw[hb]at h;cases h;exact hl h'
  exact⟨by simp[Gh.dB,dk,hb,hf l hl],hh b be dk⟩
 ·exact⟨rfl,λ_ _=>by simp[Gh.dB,hj]⟩
theorem aeX{x:Sem Value}{v:Value}(he:execOp a.eval o=(do let v <-x;pure (Next.value v)))(h:x.run P w=.ok v w'):(execOp a.eval o).run P w=.ok (.value v) w':=by
 rw[he,Sem.run_bind,h];rfl
theorem bJ.mono{M':Nat->Prop}{W:St}(h:bJ P M B d up ρ a w s o W Q)(hM:∀i,M i->M' i):bJ P M' B d up ρ a w s o W Q:=
 Oper.wp_mono (λa' w' ⟨G',h1,h2⟩=>⟨G',h1.mono hM,h2⟩) h
theorem D_{k:Wk}{G1:Gh}(h:Rel M B d up s ρ G a w)(hk:dh M B d up ρ G a w k G1)(hn:∀n,o.dst=some n->n<a.tmps.size)(hM:¬M k.ct.i)
  {W1:St}{kw:Wk}{dp:Bool}{y:Lf}{t:T}{v:Value}
  (Q2:∀r,kw.w.look r=(St.look ((.o k.ct.i,.ob dp y)::W1) r).or (k.w.look r))(wM:∀r u,W1.look r=some u->∃j,r=.o j∧cE (G1.dB nb k.ct.i f Hn mY) w' ρ j u∧M j∧∀i∈de u,M i)
  (hf:∀l,(∀j p,l=.o j p->W1.look (.o j)=none)->f l=some l)(gS:∀l l',(∃b,G1.ω b=some l)->f l=some l'->M l'.id∨l'.id=k.ct.i)
  (Q1:∀l l',qt l=true->f l=some l'->qt l'=true)(vD:∀c,nb=some c->c=w.heap.size∨∃j,G1.ω c=some (.o j [])∧W1.look (.o j)≠none∧j%4≠2)(hs:w.heap.size<=w'.heap.size)(aeY:∀c,nb=some c->c<w'.heap.size)
  (hh:∀b,b<w.heap.size->nb≠some b->w'.heap[b]?=w.heap[b]?)(so:jk w w')(hv:v=Hn [])
  (hy:y.fE ρ=some t)(bI:eX (G1.dB nb k.ct.i f Hn mY) w' k.ct.i dp [] t)(hx:(execOp a.eval o).run P w=.ok (.value v) w'):
  bJ P (Mn M k.ct.i (k.ct.i+1)) B d up ρ a w s o (bX d o kw (.v false [.o k.ct.i []])).w Q:=by
 have gJ:Mn M k.ct.i (k.ct.i+1) k.ct.i:=.inr ⟨Nat.le_refl _,Nat.lt_succ_self _⟩
 have OZ:∀j u,W1.look (.o j)=some u->St.look (fi d o (.v false [.o k.ct.i []])++((bn.o k.ct.i,SV.ob dp y)::W1)) (.o j)≠none:=by
  intro j u hu
  rw[l_]
  intro e
  have:=(Option.or_eq_none_iff.1 e).2
  simp only[St.look,hu]at this
  cases hb:(bn.o k.ct.i).beq (.o j)<;>simp[hb]at this
 have hK:di (oA (fi d o (.v false [.o k.ct.i []])++((bn.o k.ct.i,SV.ob dp y)::W1))) (λj=>j=k.ct.i) G1 w (G1.dB nb k.ct.i f Hn mY) w':=by
  refine aeW (λl hl=>hf l λj p hj=>?_) Q1 ?_ hs hh λb l hb=>(hk.rel.ia b l hb).2
  ·subst hj
   cases hw:W1.look (.o j)with
   |none=>rfl
   |some u=>exact absurd (OZ j u hw) hl
  ·intro c hc
   rcases vD c hc with rfl|⟨j,h1,h2,h3⟩
   ·exact .inl (Nat.le_refl _)
   ·obtain⟨u,hu⟩:=Option.ne_none_iff_exists'.1 h2
    exact .inr ⟨_,h1,OZ j u hu,DO h3⟩
 simp only[bJ,Oper.wp,hx,Oper.upon]
 refine⟨G1.dB nb k.ct.i f Hn mY,I7 h hk (W2:=fi d o (.v false [.o k.ct.i []])++((bn.o k.ct.i,SV.ob dp y)::W1)) (xY (W2:=(bn.o k.ct.i,SV.ob dp y)::W1) Q2)
  hK (λj hj=>by subst hj;exact hM) (λj hj=>.inl hj) (λn oG=>I9 oG) so ?_,Af _ _ _⟩
 refine⟨λe n u he hl=>?_,λb u hl=>?_,λj u hl=>?_,λr u hl j hj=>?_,λj hj=>?_,λb l hb=>?_⟩
 ·rcases k_ hl with⟨n',iA,e1,rfl⟩|hl
  ·cases e1
   rw[iA,Qn (hn _ iA),hv]
   refine⟨_,rfl,⟨[],rfl,by simp[Gh.dB]⟩,λx hx=>?_⟩
   obtain⟨a1,a2,a3,e1⟩:=mY []
   rw[e1]at hx;cases hx
  ·rcases jI hl with⟨e1,_⟩|hl
   ·cases e1
   ·obtain⟨j,e1,_⟩:=wM _ _ hl;cases e1
 ·rcases k_ hl with⟨n',iA,e1,rfl⟩|hl
  ·cases e1
  ·rcases jI hl with⟨e1,rfl⟩|hl
   ·cases e1
   ·obtain⟨j,e1,_⟩:=wM _ _ hl;cases e1
 ·rcases k_ hl with⟨n',iA,e1,rfl⟩|hl
  ·cases e1
  ·rcases jI hl with⟨e1,rfl⟩|hl
   ·cases e1
    exact⟨t,hy,bI⟩
   ·obtain⟨j,e1,h2,_⟩:=wM _ _ hl;cases e1;exact h2
 ·rcases k_ hl with⟨n',iA,e1,rfl⟩|hl
  ·simp[de,dF]at hj;subst hj;exact gJ
  ·rcases jI hl with⟨e1,rfl⟩|hl
   ·simp[de]at hj
   ·obtain⟨j',e1,_,_,hm⟩:=wM _ _ hl;exact .inl (hm j hj)
 ·have:∀r:bn,(r=.x j∨r=.o j)->St.look (fi d o (.v false [.o k.ct.i []])++((bn.o k.ct.i,SV.ob dp y)::W1)) r≠none->Mn M k.ct.i (k.ct.i+1) j:=by
   intro r hr hl
   obtain⟨u,hu⟩:=Option.ne_none_iff_exists'.1 hl
   rcases k_ hu with⟨n',iA,e1,rfl⟩|hl
   ·rcases hr with rfl|rfl<;>cases e1
   ·rcases jI hl with⟨e1,rfl⟩|hl
    ·rcases hr with rfl|rfl
     ·cases e1
     ·cases e1;exact gJ
    ·obtain⟨j',e1,_,hm,_⟩:=wM _ _ hl
     rcases hr with rfl|rfl
     ·cases e1
     ·cases e1;exact .inl hm
  rcases hj with hj|hj
  ·exact this _ (.inl rfl) hj
  ·exact this _ (.inr rfl) hj
 ·simp only[Gh.dB]at hb
  split at hb
  ·rename_i he
   cases hb
   exact⟨gJ,aeY _ he⟩
  ·obtain⟨l0,h0,h1⟩:=Option.bind_eq_some_iff.1 hb
   obtain⟨_,be⟩:=hk.rel.ia b l0 h0
   refine⟨?_,by omega⟩
   rcases gS l0 l ⟨_,h0⟩ h1 with hm|he
   ·exact .inl hm
   ·rw[he];exact gJ
end
section
variable {M:Nat->Prop} {B:eI} {d:Nat} {up:Nat->Nat->Value} {ρ:List T} {G:Gh} {a:Act} {w:World} {S:Nat->af} {P:Program}
variable {cx:Cx} {cC eW oi:Nat} {s:St} {R:List bn} {ct:Ct} {k':Wk} {o:Oper} {Q:Exit->Act->World->Prop}
def zT:List Ce->List T
 | []=>[]
 | .p (.k v)::cs=>.c v::zT cs
 |_::cs=>.l []::zT cs
theorem Ji:∀{zs:List Ce} {vs:List Value} {k k1:Wk} {xs:List Lf},Ae zs vs->k.je zs=some (k1,xs)->k1=k∧xs.map (Lf.ev ρ)=zT zs
 | [],[],k,k1,xs,_,h=>by simp[Wk.je]at h;obtain⟨rfl,rfl⟩:=h;exact⟨rfl,rfl⟩
 | [],_::_,_,_,_,h,_=>h.elim
 | .p (.k v)::cs,v'::vs,k,k1,xs,h,hk=>by
  obtain⟨rfl,hs,h⟩:=h
  simp only[Wk.je,Wk.val,Option.bind_some,cG,br,Prod.mk.injEq]at hk
  obtain⟨⟨k2,ys⟩,h2,rfl,rfl⟩:=hk
  obtain⟨rfl,h3⟩:=Ji h h2
  exact⟨rfl,by simp[zT,h3,Lf.ev]⟩
 | .n::cs,v'::vs,k,k1,xs,h,hk=>by
  obtain⟨rfl,h⟩:=h
  simp only[Wk.je,Wk.val,Option.bind_some,cG,br,Prod.mk.injEq]at hk
  obtain⟨⟨k2,ys⟩,h2,rfl,rfl⟩:=hk
  obtain⟨rfl,h3⟩:=Ji h h2
  exact⟨rfl,by simp[zT,h3,Lf.ev]⟩
 | .p (.k _)::_,[],_,_,_,h,_=>h.elim
 | .n::_,[],_,_,_,h,_=>h.elim
 | .p (.a _)::_,[],_,_,_,h,_=>h.elim
 | .p (.a _)::_,_::_,_,_,_,h,_=>h.elim
 | .p .e::_,[],_,_,_,h,_=>h.elim
 | .p .e::_,_::_,_,_,_,h,_=>h.elim
 | .o _ _::_,[],_,_,_,h,_=>h.elim
 | .o _ _::_,_::_,_,_,_,h,_=>h.elim
 | .d::_,[],_,_,_,h,_=>h.elim
 | .d::_,_::_,_,_,_,h,_=>h.elim
theorem Jj:∀{zs:List Ce} {vs:List Value},Ae zs vs->(zT zs).length=vs.length∧∀(j:Nat) (t:T),(zT zs)[j]?=some t->
  ∃v,vs[j]?=some v∧((t=.c v∧j_ v=true)∨(t=.l []∧v=.slice none 0 0))
 | [],[],_=>⟨rfl,λj t h=>by simp[zT]at h⟩
 | [],_::_,h=>h.elim
 | .p (.k v)::cs,v'::vs,h=>by
  obtain⟨rfl,hs,h⟩:=h
  obtain⟨h1,h2⟩:=Jj h
  refine⟨by simp[zT,h1],λj t ht=>?_⟩
  cases j with
  |zero=>simp[zT]at ht;subst ht;exact⟨v,rfl,.inl ⟨rfl,hs⟩⟩
  |succ j=>simpa using h2 j t (by simpa[zT]using ht)
 | .n::cs,v'::vs,h=>by
  obtain⟨rfl,h⟩:=h
  obtain⟨h1,h2⟩:=Jj h
  refine⟨by simp[zT,h1],λj t ht=>?_⟩
  cases j with
  |zero=>simp[zT]at ht;subst ht;exact⟨_,rfl,.inr ⟨rfl,rfl⟩⟩
  |succ j=>simpa using h2 j t (by simpa[zT]using ht)
 | .p (.k _)::_,[],h=>h.elim
 | .n::_,[],h=>h.elim
 | .p (.a _)::_,[],h=>h.elim
 | .p (.a _)::_,_::_,h=>h.elim
 | .p .e::_,[],h=>h.elim
 | .p .e::_,_::_,h=>h.elim
 | .o _ _::_,[],h=>h.elim
 | .o _ _::_,_::_,h=>h.elim
 | .d::_,[],h=>h.elim
 | .d::_,_::_,h=>h.elim
theorem Q3{z:Array Value}{n i j:Nat}(hj:j<z.size)(hi:i<n):(madeCells z (n*z.size))[i*z.size+j]?=z[j]?:=by
 have be:i*z.size+j<n*z.size:=by
  have:(i+1)*z.size<=n*z.size:=Nat.mul_le_mul_right _ hi
  rw[Nat.add_mul]at this
  omega
 have hm:(i*z.size+j)%z.size=j:=by rw[Nat.add_comm,Nat.add_mul_mod_self_right,Nat.mod_eq_of_lt hj]
 simp[madeCells,be,hm,hj]
theorem aeZ{n i j:Nat}{ts:List T}{t:T}(h:dK (List.replicate n ts) i j=some t):i<n∧ts[j]?=some t:=by
 unfold dK at h
 rw[List.getElem?_replicate]at h
 split at h
 ·rename_i hi;exact⟨hi,h⟩
 ·simp at h
theorem ae0{t t' r:T}{ts:List T}(h:Prim.ev .mk (t::t'::ts)=some r):∃(k k2:IntKind) (n c:Int),t=.c (.int k n)∧t'=.c (.int k2 c)∧0<=n∧n=c∧c<qS∧r=.l (List.replicate n.toNat ts):=by
 cases t with
 |l _=>simp[Prim.ev]at h
 |c v=>
  cases v with
  |int k n=>
   cases t' with
   |l _=>simp[Prim.ev]at h
   |c v'=>
    cases v' with
    |int k2 c=>
     simp only[Prim.ev]at h
     split at h
     ·split at h
      ·split at h
       ·simp only[br]at h
        exact⟨k,k2,n,c,rfl,rfl,by assumption,by assumption,by assumption,h.symm⟩
       ·cases h
      ·cases h
     ·cases h
    |_=>simp[Prim.ev]at h
  |_=>cases t'<;>simp[Prim.ev]at h
theorem ae1(dT:eu P cx)(h:Rel M B d up s ρ G a w)(hn:∀n,o.dst=some n->n<a.tmps.size){t:Nat}{x y:Operand}(ho:o.op=.makeSlice t x y)
  (hk:iI cx cC eW d o oi ⟨s.only R,[],ct,[]⟩=some k')(hd:k'.bA S ρ)(hM:∀i,ct.i<=i->i<k'.ct.i->¬M i):bJ P (Mn M ct.i k'.ct.i) B d up ρ a w s o k'.w Q:=by
 have hw:=dh.start h R ct
 simp only[iI,ho,cG]at hk
 obtain⟨ti,fJ,te,pF,⟨k1,n⟩,h1,⟨k2,m⟩,h2,⟨k3,zs⟩,h3,hk⟩:=hk
 cases hc:(Nat.beq ti.kd 3&&Nat.ble te.bytes 65536&&Nat.blt 0 te.sz)with
 |false=>simp[hc]at hk
 |true=>
  simp only[hc,cond_true,br]at hk
  simp only[bk]at hc
  obtain⟨⟨oD,jC⟩,hc3⟩:=hc
  have hT:=dT.ty _ _ fJ
  have hE:=dT.ty _ _ pF
  obtain⟨i,z,uO,mO,hi3,HF,xP⟩:=hE.info
  have hu:=hT.sl (dN oD)
  obtain⟨rfl,Aw⟩:=Ji (ρ:=ρ) xP h3
  obtain⟨qD,hza⟩:=Jj xP
  have gY:z.cells.size=te.sz:=by
   have:=(I4 (G:=G) (w:=w) (ρ:=ρ) xP).1.length
   rw[hE.DU]at this
   simpa using this.symm
  have cK:bX d o {(k3.em .mk (n::m::zs)).1.set (.o (eT k3.ct.i)) (.ob true (k3.em .mk (n::m::zs)).2)with ct:=⟨(k3.em .mk (n::m::zs)).1.ct.a,eT k3.ct.i+1⟩} (.v false [.o (eT k3.ct.i) []])=k':=hk
  have fx:(k3.em .mk (n::m::zs)).1.bA S ρ:=by
   rw[<-cK]at hd
   have h2:=cL.1 hd
   exact h2
  obtain⟨zn,r,hr,oC⟩:=Wk.bO fx
  have mN:Wk.eP ⟨s.only R,[],ct,[]⟩ k1:=by
   unfold Wk.one at h1
   split at h1
   ·exact Wk.dO h1
   ·cases h1
  obtain⟨oB,nM,tm,hm,hdm⟩:=Wk.gW (hw.same mN) h2 zn (hw.iy y).1
  obtain⟨_,_,tn,hn1,oG⟩:=Wk.gW hw h1 oB (hw.iy x).1
  have uJ:=((hw.same mN).same nM).same (Wk.bF k3 .mk (n::m::zs))
  have kf:k3.ct.i=ct.i:=by rw[nM.i,mN.i]
  simp only[List.map_cons,Aw,Lf.bM hm,Lf.bM hn1]at hr
  obtain⟨kn,kc,nn,cc,rfl,rfl,g1,g2,g3,rfl⟩:=ae0 hr
  have en:=Au oG
  have ec:=Au hdm
  have hb:=Nat.le_of_ble_eq_true jC
  have o_:cc<4294967296:=g3
  have Jk:(i.bytes:Int)*cc<=281474976710656:=by
   rw[hi3]
   have e1:(te.bytes:Int)<=65536:=by omega
   have h0:(0:Int)<=cc:=by omega
   calc (te.bytes:Int)*cc<=65536*cc:=Int.mul_le_mul_of_nonneg_right e1 h0
    _<=281474976710656:=by omega
  have eB:=run_make (P:=P) w t ti.el i z hu uO HF kn kc nn cc g1 (by omega) Jk (by omega)
  rw[mO,<-gY]at eB
  have o8:k'.ct.i=eT ct.i+1:=by rw[<-cK,mM,<-kf]
  have jg:=zP ct.i
  have hnc:nn.toNat<=cc.toNat:=by omega
  let Hn:List (Nat×Nat)->Value:=λp=>match p with| []=>.slice (some ⟨w.heap.size,0,none⟩) nn.toNat cc.toNat|_=>.slice none 0 0
  have mY:∀p,∃a n c,Hn p=.slice a n c:=λp=>by cases p<;>exact⟨_,_,_,rfl⟩
  rw[o8,<-cK,<-kf]
  refine bJ.mono (M:=Mn M (eT k3.ct.i) (eT k3.ct.i+1)) ?_ (λi hi=>hi.imp_right λhi=>by rw[kf]at hi⊢;exact⟨by omega,hi.2⟩)
  refine D_ (nb:=some w.heap.size) (f:=some) (Hn:=Hn) (mY:=mY) (w':=w.alloc (.cells (madeCells z.cells (cc.toNat*z.cells.size)) ti.el)) (k:={(k3.em .mk (n::m::zs)).1 with ct:=⟨(k3.em .mk (n::m::zs)).1.ct.a,eT k3.ct.i⟩}) (W1:=[]) (t:=.l (List.replicate nn.toNat (zT te.zero)))
   h (show dh M B d up ρ G a w {(k3.em .mk (n::m::zs)).1 with ct:=⟨(k3.em .mk (n::m::zs)).1.ct.a,eT k3.ct.i⟩} G from⟨uJ.rel,uJ.aY⟩) hn (hM _ (by show ct.i<=eT k3.ct.i;rw[kf];exact jg) (by rw[o8];show eT k3.ct.i<_;rw[kf];omega)) (λr=>by exact uM (k:=(k3.em .mk (n::m::zs)).1) r) (λr u hu=>by cases hu) (λl _=>rfl) (λl l' ⟨b,hb⟩ he=>by cases he;exact .inl (uJ.rel.ia b _ hb).1)
   (λl l' hq he=>by cases he;exact hq) (λc hc=>by cases hc;exact .inl rfl) (by simp) (λc hc=>by cases hc;simp) (λb hb _=>heap_alloc_old w _ b hb) (D2 _ _) rfl oC ?_ (aeX (x:=Instr.makeSlice t (a.eval x) (a.eval y)) (by unfold execOp;rw[ho]) (by rw[en,ec];exact eB))
  have hlen:(List.replicate nn.toNat (zT te.zero)).length=nn.toNat:=by simp
  have hzT:(zT te.zero).length=z.cells.size:=by rw[qD];simp
  have vE:∀(ii j:Nat) (t:T),dK (List.replicate nn.toNat (zT te.zero)) ii j=some t->ii<nn.toNat∧j<z.cells.size∧∃v,z.cells[j]?=some v∧((t=.c v∧j_ v=true)∨(t=.l []∧v=.slice none 0 0)):=by
   intro ii j t ht
   obtain⟨q1,q2⟩:=aeZ ht
   obtain⟨v,q3,q4⟩:=hza j t q2
   refine⟨q1,?_,v,by simpa using q3,q4⟩
   rw[<-hzT];exact(List.getElem?_eq_some_iff.1 q2).1
  refine .l (wd:=z.cells.size) (cv:=λ_ j=>z.cells.getD j undef) (by rw[hlen];simp[Gh.dB,Hn]) ⟨by rw[hlen];exact hnc,λhe=>by have:=congrArg List.length he;simp at this;omega⟩ (by simp[Gh.dB]) (heap_alloc_new w _) (size_madeCells _ _) (λr hr=>?_) ?_ ?_ (λ_ _ _ _ hf=>by cases hf) ?_ ?_
  ·rw[List.eq_of_mem_replicate hr];exact hzT
  ·intro ii j t ht
   obtain⟨q1,q2,v,q3,_⟩:=vE ii j t ht
   rw[Q3 q2 (by omega),q3]
   simp[Array.getD_eq_getD_getElem?,q3]
  ·intro ii j v ht
   obtain⟨q1,q2,u,q3,q4⟩:=vE ii j _ ht
   rcases q4 with⟨e1,e2⟩|⟨e1,_⟩
   ·cases e1
    exact⟨by simp[Array.getD_eq_getD_getElem?,q3],e2⟩
   ·cases e1
  ·intro ii j ys ht _
   obtain⟨q1,q2,u,q3,q4⟩:=vE ii j _ ht
   rcases q4 with⟨e1,e2⟩|⟨e1,e2⟩
   ·cases e1
   ·simp[Array.getD_eq_getD_getElem?,q3,e2,Gh.dB,Hn]
  ·intro ii j ys ht _
   obtain⟨q1,q2,u,q3,q4⟩:=vE ii j _ ht
   rcases q4 with⟨e1,e2⟩|⟨e1,e2⟩
   ·cases e1
   ·cases e1
    exact .nil (by simp[Gh.dB,Hn])
end
theorem eX.move{G:Gh}{w:World}{id:Nat}{p:List (Nat×Nat)}{t:T}{dp:Bool}(h:eX G w id dp p t)(gA:dp=true){G':Gh}{w':World}{id':Nat}{p':List (Nat×Nat)}
  (gV:∀c r,G.ω c=some (.o id (p++r))->G'.ω c=some (.o id' (p'++r))∧w'.heap[c]?=w.heap[c]?)(hH:∀r,G'.H id' (p'++r)=G.H id (p++r)):eX G' w' id' dp p' t:=by
 induction h generalizing p' with
 |nil h=>exact .nil (by have:=hH [];simp only[List.append_nil]at this;rw[this];exact h)
 | @l dp p xs b wd cap bT elem cv h1 h2 h3 h4 h5 h6 h7 h8 h9 nz wE ih=>
  have hb:=gV b [] (by simpa using h3)
  simp only[List.append_nil]at hb
  have h0:=hH []
  simp only[List.append_nil]at h0
  refine .l (by rw[h0];exact h1) h2 hb.1 (hb.2.trans h4) h5 h6 h7 h8 (λi j ys hy hd=>by rw[gA]at hd;cases hd) (λi j ys hy hd=>by rw[hH [(i,j)]];exact nz i j ys hy hd) λi j ys hy hd=>?_
  refine ih i j ys hy hd rfl (p':=p'++[(i,j)]) (λc r hc=>?_) λr=>?_
  ·have:=gV c ((i,j)::r) (by simpa using hc)
   simpa using this
  ·have:=hH ((i,j)::r)
   simpa using this
structure pN (G:Gh) (w:World) (id:Nat) (dp:Bool) (sz n0:Nat) (xs:List (List T)) (cv:Nat->Nat->Value):Prop where
 wd:∀r∈xs,r.length=sz
 sc:∀i j v,dK xs i j=some (.c v)->cv i j=v∧j_ v=true
 pl:∀i j ys,dK xs i j=some (.l ys)->dp=false->eM G.q w (.l ys) (cv i j)
 hd:∀i j ys,dK xs i j=some (.l ys)->dp=true->cv i j=G.H id [(n0+i,j)]
 ow:∀i j ys,dK xs i j=some (.l ys)->dp=true->eX G w id true [(n0+i,j)] (.l ys)
theorem Q4{xs ys:List (List T)}{i j:Nat}{t:T}(h:dK (xs++ys) i j=some t):
  (i<xs.length∧dK xs i j=some t)∨(xs.length<=i∧dK ys (i-xs.length) j=some t):=by
 unfold dK at h⊢
 by_cases hi:i<xs.length
 ·rw[List.getElem?_append_left hi]at h;exact .inl ⟨hi,h⟩
 ·rw[List.getElem?_append_right (by omega)]at h;exact .inr ⟨by omega,h⟩
theorem pN.join{G:Gh}{w:World}{id:Nat}{dp:Bool}{sz:Nat}{xs ys:List (List T)}{cv rH:Nat->Nat->Value}(hx:pN G w id dp sz 0 xs cv)(hy:pN G w id dp sz xs.length ys rH)
  {b cap:Nat}{bT:Array Value}{elem:TypeId}(hH:G.H id []=.slice (some ⟨b,0,none⟩) (xs.length+ys.length) cap)(hc:xs.length+ys.length<=cap∧(xs++ys=[]->cap=0))(gV:G.ω b=some (.o id []))
  (hh:w.heap[b]?=some (.cells bT elem (0,0)))(hs:bT.size=cap*sz)(h1:∀i j,i<xs.length->j<sz->bT[i*sz+j]?=some (cv i j))
  (h2:∀i j,i<ys.length->j<sz->bT[(xs.length+i)*sz+j]?=some (rH i j)):eX G w id dp [] (.l (xs++ys)):=by
 have lx:∀{i j:Nat} {t:T},dK xs i j=some t->i<xs.length∧j<sz:=by
  intro i j t ht
  obtain⟨r,_,hm,_,q1,q2⟩:=wD ht
  exact⟨q1,by rw[<-hx.wd r hm];exact q2⟩
 have ly:∀{i j:Nat} {t:T},dK ys i j=some t->i<ys.length∧j<sz:=by
  intro i j t ht
  obtain⟨r,_,hm,_,q1,q2⟩:=wD ht
  exact⟨q1,by rw[<-hy.wd r hm];exact q2⟩
 let c:Nat->Nat->Value:=λi j=>if i<xs.length then cv i j else rH (i-xs.length) j
 refine .l (cv:=c) (by rw[List.length_append];exact hH) (by rw[List.length_append];exact hc) gV hh hs (λr hr=>?_) ?_ ?_ ?_ ?_ ?_
 ·rcases List.mem_append.1 hr with hr|hr
  ·exact hx.wd r hr
  ·exact hy.wd r hr
 ·intro i j t ht
  rcases Q4 ht with⟨q,ht⟩|⟨q,ht⟩
  ·simp only[c,if_pos q];exact h1 i j q (lx ht).2
  ·have:=h2 (i-xs.length) j (ly ht).1 (ly ht).2
   rw[show xs.length+(i-xs.length)=i by omega]at this
   simp only[c,if_neg (show¬i<xs.length by omega)];exact this
 ·intro i j v ht
  rcases Q4 ht with⟨q,ht⟩|⟨q,ht⟩
  ·simp only[c,if_pos q];exact hx.sc i j v ht
  ·simp only[c,if_neg (show¬i<xs.length by omega)];exact hy.sc _ j v ht
 ·intro i j zs ht hd
  rcases Q4 ht with⟨q,ht⟩|⟨q,ht⟩
  ·simp only[c,if_pos q];exact hx.pl i j zs ht hd
  ·simp only[c,if_neg (show¬i<xs.length by omega)];exact hy.pl _ j zs ht hd
 ·intro i j zs ht hd
  rcases Q4 ht with⟨q,ht⟩|⟨q,ht⟩
  ·simp only[c,if_pos q];have:=hx.hd i j zs ht hd;simpa using this
  ·have:=hy.hd _ j zs ht hd
   rw[show xs.length+(i-xs.length)=i by omega]at this
   simp only[c,if_neg (show¬i<xs.length by omega)];simpa using this
 ·intro i j zs ht hd
  rcases Q4 ht with⟨q,ht⟩|⟨q,ht⟩
  ·have:=hx.ow i j zs ht hd;simpa using this
  ·have:=hy.ow _ j zs ht hd
   rw[show xs.length+(i-xs.length)=i by omega]at this
   simpa using this
def qW(cv:Nat->Nat->Value)(sz m:Nat):List Value:=(List.range (m*sz)).map λk=>cv (k/sz) (k%sz)
theorem zp(cv:Nat->Nat->Value)(sz m:Nat):(qW cv sz m).length=m*sz:=by simp[qW]
theorem Ax{cv:Nat->Nat->Value}{sz m i j:Nat}(hi:i<m)(hj:j<sz):(qW cv sz m)[i*sz+j]?=some (cv i j):=by
 have be:i*sz+j<m*sz:=by
  have:(i+1)*sz<=m*sz:=Nat.mul_le_mul_right _ hi
  rw[Nat.add_mul]at this
  omega
 have h1:(i*sz+j)/sz=i:=by rw[Nat.add_comm,Nat.add_mul_div_right _ _ (by omega),Nat.div_eq_of_lt hj];omega
 have h2:(i*sz+j)%sz=j:=by rw[Nat.add_comm,Nat.add_mul_mod_self_right,Nat.mod_eq_of_lt hj]
 simp[qW,be,h1,h2]
theorem ae3{cv:Nat->Nat->Value}{sz m:Nat}{v:Value}(gY:0<sz)(h:v∈qW cv sz m):∃i j,i<m∧j<sz∧v=cv i j:=by
 simp only[qW,List.mem_map,List.mem_range]at h
 obtain⟨k,hk,rfl⟩:=h
 exact⟨k/sz,k%sz,Nat.div_lt_of_lt_mul (by rw[Nat.mul_comm];exact hk),Nat.mod_lt _ gY,rfl⟩
section
variable {ρ:List T} {w:World} {P:Program}
theorem ae4{sz wd:Nat}{xs:List (List T)}(hw:∀r∈xs,r.length=wd)(dQ:okW sz xs=true):∀r∈xs,r.length=sz:=by
 intro r hr
 cases xs with
 |nil=>cases hr
 |cons x xs=>
  have h1:=hw x (by simp)
  have h2:=dN dQ
  rw[hw r hr,<-h1,h2]
theorem Jl{xs:List (List T)}{sz i j:Nat}(hw:∀r∈xs,r.length=sz)(hi:i<xs.length)(hj:j<sz):∃t,dK xs i j=some t:=by
 have hr:=List.getElem?_eq_getElem hi
 have hl:=hw xs[i] (List.getElem_mem hi)
 exact⟨xs[i][j],by simp[dK,hr,List.getElem?_eq_getElem (show j<xs[i].length by omega)]⟩
theorem yb{ω:Nat->Option Lb}{ys:List (List T)}{v:Value}(h:eM ω w (.l ys) v){sz:Nat}(gY:0<sz)(dQ:okW sz ys=true){tx e':TypeId}(ht:P.underlying tx=some (.slice e')):
  ∃cv:Nat->Nat->Value,Src P sz tx v ys.length (qW cv sz ys.length) w∧(∀r∈ys,r.length=sz)∧(∀i j t,dK ys i j=some t->eM ω w t (cv i j))∧
   (∀b off n cap,v=.slice (some ⟨b,off,none⟩) n cap->∀i j t,dK ys i j=some t->w.cell? ⟨b,off+(i*sz+j),none⟩=some (cv i j)):=by
 cases h with
 |nil=>
  rename_i ao cap
  refine⟨λ_ _=>undef,?_,(λr hr=>by cases hr),(λi j t h=>by simp[dK]at h),λ_ _ _ _ _ i j t h=>by simp[dK]at h⟩
  have e0:qW (λ_ _=>undef) sz ([]:List (List T)).length=[]:=by simp[qW]
  rw[e0]
  cases ao with
  |none=>exact Src.ofNil w ht cap
  |some ad=>exact Src.ofSlice w ht ad 0 cap [] (by simp) (λj u hu=>by simp at hu) λu hu=>by cases hu
 | @l _ b off wd cap cv hw hc hb be h1 h2=>
  have hw':=ae4 hw dQ
  have tv:ys=[]∨wd=sz:=by
   cases ys with
   |nil=>exact .inl rfl
   |cons y ys=>exact .inr ((hw y (by simp)).symm.trans (hw' y (by simp)))
  have pL:∀i j t,dK ys i j=some t->w.cell? ⟨b,off+(i*sz+j),none⟩=some (cv i j):=by
   intro i j t bE
   rcases tv with rfl|rfl
   ·simp[dK]at bE
   ·exact h1 i j t bE
  refine⟨cv,Src.ofSlice w ht ⟨b,off,none⟩ ys.length cap _ (zp _ _ _) (λk u hu=>?_) (λu hu=>?_),hw',h2,λb' aeq n' xT he=>by cases he;exact pL⟩
  ·have hk:k<ys.length*sz:=by rw[<-zp cv sz ys.length];exact(List.getElem?_eq_some_iff.1 hu).1
   have hi:k/sz<ys.length:=Nat.div_lt_of_lt_mul (by rw[Nat.mul_comm];exact hk)
   have hj:k%sz<sz:=Nat.mod_lt _ gY
   have mZ:(k/sz)*sz+k%sz=k:=by rw[Nat.mul_comm];exact Nat.div_add_mod k sz
   obtain⟨t,bE⟩:=Jl hw' hi hj
   have:=Ax (cv:=cv) hi hj
   rw[mZ,hu]at this
   cases this
   have jC:=pL _ _ t bE
   rw[mZ]at jC
   rw[Addr.add_lit]
   exact jC
  ·obtain⟨i,j,hi,hj,rfl⟩:=ae3 gY hu
   obtain⟨t,bE⟩:=Jl hw' hi hj
   exact(h2 i j t bE).one
end
section
variable {P:Program} {w:World}
theorem Q5(b:Nat)(t:TypeId):∀(vs:List Value) (o:Nat) (w:World) (bT:Array Value),w.heap[b]?=some (.cells bT t (0,0))->
  (w.setCells b o vs).heap[b]?=some (.cells (xX vs o bT) t (0,0))∧(∀c,c≠b->(w.setCells b o vs).heap[c]?=w.heap[c]?)∧(w.setCells b o vs).heap.size=w.heap.size∧
   jk w (w.setCells b o vs)
 | [],o,w,bT,h=>⟨h,λ_ _=>rfl,rfl,⟨rfl,rfl,rfl⟩⟩
 |v::vs,o,w,bT,h=>by
  have h1:=heap_setCell_same w b o bT t v h
  obtain⟨g1,g2,g3,g4⟩:=Q5 b t vs (o+1) _ _ h1
  refine⟨g1,λc hc=>(g2 c hc).trans (heap_setCell_other w ⟨b,o,none⟩ c v hc),?_,?_⟩
  ·rw[World.setCells,g3];simp
  ·exact⟨g4.os.trans rfl,g4.tape.trans rfl,g4.output.trans rfl⟩
def Jm(w:World)(sz:Nat)(v:Value)(n:Nat)(b0:Option Nat)(cv:Nat->Nat->Value):Prop:=
 (v=.slice none 0 0∧n=0∧b0=none)∨∃b cap bT elem,v=.slice (some ⟨b,0,none⟩) n cap∧b0=some b∧w.heap[b]?=some (.cells bT elem (0,0))∧bT.size=cap*sz∧n<=cap∧(n=0->cap=0)∧
  ∀i j,i<n->j<sz->bT[i*sz+j]?=some (cv i j)
structure Q6 (w w':World) (sz:Nat) (v':Value) (n m:Nat) (b0 nb:Option Nat) (cv rH:Nat->Nat->Value):Prop where
 so:jk w w'
 size:w.heap.size<=w'.heap.size
 oth:∀c,c<w.heap.size->nb≠some c->w'.heap[c]?=w.heap[c]?
 at_:∀c,nb=some c->(c=w.heap.size∨b0=some c)∧c<w'.heap.size
 row:(nb=none∧v'=.slice none 0 0∧n=0∧m=0)∨∃b cap bT elem,nb=some b∧v'=.slice (some ⟨b,0,none⟩) (n+m) cap∧w'.heap[b]?=some (.cells bT elem (0,0))∧bT.size=cap*sz∧n+m<=cap∧(n+m=0->cap=0)∧
  (∀i j,i<n->j<sz->bT[i*sz+j]?=some (cv i j))∧∀i j,i<m->j<sz->bT[(n+i)*sz+j]?=some (rH i j)
theorem Ay{i n j sz:Nat}(hi:i<n)(hj:j<sz):i*sz+j<n*sz:=by
 have:(i+1)*sz<=n*sz:=Nat.mul_le_mul_right _ hi
 rw[Nat.add_mul]at this
 omega
theorem ae6{bT:Array Value}{sz n:Nat}{cv:Nat->Nat->Value}(gY:0<sz)(h:∀i j,i<n->j<sz->bT[i*sz+j]?=some (cv i j)){k:Nat}{u:Value}(hu:(qW cv sz n)[k]?=some u):bT[k]?=some u:=by
 have hk:k<n*sz:=by rw[<-zp cv sz n];exact(List.getElem?_eq_some_iff.1 hu).1
 have hi:k/sz<n:=Nat.div_lt_of_lt_mul (by rw[Nat.mul_comm];exact hk)
 have hj:k%sz<sz:=Nat.mod_lt _ gY
 have mZ:(k/sz)*sz+k%sz=k:=by rw[Nat.mul_comm];exact Nat.div_add_mod k sz
 have h1:=Ax (cv:=cv) hi hj
 rw[mZ,hu]at h1
 cases h1
 have h2:=h _ _ hi hj
 rw[mZ]at h2
 exact h2
theorem ae7{t tx ty e:TypeId}{i:TypeInfo}{z:Value}(ht:P.underlying t=some (.slice e))(hi:P.info? e=some i)(hz:i.zero=some z){sz:Nat}(hs:i.size=sz)(Aw:z.cells.size=sz)(gY:0<sz)
  (hby:i.bytes<=32768){va vb:Value}{n m:Nat}{b0:Option Nat}{cv rH:Nat->Nat->Value}(hr:Jm w sz va n b0 cv)(nO:Src P sz tx vb m (qW rH sz m) w)(o_:n+m<qS):
  ∃v' w' nb,(Builtin.append_ #[t,tx] ty #[va,vb]).run P w=.ok v' w'∧Q6 w w' sz v' n m b0 nb cv rH:=by
 subst hs
 have av':n+m<4294967296:=o_
 have grown:∀(base:Option Addr) (vF:Nat),(Builtin.firstCells i.size n (.slice base n vF)).run P w.drew=.ok (qW cv i.size n).toArray w.drew->vF<n+m->
   ∃v' w' nb,(Builtin.append_ #[t,tx] ty #[.slice base n vF,vb]).run P w=.ok v' w'∧Q6 w w' i.size v' n m b0 nb cv rH:=by
  intro base vF hold be
  have kY:Builtin.nextslicecap (n+m) vF*i.bytes<=281474976710656:=growslice_fits (by omega) (by
   calc (n+m)*i.bytes<=4294967296*32768:=Nat.mul_le_mul (by omega) hby
    _=140737488355328:=by rfl)
  have eB:=run_append_grow_src (P:=P) w t tx ty e i z ht hi hz base n vF _ hold vb m _ nO be (by omega) kY
  refine⟨_,_,some w.heap.size,eB,⟨⟨rfl,rfl,rfl⟩,by simp,λc hc _=>heap_alloc_old w.drew _ c hc,λc hc=>by cases hc;exact⟨.inl rfl,by simp⟩,.inr ⟨w.heap.size,_,_,e,rfl,rfl,heap_alloc_new w.drew _,?_,grownCap_ge w _ _ _,λh0=>by omega,?_,?_⟩⟩⟩
  ·have Q7:=grownCap_ge w (n+m) vF e
   simp only[Array.size_append,List.size_toArray,List.length_append,zp,size_zeroCells,Aw,<-Nat.add_mul]
   congr 1
   omega
  ·intro ii j rB hj
   have m8:=Ay rB hj
   rw[Array.getElem?_append_left (by simp only[List.size_toArray,List.length_append,zp];omega),List.getElem?_toArray,List.getElem?_append_left (by rw[zp];exact m8)]
   exact Ax rB hj
  ·intro ii j rB hj
   have m8:=Ay rB hj
   have e1:(n+ii)*i.size+j=n*i.size+(ii*i.size+j):=by rw[Nat.add_mul];omega
   rw[Array.getElem?_append_left (by simp only[List.size_toArray,List.length_append,zp];omega),List.getElem?_toArray,List.getElem?_append_right (by rw[zp];omega),zp,
    show(n+ii)*i.size+j-n*i.size=ii*i.size+j by omega]
   exact Ax rB hj
 rcases hr with⟨rfl,rfl,rfl⟩|⟨b,cap,bT,elem,rfl,rfl,hb,wN,hnc,Am,rE⟩
 ·by_cases hm:m=0
  ·subst hm
   refine⟨.slice none 0 0,w,none,?_,⟨⟨rfl,rfl,rfl⟩,Nat.le_refl _,λ_ _ _=>rfl,(λc hc=>by cases hc),.inl ⟨rfl,rfl,rfl,rfl⟩⟩⟩
   rcases nO.kind with⟨e',hk⟩|hk<;>simp[Builtin.append_,run_underlying ht,run_underlying hk,sizeOf,typeInfo,hi,nO.len,nO.cells]
  ·refine grown none 0 ?_ (by omega)
   have:=run_firstCells_none (P:=P) w.drew i.size 0 0 0
   simpa[qW]using this
 ·by_cases tw:n+m<=cap
  ·have HG:n*i.size+(qW rH i.size m).length<=bT.size:=by rw[zp,wN,<-Nat.add_mul];exact Nat.mul_le_mul_right _ tw
   have eB:=run_append_room_src (P:=P) w t tx ty e i ht hi b 0 n cap vb m _ nO tw (λj hj=>by
    rw[xN hb];simp only[Nat.zero_add];rw[Array.getElem?_eq_getElem (by omega)];rfl) (λj hj=>by simp[World.frozen?,hb])
   obtain⟨g1,g2,g3,g4⟩:=Q5 b elem (qW rH i.size m) (0+n*i.size) w bT hb
   have ae9:b<w.heap.size:=OT hb
   refine⟨_,_,some b,eB,⟨g4,by rw[g3];exact Nat.le_refl _,λc _ hc=>g2 c λe=>hc (by rw[e]),λc hc=>by cases hc;exact⟨.inr rfl,by rw[g3];exact ae9⟩,.inr ⟨b,cap,_,elem,rfl,rfl,g1,?_,tw,λh0=>Am (by omega),?_,?_⟩⟩⟩
   ·rw[OV];exact wN
   ·intro ii j rB hj
    have m8:=Ay rB hj
    rw[OW _ _ _ _ (by simpa using HG),if_neg (by omega)]
    exact rE ii j rB hj
   ·intro ii j rB hj
    have m8:=Ay rB hj
    have e1:(n+ii)*i.size+j=n*i.size+(ii*i.size+j):=by rw[Nat.add_mul];omega
    rw[OW _ _ _ _ (by simpa using HG),if_pos ⟨by omega,by rw[zp];omega⟩,show(n+ii)*i.size+j-(0+n*i.size)=ii*i.size+j by omega]
    exact Ax rB hj
  ·refine grown (some ⟨b,0,none⟩) cap ?_ (by omega)
   have:=run_firstCells_some (P:=P) w.drew i.size n ⟨b,0,none⟩ n cap (qW cv i.size n) (zp _ _ _) (λj u hu=>by
    rw[Addr.add_lit]
    simp only[Nat.zero_add,World.cell?_drew]
    rw[xN hb]
    exact ae6 gY rE hu)
   exact this
end
section
variable {M:Nat->Prop} {B:eI} {d:Nat} {up:Nat->Nat->Value} {ρ:List T} {G:Gh} {a:Act} {w:World} {S:Nat->af} {P:Program}
def ku(kA kx:Wk)(W:St):Prop:=kA.r=kx.r∧∀r,kA.w.look r=(W.look r).or (kx.w.look r)
theorem ae_{k kA:Wk}{G1:Gh}{X:SV}{va:Value}{la:Lf}{HH kh:Bool}(hk:dh M B d up ρ G a w k G1)(hr:cD G1 w ρ X va)(hm:∀i∈de X,M i)(h:IA k X=some (kA,la,HH))
  (gA:kh=true->HH=true):kA.ct=k.ct∧kA.is=k.is∧∃kx G2 WA xs,dh M B d up ρ G a w kx G2∧kx.ct=k.ct∧ku kA kx WA∧la.fE ρ=some (.l xs)∧
   ((va=.slice none 0 0∧xs=[]∧WA=[])∨∃kN,WA=[(.o kN,.un)]∧M kN∧kN%4≠2∧va=G2.H kN []∧eX G2 w kN kh [] (.l xs)):=by
 unfold IA at h
 split at h
 ·simp only[br,Prod.mk.injEq]at h
  obtain⟨rfl,rfl,rfl⟩:=h
  obtain⟨e,he,qs,_⟩:=hr
  cases he
  exact⟨rfl,rfl,k,G1,[],[],hk,rfl,⟨rfl,λr=>by simp[St.look]⟩,rfl,.inl ⟨qs,rfl,rfl⟩⟩
 ·rename_i id
  split at h
  ·rename_i dp x hx
   cases rJ:Nat.beq (id%4) 2 with
   |true=>simp[rJ]at h
   |false=>
   have Az:id%4≠2:=λe=>by rw[e]at rJ;cases rJ
   simp only[rJ,cond_false,br,Prod.mk.injEq]at h
   obtain⟨rfl,rfl,rfl⟩:=h
   obtain⟨e,he,qs,_⟩:=hr
   cases he
   obtain⟨p,hp,hva⟩:=qs
   simp only[l7,br]at hp
   subst hp
   have hM:M id:=hm id (by simp[de,dF])
   refine⟨rfl,rfl,?_⟩
   by_cases hd:kh=dp
   ·subst hd
    have ei:=hk.obj id
    rw[hx]at ei
    obtain⟨t,ht,bI⟩:=ei
    obtain⟨xs,rfl⟩:∃ys,t=.l ys:=by cases bI<;>exact⟨_,rfl⟩
    exact⟨k,G1,[(.o id,.un)],xs,hk,rfl,⟨rfl,λr=>uM r⟩,ht,.inr ⟨id,rfl,hM,Az,hva,bI⟩⟩
   ·have e1:kh=false:=by cases kh<;>cases dp<;>simp_all
    subst e1
    have wK:k.flat id=some (k.set (.o id) (.ob false x)):=by unfold Wk.flat;rw[hx]
    obtain⟨G2,w2,f1,f2,f3,f4,f5⟩:=hk.flat wK
    have ei:=w2.obj id
    rw[Wk.cg]at ei
    obtain⟨t,ht,bI⟩:=ei
    obtain⟨xs,rfl⟩:∃ys,t=.l ys:=by cases bI<;>exact⟨_,rfl⟩
    refine⟨_,G2,[(.o id,.un)],xs,w2,f4,⟨rfl,λr=>?_⟩,ht,.inr ⟨id,rfl,hM,Az,by rw[f2];exact hva,bI⟩⟩
    rw[show(k.set (.o id) .un).w.look r=_ from uM r,uL]
    by_cases rG:bn.o id=r
    ·subst rG;simp
    ·simp only[rG,if_false,Option.none_or]
     exact(St.cz _ _ rG).symm
  ·cases h
 ·cases h
def Ea(G:Gh)(w:World)(kh:Bool)(mj:Option Nat)(ys:List (List T))(cv:Nat->Nat->Value):Prop:=
 (kh=false∧∀i j t,dK ys i j=some t->eM G.q w t (cv i j))∨
 ((∀i j t,dK ys i j=some t->eA t=true∧eM (er G.ω) w t (cv i j)))∨
 (∃id,kh=true∧mj=some id∧(∀i j zs,dK ys i j=some (.l zs)->eX G w id true [(i,j)] (.l zs))∧(∀i j v,dK ys i j=some (.c v)->cv i j=v∧j_ v=true)∧∀i j zs,dK ys i j=some (.l zs)->cv i j=G.H id [(i,j)])
theorem ku.get{kA kx:Wk}{W:St}(h:ku kA kx W){r:bn}(hr:W.look r=none):kA.get r=kx.get r:=by
 unfold Wk.get
 rw[h.2,hr,h.1]
 simp
theorem eX.rows{G1:Gh}{id:Nat}{ys:List (List T)}(h:eX G1 w id true [] (.l ys)):∀i j zs,dK ys i j=some (.l zs)->eX G1 w id true [(i,j)] (.l zs):=by
 intro i j zs bE
 have:=eX.dJ [(i,j)] h (by simp[iw,bE]) ⟨zs,rfl⟩
 simpa using this
theorem Q8{G1:Gh}{id:Nat}{dp:Bool}{ys:List (List T)}{v:Value}(h:eX G1 w id dp [] (.l ys))(hv:v=G1.H id []){sz:Nat}(gY:0<sz)(dQ:okW sz ys=true){tx e':TypeId}(ht:P.underlying tx=some (.slice e')):
  ∃cv:Nat->Nat->Value,Src P sz tx v ys.length (qW cv sz ys.length) w∧(∀r∈ys,r.length=sz)∧(∀i j v,dK ys i j=some (.c v)->cv i j=v∧j_ v=true)∧
   (dp=true->∀i j zs,dK ys i j=some (.l zs)->cv i j=G1.H id [(i,j)])∧(dp=false->∀i j t,dK ys i j=some t->eM G1.q w t (cv i j)):=by
 have dZ:=h.den
 rw[<-hv]at dZ
 obtain⟨cv,h1,h2,h3,h4⟩:=yb (P:=P) dZ gY dQ ht
 refine⟨cv,h1,h2,λi j u bE=>?_,λhd i j zs bE=>?_,λhd i j t bE=>?_⟩
 ·exact(h3 i j _ bE).scalar
 ·cases h with
  |nil=>simp[dK]at bE
  | @l _ _ _ b wd cap bT elem rH g1 g2 g3 g4 g5 g6 g7 g8 g9 xU DZ=>
   have hc:=h4 b 0 _ _ (by rw[hv];exact g1) i j _ bE
   have qp:wd=sz:=by
    obtain⟨r,_,hm,_⟩:=wD bE
    rw[<-g6 r hm,h2 r hm]
   subst qp
   rw[xN g4,Nat.zero_add,g7 i j _ bE]at hc
   rw[<-Option.some.inj hc]
   simpa using xU i j zs bE hd
 ·cases h with
  |nil=>simp[dK]at bE
  | @l _ _ _ b wd cap bT elem rH g1 g2 g3 g4 g5 g6 g7 g8 g9 xU DZ=>
   have hc:=h4 b 0 _ _ (by rw[hv];exact g1) i j _ bE
   have qp:wd=sz:=by
    obtain⟨r,_,hm,_⟩:=wD bE
    rw[<-g6 r hm,h2 r hm]
   subst qp
   rw[xN g4,Nat.zero_add,g7 i j _ bE]at hc
   rw[<-Option.some.inj hc]
   cases t with
   |c u=>obtain⟨e1,e2⟩:=g8 i j u bE;rw[e1];exact .c e2
   |l zs=>exact g9 i j zs bE hd
theorem ku.same{kA kx kB:Wk}{W:St}(h:ku kA kx W)(hs:kA.eP kB):ku kB kx W:=⟨hs.r.trans h.1,λr=>by rw[hs.w];exact h.2 r⟩
theorem ae'{kA kB:Wk}{Y:SV}{lb:Lf}{sl fz CT:Bool}(h:zQ sl fz kA Y=some (kB,lb,CT))(hd:kB.bA S ρ):kA.bA S ρ:=by
 unfold zQ at h
 split at h
 ·simp only[br,Prod.mk.injEq]at h;rw[h.1];exact hd
 ·simp only[br,Prod.mk.injEq]at h;rw[h.1];exact hd
 ·cases zq:sl with
  |false=>
   simp only[zq,cond_false,cG,br,Prod.mk.injEq]at h
   obtain⟨⟨k2,x2⟩,hv,rfl,_⟩:=h
   exact Wk.lJ hv hd
  |true=>
   simp only[zq,cond_true]at h
   split at h
   ·rename_i dp x hx
    cases hc:(dp&& !fz)with
    |true=>simp only[hc,cond_true,br,Prod.mk.injEq]at h;rw[<-h.1]at hd;exact hd
    |false=>simp only[hc,cond_false,br,Prod.mk.injEq]at h;rw[<-h.1]at hd;exact hd
   ·simp only[br,Prod.mk.injEq]at h;rw[h.1];exact hd
   ·cases sE:fz with
    |true=>simp[sE]at h
    |false=>simp only[sE,cond_false,br,Prod.mk.injEq]at h;rw[<-h.1]at hd;exact hd
   ·cases h
 ·cases h
theorem afa{kA kB kx:Wk}{G1:Gh}{WA:St}{Y:SV}{vb:Value}{lb:Lf}{sl fz CT kh:Bool}(hk:dh M B d up ρ G a w kx G1)(ho:ku kA kx WA)(tA:∀r u,WA.look r=some u->u=.un)
  (hr:cD G1 w ρ Y vb)(hm:∀i∈de Y,M i)(h:zQ sl fz kA Y=some (kB,lb,CT))(hd:kB.bA S ρ)(gA:kh=true->CT=true):
  kA.bA S ρ∧kB.ct.i=kA.ct.i∧∃ky G3 WB t mj,dh M B d up ρ G a w ky G3∧ku kB ky (WB++WA)∧((WB=[]∧mj=none)∨∃i,mj=some i∧WB=[(.o i,.un)]∧WA.look (.o i)=none∧M i)∧
   lb.fE ρ=some t∧G3.H=G1.H∧di (λl=>∃i p,l=.o i p∧WA.look (.o i)=none) (λ_=>False) G1 w G3 w∧(∀i p,∀b,G3.ω b=some (.o i p)->G1.ω b=some (.o i p))∧
   ∀ys sz tx e',t=.l ys->0<sz->okW sz ys=true->(sl=false->ys.all (·.all eA)=true)->P.underlying tx=some (.slice e')->
    ∃cv,Src P sz tx vb ys.length (qW cv sz ys.length) w∧(∀r∈ys,r.length=sz)∧Ea G3 w kh mj ys cv:=by
 have stay:di (λl=>∃i p,l=.o i p∧WA.look (.o i)=none) (λ_=>False) G1 w G1 w:=(di.refl G1 w).mono (λ_ hf=>hf.elim) λ_ hf=>hf
 have tB:∀ys:List (List T),ys.all (·.all eA)=true->∀i j t,dK ys i j=some t->eA t=true:=by
  intro ys hs i j t bE
  obtain⟨r,_,iB,HC,_⟩:=wD bE
  exact List.all_eq_true.1 (List.all_eq_true.1 hs r iB) t (List.mem_of_getElem? HC)
 unfold zQ at h
 split at h
 ·
  simp only[br,Prod.mk.injEq]at h
  obtain⟨rfl,rfl,rfl⟩:=h
  obtain⟨e,he,qs,_⟩:=hr
  cases he
  refine⟨hd,rfl,kx,G1,[],.l [],none,hk,ho,.inl ⟨rfl,rfl⟩,rfl,rfl,stay,λ_ _ _ h=>h,λys sz tx e' ht gY dQ _ rL=>?_⟩
  cases ht
  rw[show vb=_ from qs]
  obtain⟨cv,h1,h2,_,_⟩:=yb (P:=P) (.nil:eM G1.q w (.l []) (.slice none 0 0)) gY dQ rL
  exact⟨cv,h1,h2,.inr (.inl λi j t bE=>by simp[dK]at bE)⟩
 ·
  simp only[br,Prod.mk.injEq]at h
  obtain⟨rfl,rfl,rfl⟩:=h
  obtain⟨e,he,qs,_⟩:=hr
  cases he
  obtain⟨t,ht,dZ⟩:=qs
  refine⟨hd,rfl,kx,G1,[],t,none,hk,ho,.inl ⟨rfl,rfl⟩,ht,rfl,stay,λ_ _ _ h=>h,λys sz tx e' ht gY dQ l9 rL=>?_⟩
  subst ht
  obtain⟨cv,h1,h2,h3,_⟩:=yb (P:=P) dZ gY dQ rL
  refine⟨cv,h1,h2,?_⟩
  cases hb:kh with
  |false=>exact .inl ⟨rfl,h3⟩
  |true=>
   have:=gA hb
   have zq:sl=false:=by simpa using this
   exact .inr (.inl λi j t bE=>⟨tB ys (l9 zq) i j t bE,(h3 i j t bE).er⟩)
 ·
  rename_i id q
  obtain⟨e,he,qs,_⟩:=hr
  cases he
  have hMi:M id:=hm id (by simp[de,dF])
  cases zq:sl with
  |false=>
   simp only[zq,cond_false,cG,br,Prod.mk.injEq]at h
   obtain⟨⟨k2,x2⟩,hv,rfl,rfl,rfl⟩:=h
   have cS:WA.look (.o id)=none:=by
    cases hl:WA.look (.o id)with
    |none=>rfl
    |some u=>
     exfalso
     have hu:=tA _ _ hl
     subst hu
     have:kA.get (.o id)=.un:=by unfold Wk.get;rw[ho.2,hl];simp
     simp[Wk.val,this]at hv
   obtain⟨t,ht,dZ⟩:=Wk.kV hv hd qs λi hi=>by
    simp[dF]at hi
    subst hi
    rw[ho.get cS]
    exact hk.obj i
   refine⟨Wk.lJ hv hd,(Wk.dO hv).i,kx,G1,[],t,none,hk,ho.same (Wk.dO hv),.inl ⟨rfl,rfl⟩,ht,rfl,stay,λ_ _ _ h=>h,λys sz tx e' ht gY dQ l9 rL=>?_⟩
   subst ht
   obtain⟨cv,h1,h2,h3,_⟩:=yb (P:=P) dZ gY dQ rL
   exact⟨cv,h1,h2,.inr (.inl λi j t bE=>⟨tB ys (l9 rfl) i j t bE,h3 i j t bE⟩)⟩
  |true=>
   simp only[zq,cond_true]at h
   have cS:kA.get (.o id)≠.un->WA.look (.o id)=none:=by
    intro dk
    cases hl:WA.look (.o id)with
    |none=>rfl
    |some u=>
     exfalso
     have hu:=tA _ _ hl
     subst hu
     exact dk (by unfold Wk.get;rw[ho.2,hl];simp)
   obtain⟨p,hp,Q9⟩:=qs
   split at h
   ·rename_i dp x hx
    have hn:=cS (by rw[hx];simp)
    simp only[l7,br]at hp
    subst hp
    have Q_:kx.get (.o id)=.ob dp x:=by rw[<-ho.get hn];exact hx
    have tC:kh=false->∃ky G3,ky=kx.set (.o id) (.ob false x)∧dh M B d up ρ G a w ky G3∧G3.H=G1.H∧di (λl=>∃i p,l=.o i p∧WA.look (.o i)=none) (λ_=>False) G1 w G3 w∧(∀i p,∀b,G3.ω b=some (.o i p)->G1.ω b=some (.o i p))∧
      ∃t,x.fE ρ=some t∧∀ys sz tx e',t=.l ys->0<sz->okW sz ys=true->P.underlying tx=some (.slice e')->∃cv,Src P sz tx vb ys.length (qW cv sz ys.length) w∧(∀r∈ys,r.length=sz)∧∀mj,Ea G3 w kh mj ys cv:=by
     intro afc
     have hG:dh M B d up ρ G a w (kx.set (.o id) (.ob false x)) (G1.free id false):=by
      have hx3:=Q_
      rw[Wk.aS]at hx3
      refine⟨(hk.rel.flat hx3).congr (Hx _ _ _ _),(hk.aY.mono (λl hl=>Hw hl) λ_ hn=>hn).trans ((G1.fg id false w).mono ?_ λ_ hn=>hn)⟩
      rintro l ⟨p,rfl⟩
      show(kx.w.set _ _).look (.o id)≠none
      rw[St.bg];simp
     refine⟨_,G1.free id false,rfl,hG,rfl,(G1.fg id false w).mono (λl ⟨p,hp⟩=>⟨id,p,hp,hn⟩) (λ_ hf=>hf),λi p b hb=>?_,?_⟩
     ·simp only[Gh.free]at hb
      split at hb
      ·split at hb
       ·cases hb
       ·rename_i hw _;rw[hw];exact hb
      ·exact hb
     ·have ei:=hG.obj id
      rw[Wk.cg]at ei
      obtain⟨t,ht,bI⟩:=ei
      refine⟨t,ht,λys sz tx e' pI gY dQ rL=>?_⟩
      subst pI
      obtain⟨cv,h1,h2,_,_,h5⟩:=Q8 (P:=P) bI Q9 gY dQ rL
      exact⟨cv,h1,h2,λ_=>.inl ⟨afc,h5 rfl⟩⟩
    cases hc:(dp&& !fz)with
    |true=>
     simp only[hc,cond_true,br,Prod.mk.injEq]at h
     obtain⟨rfl,rfl,rfl⟩:=h
     simp only[bk]at hc
     cases O0:kh with
     |false=>
      obtain⟨ky,G3,rfl,w3,e3,kp,e4,t,ht,nO⟩:=tC O0
      refine⟨hd,rfl,_,G3,[(.o id,.un)],t,some id,w3,⟨ho.1,λr=>?_⟩,.inr ⟨id,rfl,rfl,hn,hMi⟩,ht,e3,kp,e4,λys sz tx e' pI gY dQ _ rL=>?_⟩
      ·rw[show(kA.set (.o id) .un).w.look r=_ from uM r,l_,uL,ho.2]
       by_cases rG:bn.o id=r
       ·subst rG;simp
       ·simp only[rG,if_false,Option.none_or]
        rw[show(kx.set (.o id) (.ob false x)).w.look r=_ from St.cz _ _ rG]
      ·obtain⟨cv,h1,h2,h3⟩:=nO ys sz tx e' pI gY dQ rL
       rw[<-O0]
       exact⟨cv,h1,h2,h3 _⟩
     |true=>
      have ei:=hk.obj id
      rw[Q_,hc.1]at ei
      obtain⟨t,ht,bI⟩:=ei
      refine⟨hd,rfl,kx,G1,[(.o id,.un)],t,some id,hk,⟨ho.1,λr=>?_⟩,.inr ⟨id,rfl,rfl,hn,hMi⟩,ht,rfl,stay,λ_ _ _ h=>h,λys sz tx e' pI gY dQ _ rL=>?_⟩
      ·rw[show(kA.set (.o id) .un).w.look r=_ from uM r,l_,ho.2,Option.or_assoc]
      ·subst pI
       obtain⟨cv,h1,h2,h3,h4,_⟩:=Q8 (P:=P) bI Q9 gY dQ rL
       exact⟨cv,h1,h2,.inr (.inr ⟨id,rfl,rfl,bI.rows,h3,h4 rfl⟩)⟩
    |false=>
     simp only[hc,cond_false,br,Prod.mk.injEq]at h
     obtain⟨rfl,rfl,rfl⟩:=h
     have O0:kh=false:=by cases kh with|false=>rfl|true=>exact absurd (gA rfl) (by simp)
     obtain⟨ky,G3,rfl,w3,e3,kp,e4,t,ht,nO⟩:=tC O0
     refine⟨hd,rfl,_,G3,[],t,none,w3,⟨ho.1,λr=>?_⟩,.inl ⟨rfl,rfl⟩,ht,e3,kp,e4,λys sz tx e' pI gY dQ _ rL=>?_⟩
     ·by_cases rG:bn.o id=r
      ·subst rG
       rw[show(kA.set (.o id) (.ob false x)).w.look (.o id)=_ from St.bg _ _ _,List.nil_append,hn]
       simp only[Option.none_or]
       exact(St.bg _ _ _).symm
      ·rw[show(kA.set (.o id) (.ob false x)).w.look r=_ from St.cz _ _ rG,ho.2,List.nil_append,show(kx.set (.o id) (.ob false x)).w.look r=_ from St.cz _ _ rG]
     ·obtain⟨cv,h1,h2,h3⟩:=nO ys sz tx e' pI gY dQ rL
      exact⟨cv,h1,h2,h3 _⟩
   ·rename_i x hx
    have hn:=cS (by rw[hx];simp)
    simp only[l7,br]at hp
    subst hp
    simp only[br,Prod.mk.injEq]at h
    obtain⟨rfl,rfl,rfl⟩:=h
    have O0:kh=false:=by cases kh with|false=>rfl|true=>exact absurd (gA rfl) (by simp)
    have ei:=hk.obj id
    rw[<-ho.get hn,hx]at ei
    obtain⟨t,ht,dZ,_⟩:=ei
    refine⟨hd,rfl,kx,G1,[],t,none,hk,ho,.inl ⟨rfl,rfl⟩,ht,rfl,stay,λ_ _ _ h=>h,λys sz tx e' pI gY dQ _ rL=>?_⟩
    subst pI
    rw[<-Q9]at dZ
    obtain⟨cv,h1,h2,h3,_⟩:=yb (P:=P) dZ gY dQ rL
    exact⟨cv,h1,h2,.inl ⟨O0,h3⟩⟩
   ·rename_i x hx
    have hn:=cS (by rw[hx];simp)
    simp only[l7,br]at hp
    subst hp
    cases sE:fz with
    |true=>simp[sE]at h
    |false=>
     simp only[sE,cond_false,br,Prod.mk.injEq]at h
     obtain⟨rfl,rfl,rfl⟩:=h
     have ei:=hk.obj id
     rw[<-ho.get hn,hx]at ei
     obtain⟨h40,ys,ht,dZ,tg,bI⟩:=ei
     refine⟨hd,rfl,kx,G1,[(.o id,.un)],_,some id,hk,⟨ho.1,λr=>?_⟩,.inr ⟨id,rfl,rfl,hn,hMi⟩,ht,rfl,stay,λ_ _ _ h=>h,λys' sz tx e' pI gY dQ _ rL=>?_⟩
     ·rw[show(kA.set (.o id) .un).w.look r=_ from uM r,l_,ho.2,Option.or_assoc]
     ·cases pI
      have m9:=dZ
      rw[<-Q9]at m9
      obtain⟨cv,h1,h2,h3,h4⟩:=yb (P:=P) m9 gY dQ rL
      refine⟨cv,h1,h2,?_⟩
      cases hb:kh with
      |false=>exact .inl ⟨rfl,h3⟩
      |true=>
       refine .inr (.inr ⟨id,rfl,rfl,bI,λi j v bE=>(h3 i j _ bE).scalar,λi j zs bE=>?_⟩)
       obtain⟨ad,cap,sC,_⟩:=m9.rows
       cases ad with
       |none=>
        rw[sC]at m9
        generalize sA:Value.slice none ys.length cap=vv at m9
        cases m9 with
        |nil=>simp[dK]at bE
        |l=>cases sA
       |some ad=>
        obtain⟨b,off,r0⟩:=ad
        rw[sC]at m9
        generalize sA:Value.slice (some ⟨b,off,r0⟩) ys.length cap=vv at m9
        cases m9 with
        |nil=>simp[dK]at bE
        | @l _ b2 axd wd Jc cv2 g1 g2 g3 g4 g5 g6=>
         cases sA
         obtain⟨CR,w1,w2⟩:=tg b off _ _ (by rw[<-Q9];exact sC)
         have e1:=h4 b off _ _ sC i j _ bE
         have e2:=w2 i j zs bE
         obtain⟨row,_,iB,_⟩:=wD bE
         rw[<-w1 row iB,h2 row iB,e1]at e2
         simpa using e2
   ·cases h
 ·cases h
theorem afd{sc:Bool}{sz:Nat}{xs:List (List T)}{t r:T}(h:Prim.ev (.app sc sz) [.l xs,t]=some r):
  ∃ys,t=.l ys∧xs.length+ys.length<qS∧(sc=true->ys.all (·.all eA)=true)∧okW sz xs=true∧okW sz ys=true∧r=.l (xs++ys):=by
 cases t with
 |c v=>simp[Prim.ev]at h
 |l ys=>
  simp only[Prim.ev]at h
  split at h
  ·rename_i h1
   split at h
   ·rename_i h2
    split at h
    ·rename_i h3
     split at h
     ·rename_i h4
      simp only[br]at h
      exact⟨ys,rfl,h1,λhs=>by subst hs;simpa using h2,h3,h4,h.symm⟩
     ·cases h
    ·cases h
   ·cases h
  ·cases h
theorem afe{G1:Gh}{id:Nat}{dp:Bool}{xs:List (List T)}{v:Value}(h:eX G1 w id dp [] (.l xs))(hv:v=G1.H id []){sz:Nat}(dQ:okW sz xs=true):
  ∃(cv:Nat->Nat->Value) (b0:Option Nat),Jm w sz v xs.length b0 cv∧(∀b,b0=some b->G1.ω b=some (.o id []))∧pN G1 w id dp sz 0 xs cv:=by
 cases h with
 |nil hH=>
  refine⟨λ_ _=>undef,none,.inl ⟨by rw[hv,hH],rfl,rfl⟩,λb hb=>(by cases hb),⟨λr hr=>(by cases hr),?_,?_,?_,?_⟩⟩<;>intro i j t bE<;>simp[dK]at bE
 | @l _ _ _ b wd cap bT elem cv g1 g2 g3 g4 g5 g6 g7 g8 g9 xU DZ=>
  by_cases hx:xs=[]
  ·subst hx
   have o_:=g2.2 rfl
   subst o_
   refine⟨cv,some b,.inr ⟨b,0,bT,elem,by rw[hv,g1],rfl,g4,by rw[g5];simp,Nat.le_refl _,λ_=>rfl,λi j hi _=>by simp at hi⟩,λc hc=>by cases hc;exact g3,⟨λr hr=>(by cases hr),?_,?_,?_,?_⟩⟩<;>intro i j t bE<;>simp[dK]at bE
  ·have qp:wd=sz:=by
    cases xs with
    |nil=>exact absurd rfl hx
    |cons r xs=>rw[<-g6 r (by simp)];exact dN dQ
   subst qp
   refine⟨cv,some b,.inr ⟨b,cap,bT,elem,by rw[hv,g1],rfl,g4,g5,g2.1,λh0=>g2.2 (List.eq_nil_of_length_eq_zero h0),λi j hi hj=>?_⟩,λc hc=>by cases hc;exact g3,⟨g6,g8,g9,?_,?_⟩⟩
   ·obtain⟨t,bE⟩:=Jl g6 hi hj
    exact g7 i j t bE
   ·intro i j ys bE hd
    simpa using xU i j ys bE hd
   ·intro i j ys bE hd
    simpa using DZ i j ys bE hd
end
def sF(ja jb:Option Nat)(i n:Nat):Lb->Option Lb
 | .f=>some .f
 | .x b=>some (.x b)
 | .o j p=>
  if ja=some j then(match p with| []=>some (.o j [])|x::p=>some (.o i (x::p)))
  else if jb=some j then(match p with| []=>some (.o j [])|(r,c)::p=>some (.o i ((n+r,c)::p)))
  else some (.o j p)
theorem Q'(i:Nat):eT i%2=0:=by unfold eT;omega
theorem Jn{ja jb:Option Nat}{i n:Nat}(hi:i%2=0)(l l':Lb)(hq:qt l=true)(h:sF ja jb i n l=some l'):qt l'=true:=by
 cases l with
 |o j p=>
  cases p with
  |nil=>
   simp only[sF]at h
   split at h
   ·cases h;exact hq
   ·split at h
    ·cases h;exact hq
    ·cases h;exact hq
  |cons x p=>
   obtain⟨r,c⟩:=x
   simp only[sF]at h
   split at h
   ·cases h;exact vx hi (by simp)
   ·split at h
    ·cases h;exact vx hi (by simp)
    ·cases h;exact hq
 |_=>simp[qt]at hq
def rM(G:Gh)(ja jb:Option Nat)(n:Nat)(v:Value):List (Nat×Nat)->Value
 | []=>v
 |(r,c)::p=>if r<n then(match ja with|some j=>G.H j ((r,c)::p)|none=>.slice none 0 0)else(match jb with|some j=>G.H j ((r-n,c)::p)|none=>.slice none 0 0)
theorem Jo{G:Gh}{ja jb:Option Nat}{n:Nat}{v:Value}(hv:∃a m c,v=.slice a m c)(p:List (Nat×Nat)):∃a m c,rM G ja jb n v p=.slice a m c:=by
 cases p with
 |nil=>exact hv
 |cons x p=>
  obtain⟨r,k⟩:=x
  by_cases hr:r<n
  ·simp only[rM,if_pos hr]
   cases ja with
   |none=>exact⟨_,_,_,rfl⟩
   |some j=>exact G.hs j _
  ·simp only[rM,if_neg hr]
   cases jb with
   |none=>exact⟨_,_,_,rfl⟩
   |some j=>exact G.hs j _
section
variable {M:Nat->Prop} {B:eI} {d:Nat} {up:Nat->Nat->Value} {ρ:List T} {G:Gh} {a:Act} {w:World} {S:Nat->af} {P:Program}
variable {cx:Cx} {cC eW oi:Nat} {s:St} {R:List bn} {ct:Ct} {k':Wk} {o:Oper} {Q:Exit->Act->World->Prop}
theorem aff{G3:Gh}{w':World}{kN i n:Nat}{kh:Bool}{sz:Nat}{xs:List (List T)}{cv:Nat->Nat->Value}(h:pN G3 w kN kh sz 0 xs cv)(hn:xs.length<=n)
  {nb:Option Nat}{jb:Option Nat}{v:Value}{mY:∀p,∃a m c,rM G3 (some kN) jb n v p=.slice a m c}(vD:∀c,nb=some c->c=w.heap.size∨G3.ω c=some (.o kN []))(zr:kN%4≠2)
  (hi:i%2=0)(mi:∀b l,G3.ω b=some l->b<w.heap.size)(gY:w.heap.size<=w'.heap.size)(hh:∀c,c<w.heap.size->nb≠some c->w'.heap[c]?=w.heap[c]?):
  pN (G3.dB nb i (sF (some kN) jb i n) (rM G3 (some kN) jb n v) mY) w' i kh sz 0 xs cv:=by
 have pK:∀b,b<w.heap.size->G3.q b=none->(G3.dB nb i (sF (some kN) jb i n) (rM G3 (some kN) jb n v) mY).q b=none∧w'.heap[b]?=w.heap[b]?:=by
  intro b hb h0
  have dk:nb≠some b:=by
   intro e
   rcases vD b e with rfl|h1
   ·omega
   ·exact vt h1 (DO zr) h0
  exact⟨D9 (Jn hi) dk h0,hh b hb dk⟩
 refine⟨h.wd,h.sc,λr c ys bE hd=>(h.pl r c ys bE hd).aY gY pK,λr c ys bE hd=>?_,λr c ys bE hd=>?_⟩
 ·have be:r<n:=by obtain⟨_,_,_,_,q1,_⟩:=wD bE;omega
  have:=h.hd r c ys bE hd
  simp only[Nat.zero_add]at this⊢
  rw[this]
  simp[Gh.dB,rM,be]
 ·have be:r<n:=by obtain⟨_,_,_,_,q1,_⟩:=wD bE;omega
  have:=h.ow r c ys bE hd
  simp only[Nat.zero_add]at this⊢
  refine this.move rfl (λe q he=>?_) λq=>by simp[Gh.dB,rM,be]
  have m8:=mi e _ he
  have dk:nb≠some e:=by
   intro e'
   rcases vD e e' with rfl|h1
   ·omega
   ·rw[he]at h1;simp at h1
  refine⟨?_,hh e m8 dk⟩
  simp only[Gh.dB,dk,if_false,he,Option.bind_some,sF,if_true]
  rfl
theorem afg{G3:Gh}{w':World}{i n:Nat}{ja:Option Nat}{kh:Bool}{sz:Nat}{ys:List (List T)}{cv:Nat->Nat->Value}{mj:Option Nat}(h:Ea G3 w kh mj ys cv)(gA:∀id,mj=some id->ja≠some id)
  (hw:∀r∈ys,r.length=sz){nb:Option Nat}{v:Value}{mY:∀p,∃a m c,rM G3 ja mj n v p=.slice a m c}
  (vD:∀c,nb=some c->c=w.heap.size∨∃j,ja=some j∧G3.ω c=some (.o j [])∧j%4≠2)
  (hi:i%2=0)(mi:∀b l,G3.ω b=some l->b<w.heap.size)(gY:w.heap.size<=w'.heap.size)(hh:∀c,c<w.heap.size->nb≠some c->w'.heap[c]?=w.heap[c]?):
  pN (G3.dB nb i (sF ja mj i n) (rM G3 ja mj n v) mY) w' i kh sz n ys cv:=by
 have pK:∀b,b<w.heap.size->G3.q b=none->(G3.dB nb i (sF ja mj i n) (rM G3 ja mj n v) mY).q b=none∧w'.heap[b]?=w.heap[b]?:=by
  intro b hb h0
  have dk:nb≠some b:=by
   intro e
   rcases vD b e with rfl|⟨j,_,h1,xW⟩
   ·omega
   ·exact vt h1 (DO xW) h0
  exact⟨D9 (Jn hi) dk h0,hh b hb dk⟩
 have plain:kh=false->(∀i j t,dK ys i j=some t->eM G3.q w t (cv i j))->pN (G3.dB nb i (sF ja mj i n) (rM G3 ja mj n v) mY) w' i kh sz n ys cv:=by
  intro hf dZ
  exact⟨hw,λr c u bE=>(dZ r c _ bE).scalar,λr c zs bE _=>(dZ r c _ bE).aY gY pK,λr c zs _ hd=>(by rw[hf]at hd;cases hd),λr c zs _ hd=>(by rw[hf]at hd;cases hd)⟩
 rcases h with⟨hf,dZ⟩|l9|⟨id,l8,gS,bI,hs,hl⟩
 ·exact plain hf dZ
 ·refine⟨hw,λr c u bE=>(l9 r c _ bE).2.scalar,λr c zs bE _=>?_,λr c zs bE _=>?_,λr c zs bE _=>?_⟩<;>have:=(l9 r c _ bE).1<;>simp[eA]at this
 ·subst gS
  refine⟨hw,hs,λr c zs bE hd=>?_,λr c zs bE hd=>?_,λr c zs bE hd=>?_⟩
  ·rw[l8]at hd;cases hd
  ·rw[hl r c zs bE]
   simp[Gh.dB,rM,show¬(n+r<n) by omega]
  ··have:=bI r c zs bE
    refine this.move rfl (λe q he=>?_) λq=>by simp[Gh.dB,rM,show¬(n+r<n) by omega]
    have m8:=mi e _ he
    have dk:nb≠some e:=by
     intro e'
     rcases vD e e' with rfl|⟨j,hj,h1,_⟩
     ·omega
     ·rw[he]at h1;simp at h1
    have hja:ja≠some id:=gA id rfl
    refine⟨?_,hh e m8 dk⟩
    simp[Gh.dB,dk,he,sF,hja]
theorem afh{ja jb:Option Nat}{i n:Nat}{l l':Lb}(h:sF ja jb i n l=some l'):l'.id=l.id∨l'.id=i:=by
 cases l with
 |f=>simp only[sF,br]at h;subst h;exact .inl rfl
 |x b=>simp only[sF,br]at h;subst h;exact .inl rfl
 |o j p=>
  simp only[sF]at h
  split at h
  ·cases p with
   |nil=>simp only[br]at h;subst h;exact .inl rfl
   |cons x p=>simp only[br]at h;subst h;exact .inr rfl
  ·split at h
   ·cases p with
    |nil=>simp only[br]at h;subst h;exact .inl rfl
    |cons x p=>simp only[br]at h;subst h;exact .inr rfl
   ·simp only[br]at h;subst h;exact .inl rfl
theorem afi{ti tj te:TI}{t tx:Nat}(dT:eu P cx)(fJ:cx.ty t=some ti)(htj:cx.ty tx=some tj)(pF:cx.ty ti.el=some te)(iz:ti.kd=3)(hj3:tj.kd=3)(hby:te.bytes<=32768)(gY:0<te.sz)
  (h:Rel M B d up s ρ G a w)(hn:∀n,o.dst=some n->n<a.tmps.size){c:Call}{x y:Operand}(ho:o.op=.call c)(hc:c.callee=.builtin .append)(eZ:c.args.toList=[x,y])(bE:c.argTypes.toList=[t,tx])
  {k5 ky kw:Wk}{G3:Gh}{WA WB:St}{kN mj:Option Nat}{xs ys:List (List T)}{kh:Bool}{r:Lf}(w3:dh M B d up ρ G a w ky G3)(awc:ku k5 ky (WB++WA))(jg:k5.ct.i%2=0)(hM:¬M k5.ct.i)
  (tA:(kN=none∧WA=[]∧a.eval x=.slice none 0 0∧xs=[])∨∃i,kN=some i∧WA=[(.o i,.un)]∧M i∧i%4≠2∧a.eval x=G3.H i []∧eX G3 w i kh [] (.l xs))
  (Ra:(WB=[]∧mj=none)∨∃i,mj=some i∧WB=[(.o i,.un)]∧WA.look (.o i)=none∧M i)
  (afk:okW te.sz xs=true)(be:xs.length+ys.length<qS){cv:Nat->Nat->Value}{e':TypeId}(nO:Src P te.sz tx (a.eval y) ys.length (qW cv te.sz ys.length) w)(hwy:∀r∈ys,r.length=te.sz)
  (mb:Ea G3 w kh mj ys cv)(hr:r.fE ρ=some (.l (xs++ys)))(Q2:∀r',kw.w.look r'=(St.look ((.o k5.ct.i,.ob kh r)::(WB++WA)) r').or (ky.w.look r')):
  bJ P (Mn M k5.ct.i (k5.ct.i+1)) B d up ρ a w s o (bX d o kw (.v false [.o k5.ct.i []])).w Q:=by
 have hT:=dT.ty _ _ fJ
 have hE:=dT.ty _ _ pF
 obtain⟨i,z,uO,mO,hi3,HF,xP⟩:=hE.info
 have hu:=hT.sl iz
 have Aw:z.cells.size=te.sz:=by
  have:=(I4 (G:=G) (w:=w) (ρ:=ρ) xP).1.length
  rw[hE.DU]at this
  simpa using this.symm
 have mi:∀b l,G3.ω b=some l->b<w.heap.size:=λb l hb=>(w3.rel.ia b l hb).2
 obtain⟨O1,b0,tw,HI,jm⟩:∃(O1:Nat->Nat->Value) (b0:Option Nat),Jm w te.sz (a.eval x) xs.length b0 O1∧(∀b,b0=some b->∃j,kN=some j∧G3.ω b=some (.o j [])∧j%4≠2)∧
   (xs=[]∨∃j,kN=some j∧pN G3 w j kh te.sz 0 xs O1):=by
  rcases tA with⟨rfl,_,hv,rfl⟩|⟨j,rfl,_,_,xW,hv,bI⟩
  ·exact⟨λ_ _=>undef,none,.inl ⟨hv,rfl,rfl⟩,λb hb=>(by cases hb),.inl rfl⟩
  ·obtain⟨O1,b0,h1,h2,h3⟩:=afe bI hv afk
   exact⟨O1,b0,h1,λb hb=>⟨j,rfl,h2 b hb,xW⟩,.inr ⟨j,rfl,h3⟩⟩
 obtain⟨v',w',nb,eB,lg⟩:=ae7 (P:=P) (w:=w) (ty:=o.type) hu uO HF mO Aw gY (by rw[hi3];exact hby) tw nO be
 have il:(execOp a.eval o).run P w=.ok (.value v') w':=by
  refine Qx ho hc ?_
  have hA:c.args=#[x,y]:=Array.ext' eZ
  have hB:c.argTypes=#[t,tx]:=Array.ext' bE
  rw[hA,hB]
  show Sem.run P (do let v <-Builtin.append_ #[t,tx] o.type (#[x,y].map a.eval);pure (Next.value v)) w=_
  rw[Sem.run_bind]
  simp only[List.map_toArray,List.map_cons,List.map_nil]
  rw[eB];rfl
 have hv':∃a m c,v'=.slice a m c:=by
  rcases lg.row with⟨_,rfl,_⟩|⟨b,cap,_,_,_,rfl,_⟩<;>exact⟨_,_,_,rfl⟩
 have vD:∀c,nb=some c->c=w.heap.size∨∃j,kN=some j∧G3.ω c=some (.o j [])∧j%4≠2:=by
  intro c hc
  rcases(lg.at_ c hc).1 with h1|h1
  ·exact .inl h1
  ·exact .inr (HI c h1)
 have afm:∀j,mj=some j->kN≠some j:=by
  intro j hj he
  rcases Ra with⟨_,h1⟩|⟨j',h1,_,h2,_⟩
  ·rw[hj]at h1;cases h1
  ·rw[hj]at h1
   cases h1
   rcases tA with⟨h3,_⟩|⟨j'',h3,h4,_⟩
   ·rw[he]at h3;cases h3
   ·rw[he]at h3
    cases h3
    rw[h4,uL]at h2
    simp at h2
 have Eb:∀r u,(WB++WA).look r=some u->∃j,r=.o j∧u=.un∧M j:=by
  intro r u AA
  rw[l_]at AA
  rcases Ra with⟨rfl,_⟩|⟨j,_,rfl,_,hm⟩
  ·simp only[St.look,Option.none_or]at AA
   rcases tA with⟨_,rfl,_⟩|⟨j',_,rfl,pE,_⟩
   ·cases AA
   ·rcases jI AA with⟨e1,e2⟩|hl
    ·exact⟨j',e1,e2,pE⟩
    ·cases hl
  ·cases hl:St.look [(bn.o j,SV.un)] r with
   |some u'=>
    rw[hl]at AA
    simp only[Option.some_or,br]at AA
    subst AA
    rcases jI hl with⟨e1,e2⟩|hl
    ·exact⟨j,e1,e2,hm⟩
    ·cases hl
   |none=>
    rw[hl]at AA
    simp only[Option.none_or]at AA
    rcases tA with⟨_,rfl,_⟩|⟨j',_,rfl,pE,_⟩
    ·cases AA
    ·rcases jI AA with⟨e1,e2⟩|hl
     ·exact⟨j',e1,e2,pE⟩
     ·cases hl
 have AB:∀j,kN=some j->(WB++WA).look (.o j)≠none:=by
  intro j hj
  rcases tA with⟨h1,_⟩|⟨j',h1,rfl,_⟩
  ·rw[hj]at h1;cases h1
  ·rw[hj]at h1
   cases h1
   rw[l_,uL]
   intro e
   have:=(Option.or_eq_none_iff.1 e).2
   simp at this
 have Jp:∀j,mj=some j->(WB++WA).look (.o j)≠none:=by
  intro j hj
  rcases Ra with⟨_,h1⟩|⟨j',h1,rfl,_⟩
  ·rw[hj]at h1;cases h1
  ·rw[hj]at h1
   cases h1
   rw[l_,uL]
   intro e
   have:=(Option.or_eq_none_iff.1 e).1
   simp at this
 let kk:Wk:={ky with ct:=k5.ct}
 have wk:dh M B d up ρ G a w kk G3:=⟨w3.rel,w3.aY⟩
 refine D_ (k:=kk) (nb:=nb) (f:=sF kN mj k5.ct.i xs.length) (Hn:=rM G3 kN mj xs.length v') (mY:=Jo hv') (W1:=WB++WA) (y:=r) (t:=.l (xs++ys)) (v:=v') (w':=w') (dp:=kh)
  h wk hn hM Q2 (λr u hu=>by obtain⟨j,e1,e2,e3⟩:=Eb r u hu;subst e2;exact⟨j,e1,trivial,e3,λi hi=>by simp[de]at hi⟩) (λl hl=>?_) (λl l' ⟨b,hb⟩ he=>?_) (Jn jg) (λc hc=>?_) lg.size (λc hc=>(lg.at_ c hc).2) (λb hb dk=>lg.oth b hb dk) lg.so rfl hr ?_ il
 ·cases l with
  |f=>rfl
  |x b=>rfl
  |o j p=>
   have:=hl j p rfl
   have h1:kN≠some j:=λe=>AB j e this
   have h2:mj≠some j:=λe=>Jp j e this
   simp[sF,h1,h2]
 ·rcases afh he with h1|h1
  ·rw[h1];exact .inl (w3.rel.ia b _ hb).1
  ·exact .inr h1
 ·rcases vD c hc with h1|⟨j,h1,h2,h3⟩
  ·exact .inl h1
  ·exact .inr ⟨j,h2,AB j h1,h3⟩
 ·have oI:pN (G3.dB nb k5.ct.i (sF kN mj k5.ct.i xs.length) (rM G3 kN mj xs.length v') (Jo hv')) w' k5.ct.i kh te.sz xs.length ys cv:=
   afg (w:=w) mb (λj hj=>afm j hj) hwy vD jg mi lg.size lg.oth
  have hca:pN (G3.dB nb k5.ct.i (sF kN mj k5.ct.i xs.length) (rM G3 kN mj xs.length v') (Jo hv')) w' k5.ct.i kh te.sz 0 xs O1:=by
   rcases jm with rfl|⟨j,rfl,xQ⟩
   ·exact⟨λr hr=>(by cases hr),λ_ _ _ h=>(by simp[dK]at h),λ_ _ _ h=>(by simp[dK]at h),λ_ _ _ h=>(by simp[dK]at h),λ_ _ _ h=>(by simp[dK]at h)⟩
   ·have xW:j%4≠2:=by
     rcases tA with⟨h1,_⟩|⟨i',h1,_,_,h2,_⟩
     ·cases h1
     ·cases h1;exact h2
    refine aff (w:=w) xQ (Nat.le_refl _) (λc hc=>?_) xW jg mi lg.size lg.oth
    rcases vD c hc with h1|⟨j',h1,h2,_⟩
    ·exact .inl h1
    ·cases h1;exact .inr h2
  rcases lg.row with⟨rfl,hv0,Am,hm0⟩|⟨b,cap,bT,elem,rfl,hv0,Rb,wN,hle,hz0,g1,g2⟩
  ·have e1:xs++ys=[]:=by rw[List.eq_nil_of_length_eq_zero Am,List.eq_nil_of_length_eq_zero hm0];rfl
   rw[e1]
   exact .nil (by simp[Gh.dB,rM,hv0,kk])
  ·refine hca.join oI (by simp only[Gh.dB,if_true,rM];exact hv0) ⟨hle,λhe=>hz0 (by have:=congrArg List.length he;simpa using this)⟩ (by simp[Gh.dB]) Rb wN g1 g2
end
theorem Rc{us:List (List T)}{n k:Nat}(h:n+k<=us.length):(zj us n k).length=us.length:=by
 simp only[zj,List.length_append,List.length_take,List.length_replicate,List.length_drop];omega
theorem Rd{us:List (List T)}{n k i:Nat}{r:List T}(h:n+k<=us.length)(hg:(zj us n k)[i]?=some r)(hr:r≠[]):us[i]?=some r∧(i<n∨n+k<=i):=by
 unfold zj at hg
 by_cases h1:i<n
 ·rw[List.append_assoc,List.getElem?_append_left (by rw[List.length_take];omega),List.getElem?_take,if_pos h1]at hg
  exact⟨hg,.inl h1⟩
 ·rw[List.append_assoc,List.getElem?_append_right (by rw[List.length_take];omega)]at hg
  have hl:(us.take n).length=n:=by rw[List.length_take];omega
  rw[hl]at hg
  by_cases h2:i<n+k
  ·rw[List.getElem?_append_left (by rw[List.length_replicate];omega),List.getElem?_replicate]at hg
   split at hg
   ·cases hg;exact absurd rfl hr
   ·cases hg
  ·rw[List.getElem?_append_right (by rw[List.length_replicate];omega),List.length_replicate,List.getElem?_drop]at hg
   rw[show n+k+(i-n-k)=i by omega]at hg
   exact⟨hg,.inr (by omega)⟩
theorem Re{us:List (List T)}{n k i:Nat}(h:n+k<=us.length)(hf:rp us n k=true)(hi:i<k):∃r,us[n+i]?=some r∧r≠[]:=by
 have be:n+i<us.length:=by omega
 refine⟨us[n+i],List.getElem?_eq_getElem be,λhe=>?_⟩
 have hm:us[n+i]∈(us.drop n).take k:=by
  refine List.mem_of_getElem? (i:=i) ?_
  rw[List.getElem?_take,if_pos hi,List.getElem?_drop]
  exact List.getElem?_eq_getElem be
 have:=List.all_eq_true.1 hf _ hm
 rw[he]at this
 cases this
theorem afn{m lo y r:T}(h:Prim.ev .ko [m,lo,y]=some r):∃us kk n ys,m=.l us∧lo=.c (.int kk n)∧0<=n∧y=.l ys∧n.toNat+ys.length<=us.length∧rp us n.toNat ys.length=true∧r=.l (zj us n.toNat ys.length):=by
 cases m with
 |c v=>simp[Prim.ev]at h
 |l us=>
  cases lo with
  |l _=>simp[Prim.ev]at h
  |c v=>
   cases v with
   |int kk n=>
    cases y with
    |c _=>simp[Prim.ev]at h
    |l ys=>
     simp only[Prim.ev]at h
     split at h
     ·split at h
      ·split at h
       ·cases h
        exact⟨us,kk,n,ys,rfl,rfl,by assumption,rfl,by assumption,by assumption,rfl⟩
       ·cases h
      ·cases h
     ·cases h
   |_=>cases y<;>simp[Prim.ev]at h
section
variable {M M':Nat->Prop} {B:eI} {d:Nat} {up:Nat->Nat->Value} {ρ:List T} {G:Gh} {a:Act} {w:World} {S:Nat->af} {P:Program} {s:St}
theorem Rel.Rf(h:Rel M B d up s ρ G a w){G':Gh}{W:St}{N:Nat->Prop}(k:di (oA W) N G w G' w)(hN:∀i,N i->¬M i)(hM:∀i,M i->M' i)
  (hW:∀r u,W.look r=some u->∃i,r=.o i∧cE G' w ρ i u∧M' i∧∀j∈de u,M' j)(ia:∀b l,G'.ω b=some l->M' l.id∧b<w.heap.size):Rel M' B d up (s.fe W) ρ G' a w:=by
 have ha:a.put none undef=a:=rfl
 rw[<-ha]
 refine h.step (v:=undef) k hN hM (λn hn=>by cases hn) ⟨rfl,rfl,rfl⟩ ⟨λe n u _ hl=>?_,λb u hl=>?_,λi u hl=>?_,λr u hl j hj=>?_,λi hi=>?_,ia⟩
 ·obtain⟨i,e1,_⟩:=hW _ _ hl;cases e1
 ·obtain⟨i,e1,_⟩:=hW _ _ hl;cases e1
 ·obtain⟨j,e1,e2,_⟩:=hW _ _ hl;cases e1;exact e2
 ·obtain⟨i,_,_,_,e4⟩:=hW _ _ hl;exact e4 j hj
 ·rcases hi with hi|hi
  ·obtain⟨u,hu⟩:=Option.ne_none_iff_exists'.1 hi
   obtain⟨j,e1,_⟩:=hW _ _ hu;cases e1
  ·obtain⟨u,hu⟩:=Option.ne_none_iff_exists'.1 hi
   obtain⟨j,e1,_,e3,_⟩:=hW _ _ hu;cases e1;exact e3
def Gh.gm(G:Gh)(tk j n k:Nat):Gh where
 ω:=λb=>match G.ω b with
  |some (.o i ((r,c)::p))=>if i=tk∧n<=r∧r<n+k then some (.o j ((r-n,c)::p))else some (.o i ((r,c)::p))
  |l=>l
 β:=G.β
 H:=λi p=>if i=j then(match p with| []=>G.H j []|(r,c)::p=>G.H tk ((n+r,c)::p))else G.H i p
 hs:=λi p=>by
  by_cases h:i=j
  ·subst h
   cases p with
   |nil=>simp only[if_true];exact G.hs i []
   |cons x p=>obtain⟨r,c⟩:=x;simp only[if_true];exact G.hs tk _
  ·simp only[h,if_false];exact G.hs i p
theorem afo{tk j n k:Nat}(h4:j%4=0){I:Lb->Prop}(hI:∀p,I (.o tk p))(hJ:∀p,I (.o j p)):di I (λ_=>False) G w (G.gm tk j n k) w:=by
 refine⟨Nat.le_refl _,λb _ hb=>⟨s_ hb (λh0=>by simp[Gh.gm,h0]) λl hl hq=>?_,rfl⟩,λb _ hb=>by simp[Gh.gm,hb],λb l hl hn=>⟨?_,rfl⟩,λi _=>⟨rfl,λp hp=>?_⟩⟩
 ·cases l with
  |o i p=>
   cases p with
   |nil=>exact .inr ⟨_,by simp[Gh.gm,hl],hq⟩
   |cons x p=>
    obtain⟨r,c⟩:=x
    simp only[Gh.gm,hl]
    split
    ·exact .inr ⟨_,rfl,vx (by omega) (by simp)⟩
    ·exact .inr ⟨_,rfl,hq⟩
  |_=>simp[qt]at hq
 ·cases l with
  |o i p=>
   cases p with
   |nil=>simp[Gh.gm,hl]
   |cons x p=>
    obtain⟨r,c⟩:=x
    have:i≠tk:=λe=>hn (e▸hI _)
    simp[Gh.gm,hl,this]
  |_=>simp[Gh.gm,hl]
 ·by_cases hi:i=j
  ·subst hi
   rcases hp with rfl|hp|hp
   ·simp[Gh.gm]
   ·exact absurd h4 hp
   ·exact absurd (hJ []) (hp [])
  ·simp[Gh.gm,hi]
theorem afp{kA CU kx:Wk}{G1:Gh}{WA:St}{Y:SV}(hk:dh M B d up ρ G a w kx G1)(ho:ku kA kx WA)(tA:∀r u,WA.look r=some u->u=.un)
  (h:kA.gm Y=some CU)(hd:CU.bA S ρ):
  kA.bA S ρ∧CU.ct.i=kA.ct.i∧∃CV G2,dh M B d up ρ G a w CV G2∧ku CU CV WA∧di (λl=>∃i p,l=.o i p∧WA.look (.o i)=none) (λ_=>False) G1 w G2 w∧∀i,G2.H i []=G1.H i []:=by
 unfold Wk.gm at h
 split at h
 ·rename_i j
  split at h
  ·rename_i tk x0 lo y hj
   split at h
   ·rename_i y0 m AC
    cases hc:(x0.beq y0&&Nat.beq (j%4) 0)with
    |false=>simp[hc]at h
    |true=>
     simp only[hc,cond_true,br]at h
     simp only[bk]at hc
     have Jq:=Lf.beq_eq hc.1
     subst Jq
     have hj4:j%4=0:=dN hc.2
     subst h
     have cS:∀{i:Nat} {u:SV},kA.get (.o i)=u->u≠.un->WA.look (.o i)=none:=by
      intro i u hu dk
      cases hl:WA.look (.o i)with
      |none=>rfl
      |some u'=>
       exfalso
       have:=tA _ _ hl
       subst this
       refine dk ?_
       rw[<-hu]
       unfold Wk.get
       rw[ho.2,hl];simp
     have hnj:=cS hj (by simp)
     have mP:=cS AC (by simp)
     have fx:(kA.em .ko [m,lo,y]).1.bA S ρ:=hd
     obtain⟨Ec,r,hr,oC⟩:=Wk.bO fx
     have obj:=hk.obj j
     have Rg:=hk.obj tk
     rw[<-ho.get hnj,hj]at obj
     rw[<-ho.get mP,AC]at Rg
     obtain⟨t,ht,dZ,h2,F,n,zs,hF,nN,rfl,Aw,tg,_⟩:=obj
     obtain⟨_,F',u,Rh,hu,hlen,mb⟩:=Rg
     rw[hF]at Rh
     cases Rh
     simp only[List.map_cons,List.map_nil,Lf.bM ht,Lf.bM hu]at hr
     obtain⟨us,kk,n',ys,e1,e2,h0,e3,hle,hfr,rfl⟩:=afn hr
     cases e1
     cases e3
     have iA:n'.toNat=n:=by
      unfold lI at nN
      split at nN
      ·rename_i k2 n2 x_
       have:=Lf.bM x_
       rw[this]at e2
       cases e2
       rw[if_pos h0]at nN
       exact Option.some.inj nN
      ·cases nN
     rw[iA]at hle hfr oC
     have hjt:j≠tk:=by omega
     let CV:Wk:={kx with w:=(kx.w.set (.o tk) (.tk x0 (kA.em .ko [m,lo,y]).2)).set (.o j) (.fr y)}
     let G2:=G1.gm tk j n zs.length
     have key:∀i p,(i=tk∨i=j)->oA [(bn.o j,SV.fr y),(bn.o tk,SV.tk x0 (kA.em .ko [m,lo,y]).2)] (.o i p):=by
      intro i p hi
      show St.look _ (bn.o i)≠none
      rcases hi with rfl|rfl
      ·simp only[St.look]
       cases(bn.o j).beq (.o i)<;>simp[(bn.beq_iff (r:=bn.o i)).2 rfl]
      ·simp[St.look,(bn.beq_iff (r:=bn.o i)).2 rfl]
     have K:di (oA [(bn.o j,SV.fr y),(bn.o tk,SV.tk x0 (kA.em .ko [m,lo,y]).2)]) (λ_=>False) G1 w G2 w:=
      afo hj4 (λp=>key tk p (.inl rfl)) λp=>key j p (.inr rfl)
     have Mj:M j:=hk.rel.key j (.inr (by rw[<-Wk.aS,<-ho.get hnj,hj];simp))
     have Mt:M tk:=hk.rel.key tk (.inr (by rw[<-Wk.aS,<-ho.get mP,AC];simp))
     have rel:=hk.rel.Rf (M':=M) K (λi hf=>hf.elim) (λi hi=>hi) (λr u' hl=>by
      rcases jI hl with⟨e1,e2⟩|hl
      ·subst e1 e2
       refine⟨j,rfl,?_,Mj,λi hi=>by simp[de]at hi⟩
       refine⟨hj4,zs,ht,?_,?_,λi c l' bE=>?_⟩
       ·have:G2.H j []=G1.H j []:=by simp[G2,Gh.gm]
        rw[this];exact dZ.aY K.size K.free
       ·have:G2.H j []=G1.H j []:=by simp[G2,Gh.gm]
        rw[this]
        intro b off k2 c2 hv
        obtain⟨wd,w1,w2⟩:=tg b off k2 c2 hv
        refine⟨wd,w1,λi c l' bE=>?_⟩
        rw[w2 i c l' bE]
        simp[G2,Gh.gm]
       ·obtain⟨row,gb,_,qX,QP,_⟩:=wD bE
        obtain⟨r',oE,qE⟩:=Re hle hfr QP
        obtain⟨g1,g2⟩:=mb _ _ oE qE
        rw[Aw i row gb]at g1
        cases g1
        refine(g2 c l' qX).move rfl (λb q hb=>⟨?_,rfl⟩) λq=>?_
        ·simp only[List.cons_append,List.nil_append]at hb⊢
         simp only[G2,Gh.gm,hb]
         rw[if_pos (by refine⟨?_,?_,?_⟩<;>first|trivial|omega),show n+i-n=i by omega]
        ·simp[G2,Gh.gm]
      ·rcases jI hl with⟨e1,e2⟩|hl
       ·subst e1 e2
        refine⟨tk,rfl,⟨h2,F,_,hF,oC,by rw[Rc hle];exact hlen,λi r hg dk=>?_⟩,Mt,λi hi=>by simp[de]at hi⟩
        obtain⟨g1,g2⟩:=Rd hle hg dk
        obtain⟨g3,g4⟩:=mb i r g1 dk
        refine⟨g3,λc l' qX=>(g4 c l' qX).move rfl (λb q hb=>⟨?_,rfl⟩) λq=>?_⟩
        ·simp only[List.cons_append,List.nil_append]at hb⊢
         simp only[G2,Gh.gm,hb]
         rw[if_neg (by omega)]
        ·simp[G2,Gh.gm,Ne.symm hjt]
       ·cases hl) λb l hb=>by
      cases hg:G1.ω b with
      |none=>simp[G2,Gh.gm,hg]at hb
      |some l0=>
       have tD:=hk.rel.ia b l0 hg
       refine⟨?_,tD.2⟩
       cases l0 with
       |o i p=>
        cases p with
        |nil=>simp[G2,Gh.gm,hg]at hb;subst hb;exact tD.1
        |cons x p=>
         obtain⟨r,c⟩:=x
         simp only[G2,Gh.gm,hg]at hb
         split at hb
         ·cases hb;exact Mj
         ·cases hb;exact tD.1
       |_=>simp[G2,Gh.gm,hg]at hb;subst hb;exact tD.1
     have hgx:∀r,(kx.r.fe CV.w).get r=((kx.r.fe kx.w).fe [(bn.o j,SV.fr y),(bn.o tk,SV.tk x0 (kA.em .ko [m,lo,y]).2)]).get r:=by
      intro r
      show(kx.r.fe ((kx.w.set (.o tk) _).set (.o j) _)).get r=_
      rw[Hx]
      simp only[St.fe]
      by_cases h1:bn.o j=r
      ·subst h1;rw[St.cg,St.cg]
      ·rw[St.eh _ _ h1,St.eh _ _ h1,Hx]
     have look:∀(K0:Wk) (v1 v2:SV) (r:bn),((K0.w.set (.o tk) v1).set (.o j) v2).look r=if bn.o j=r then some v2 else if bn.o tk=r then some v1 else K0.w.look r:=by
      intro K0 v1 v2 r
      by_cases h1:bn.o j=r
      ·subst h1;rw[if_pos rfl,St.bg]
      ·rw[if_neg h1,St.cz _ _ h1]
       by_cases h2:bn.o tk=r
       ·subst h2;rw[if_pos rfl,St.bg]
       ·rw[if_neg h2,St.cz _ _ h2]
     refine⟨Ec,rfl,CV,G2,⟨rel.congr hgx,?_⟩,⟨ho.1,λr=>?_⟩,K.mono ?_ λ_ hf=>hf,λi=>?_⟩
     ·refine(hk.aY.mono (λl hl=>?_) λ_ hf=>hf).trans (K.mono (λl hl=>?_) λ_ hf=>hf)
      ·exact Hw (Hw hl)
      ·cases l with
       |o i p=>
        show((kx.w.set (.o tk) _).set (.o j) _).look (.o i)≠none
        rw[look]
        split
        ·simp
        ·split
         ·simp
         ·rename_i h1 h2
          exfalso
          refine hl ?_
          simp only[St.look]
          have b1:(bn.o j).beq (.o i)=false:=by
           cases hb:(bn.o j).beq (.o i)with
           |false=>rfl
           |true=>exact absurd (bn.beq_iff.1 hb) h1
          have b2:(bn.o tk).beq (.o i)=false:=by
           cases hb:(bn.o tk).beq (.o i)with
           |false=>rfl
           |true=>exact absurd (bn.beq_iff.1 hb) h2
          simp[b1,b2]
       |f=>exact hl.elim
       |x b=>exact absurd rfl (by exact hl)
     ·show(((kA.em .ko [m,lo,y]).1.w.set (.o tk) _).set (.o j) _).look r=(WA.look r).or (((kx.w.set (.o tk) _).set (.o j) _).look r)
      rw[look (kA.em .ko [m,lo,y]).1,look kx]
      by_cases h1:bn.o j=r
      ·subst h1;simp[hnj]
      ·rw[if_neg h1,if_neg h1]
       by_cases h2:bn.o tk=r
       ·subst h2;simp[mP]
       ·rw[if_neg h2,if_neg h2];exact ho.2 r
     ·intro l hl
      cases l with
      |o i p=>
       refine⟨i,p,rfl,?_⟩
       have hh:i=j∨i=tk:=by
        by_cases h1:i=j
        ·exact .inl h1
        ·by_cases h2:i=tk
         ·exact .inr h2
         ·exfalso
          refine hl ?_
          have b1:(bn.o j).beq (.o i)=false:=by
           cases hb:(bn.o j).beq (.o i)with
           |false=>rfl
           |true=>have:=bn.beq_iff.1 hb;cases this;exact absurd rfl h1
          have b2:(bn.o tk).beq (.o i)=false:=by
           cases hb:(bn.o tk).beq (.o i)with
           |false=>rfl
           |true=>have:=bn.beq_iff.1 hb;cases this;exact absurd rfl h2
          simp[St.look,b1,b2]
       rcases hh with rfl|rfl
       ·exact hnj
       ·exact mP
      |f=>exact hl.elim
      |x b=>exact absurd rfl hl
     ·by_cases hi:i=j
      ·subst hi;simp[G2,Gh.gm]
      ·simp[G2,Gh.gm,hi]
   ·cases h
  ·cases h
 ·cases h
end
section
variable {M:Nat->Prop} {B:eI} {d:Nat} {up:Nat->Nat->Value} {ρ:List T} {G:Gh} {a:Act} {w:World} {S:Nat->af} {P:Program}
variable {cx:Cx} {cC eW oi:Nat} {s:St} {R:List bn} {ct:Ct} {k':Wk} {o:Oper} {Q:Exit->Act->World->Prop}
theorem afq(dT:eu P cx)(h:Rel M B d up s ρ G a w)(hn:∀n,o.dst=some n->n<a.tmps.size){c:Call}{x y:Operand}(ho:o.op=.call c)(hc:c.callee=.builtin .append)(eZ:c.args.toList=[x,y])
  (hk:iI cx cC eW d o oi ⟨s.only R,[],ct,[]⟩=some k')(hd:k'.bA S ρ)(hM:∀i,ct.i<=i->i<k'.ct.i->¬M i):bJ P (Mn M ct.i k'.ct.i) B d up ρ a w s o k'.w Q:=by
 have hw:=dh.start h R ct
 simp only[iI,ho,hc,eZ]at hk
 split at hk
 ·rename_i t tx bE
  simp only[cG]at hk
  obtain⟨ti,fJ,tj,htj,te,pF,hk⟩:=hk
  cases Ri:(Nat.beq ti.kd 3&&Nat.beq tj.kd 3&&Nat.ble te.bytes 32768&&Nat.blt 0 te.sz)with
  |false=>simp[Ri]at hk
  |true=>
   simp only[Ri,cond_true,cG,br]at hk
   simp only[bk]at Ri
   obtain⟨⟨⟨c1,c2⟩,c3⟩,c4⟩:=Ri
   obtain⟨⟨kA,la,HH⟩,hA,⟨kB,lb,CT⟩,hB,hk⟩:=hk
   simp only at hB hk
   have gY:0<te.sz:=Nat.lt_of_succ_le (by simpa[Nat.blt]using c4)
   have cK:bX d o {(kB.em (.app (!te.zero.any fB) te.sz) [la,lb]).1.set (.o (eT kB.ct.i)) (.ob (HH&&CT) (kB.em (.app (!te.zero.any fB) te.sz) [la,lb]).2)with
     ct:=⟨(kB.em (.app (!te.zero.any fB) te.sz) [la,lb]).1.ct.a,eT kB.ct.i+1⟩} (.v false [.o (eT kB.ct.i) []])=k':=hk
   have fx:(kB.em (.app (!te.zero.any fB) te.sz) [la,lb]).1.bA S ρ:=by
    rw[<-cK]at hd
    have h2:=cL.1 hd
    exact h2
   obtain⟨hdB,r,hr,oC⟩:=Wk.bO fx
   obtain⟨q1,q2,kx,G2,WA,xs,wA,awf,Jr,hla,tA⟩:=ae_ (kh:=HH&&CT) hw (hw.iy x).1 (hw.iy x).2 hA (λhe=>by simp at he;exact he.1)
   have Rk:∀r u,WA.look r=some u->u=.un:=by
    intro r u hu
    rcases tA with⟨_,_,rfl⟩|⟨j,rfl,_⟩
    ·cases hu
    ·rcases jI hu with⟨_,e2⟩|hl
     ·exact e2
     ·cases hl
   have hB0:∃CU,kA.vh (te.zero.any fB&& !cx.fz cC eW oi) (ch d (Wk.get ⟨s.only R,[],ct,[]⟩) y)=CU:=⟨_,rfl⟩
   obtain⟨CU,AD⟩:=hB0
   rw[AD]at hB
   have afr:CU.bA S ρ:=ae' hB hdB
   obtain⟨q1',kx,G2,wA,Jr,tA⟩:CU.ct.i=kA.ct.i∧∃CV OY,dh M B d up ρ G a w CV OY∧ku CU CV WA∧
     ((a.eval x=.slice none 0 0∧xs=[]∧WA=[])∨∃kN,WA=[(.o kN,.un)]∧M kN∧kN%4≠2∧a.eval x=OY.H kN []∧eX OY w kN (HH&&CT) [] (.l xs)):=by
    unfold Wk.vh at AD
    split at AD
    ·rename_i kz hz
     subst AD
     have O2:kA.gm (ch d (Wk.get ⟨s.only R,[],ct,[]⟩) y)=some kz:=by
      cases hb:(te.zero.any fB&& !cx.fz cC eW oi)with
      |true=>rw[hb]at hz;exact hz
      |false=>rw[hb]at hz;cases hz
     obtain⟨_,g2,CV,OY,g3,g4,g5,g6⟩:=afp wA Jr Rk O2 afr
     refine⟨g2,CV,OY,g3,g4,tA.imp_right ?_⟩
     rintro⟨j,e1,e2,e3,e4,e5⟩
     subst e1
     refine⟨j,rfl,e2,e3,by rw[g6];exact e4,e5.aY g5 (λp hp=>?_) λhf=>hf⟩
     obtain⟨i',p',f1,f2⟩:=hp
     cases f1
     rw[uL]at f2
     simp at f2
    ·subst AD
     exact⟨rfl,kx,G2,wA,Jr,tA⟩
   have hy:cD G2 w ρ (ch d (Wk.get ⟨s.only R,[],ct,[]⟩) y) (a.eval y):=(hw.iy y).1.aY wA.aY λ_ _ hf=>hf
   obtain⟨_,p2,ky,G3,WB,t2,mj,wB,Jt,Ra,hlb,QU,kp,_,nO⟩:=afa (kh:=HH&&CT) (P:=P) wA Jr Rk hy (hw.iy y).2 hB hdB (λhe=>by simp at he;exact he.2)
   simp only[List.map_cons,List.map_nil,Lf.bM hla,Lf.bM hlb]at hr
   obtain⟨ys,rfl,be,l9,Ju,afs,rfl⟩:=afd hr
   have rL:=(dT.ty _ _ htj).sl (dN c2)
   obtain⟨cv,s1,s2,s3⟩:=nO ys te.sz tx tj.el rfl gY afs (λhf=>l9 (by rw[hf];rfl)) rL
   have kf:kB.ct.i=ct.i:=by rw[p2,q1',q1]
   have o8:k'.ct.i=eT ct.i+1:=by rw[<-cK,mM,<-kf]
   have jg:=zP ct.i
   rw[o8,<-cK,<-kf]
   refine bJ.mono (M:=Mn M (eT kB.ct.i) (eT kB.ct.i+1)) ?_ (λi hi=>hi.imp_right λhi=>by rw[kf]at hi⊢;exact⟨by omega,hi.2⟩)
   refine afi (k5:={(kB.em (.app (!te.zero.any fB) te.sz) [la,lb]).1 with ct:=⟨(kB.em (.app (!te.zero.any fB) te.sz) [la,lb]).1.ct.a,eT kB.ct.i⟩}) (kN:=WA.head?.bind λz=>match z.1 with| .o j=>some j|_=>none) (WA:=WA) (WB:=WB) (G3:=G3) dT fJ htj pF (dN c1) (dN c2) (Nat.le_of_ble_eq_true c3) gY
    h hn ho hc eZ bE wB ⟨(Jt.same (Wk.bF kB (.app (!te.zero.any fB) te.sz) [la,lb])).1,(Jt.same (Wk.bF kB (.app (!te.zero.any fB) te.sz) [la,lb])).2⟩ (Q' _) (hM _ (by show ct.i<=eT kB.ct.i;rw[kf];exact jg) (by rw[o8];show eT kB.ct.i<_;rw[kf];omega)) ?_ Ra Ju be (e':=tj.el) s1 s2 s3 oC (λr'=>?_)
   ·rcases tA with⟨e1,e2,e3⟩|⟨j,e1,e2,e22,e3,e4⟩
    ·left
     subst e3
     exact⟨rfl,rfl,e1,e2⟩
    ·right
     subst e1
     refine⟨j,rfl,rfl,e2,e22,by rw[QU];exact e3,e4.aY kp (λp hp=>?_) λhf=>hf⟩
     obtain⟨i',p',e5,e6⟩:=hp
     cases e5
     rw[uL]at e6
     simp at e6
   ·show((kB.em (.app (!te.zero.any fB) te.sz) [la,lb]).1.w.set (.o (eT kB.ct.i)) _).look r'=_
    rw[show((kB.em (.app (!te.zero.any fB) te.sz) [la,lb]).1.w.set (.o (eT kB.ct.i)) (.ob (HH&&CT) (kB.em (.app (!te.zero.any fB) te.sz) [la,lb]).2)).look r'=_ from uM (k:=(kB.em (.app (!te.zero.any fB) te.sz) [la,lb]).1) r']
    rw[show(Wk.w (kB.em (.app (!te.zero.any fB) te.sz) [la,lb]).1).look r'=kB.w.look r' from rfl,Jt.2 r',<-Option.or_assoc]
    congr 1
    show _=St.look ((bn.o (eT kB.ct.i),_)::(WB++WA)) r'
    simp only[St.look]
    cases(bn.o (eT kB.ct.i)).beq r'<;>simp
 ·cases hk
def rN(ω:Nat->Option Lb)(w:World)(ρ:List T)(dp:Bool):List Ce->List Lf->List Value->Prop
 | [],[],[]=>True
 |z::zs,x::xs,v::vs=>(∃t,x.fE ρ=some t∧eM ω w t v∧(dp=true->fB z=true->t=.l []∧v=.slice none 0 0))∧rN ω w ρ dp zs xs vs
 |_,_,_=>False
theorem rN.aY{ω vu:Nat->Option Lb}{w':World}(hs:w.heap.size<=w'.heap.size)(hf:∀b,b<w.heap.size->ω b=none->vu b=none∧w'.heap[b]?=w.heap[b]?){dp uF:Bool}(hd:uF=true->dp=true):
  ∀{zs:List Ce} {xs:List Lf} {vs:List Value},rN ω w ρ dp zs xs vs->rN vu w' ρ uF zs xs vs
 | [],[],[],_=>trivial
 |_::_,_::_,_::_,h=>by
  obtain⟨⟨t,h1,h2,h3⟩,h4⟩:=h
  exact⟨⟨t,h1,h2.aY hs hf,λe=>h3 (hd e)⟩,rN.aY hs hf hd h4⟩
 | [],[],_::_,h=>h.elim
 | [],_::_,_,h=>h.elim
 |_::_,[],_,h=>h.elim
 |_::_,_::_,[],h=>h.elim
theorem AE:∀{zs cs:List Ce} {vs:List Value} {k k1:Wk} {xs:List Lf} {dp:Bool} {G1:Gh},dh M B d up ρ G a w k G1->aX G1 w ρ cs vs->k.fC true zs cs=some (k1,xs,dp)->
  k1.ct=k.ct∧k1.is=k.is∧xs.length=zs.length∧∃G2,dh M B d up ρ G a w k1 G2∧G2.H=G1.H∧(∀b,G1.q b=none->G2.q b=none)∧rN G2.q w ρ dp zs xs vs
 | [],[],vs,k,k1,xs,dp,G1,hk,hr,h=>by
  simp only[Wk.fC,br,Prod.mk.injEq]at h
  obtain⟨rfl,rfl,rfl⟩:=h
  cases vs with
  |nil=>exact⟨rfl,rfl,rfl,G1,hk,rfl,λ_ h=>h,trivial⟩
  |cons _ _=>exact hr.elim
 |z::zs,.p x::cs,vs,k,k1,xs,dp,G1,hk,hr,h=>by
  cases vs with
  |nil=>exact hr.elim
  |cons v vs=>
   simp only[Wk.fC,cG,br,Prod.mk.injEq]at h
   obtain⟨⟨k2,ys,dp2⟩,h2,rfl,rfl,rfl⟩:=h
   obtain⟨e1,e2,e3,G2,w2,e4,e5,e6⟩:=AE hk hr.2 h2
   obtain⟨t,ht,hd⟩:=hr.1
   refine⟨e1,e2,by simp[e3],G2,w2,e4,e5,⟨t,ht,hd.aY (Nat.le_refl _) λb _ hb=>⟨e5 b hb,rfl⟩,λgA hz=>by simp[hz]at gA⟩,e6.aY (Nat.le_refl _) (λb _ hb=>⟨hb,rfl⟩) λgA=>by simp at gA;exact gA.1⟩
 |z::zs,.n::cs,vs,k,k1,xs,dp,G1,hk,hr,h=>by
  cases vs with
  |nil=>exact hr.elim
  |cons v vs=>
   simp only[Wk.fC,cG,br,Prod.mk.injEq]at h
   obtain⟨⟨k2,ys,dp2⟩,h2,rfl,rfl,rfl⟩:=h
   obtain⟨e1,e2,e3,G2,w2,e4,e5,e6⟩:=AE hk hr.2 h2
   have hv:v=.slice none 0 0:=hr.1
   subst hv
   exact⟨e1,e2,by simp[e3],G2,w2,e4,e5,⟨.l [],rfl,.nil,λ_ _=>⟨rfl,rfl⟩⟩,e6⟩
 |z::zs,.o id []::cs,vs,k,k1,xs,dp,G1,hk,hr,h=>by
  cases vs with
  |nil=>exact hr.elim
  |cons v vs=>
   obtain⟨⟨p,hp,hv⟩,qE⟩:=hr
   simp only[l7,br]at hp
   subst hp
   have ei:=hk.obj id
   simp only[Wk.fC]at h
   split at h
   ·rename_i pv x hx
    simp only[cG,br,Prod.mk.injEq]at h
    obtain⟨⟨k2,ys,dp2⟩,h2,rfl,rfl,rfl⟩:=h
    obtain⟨e1,e2,e3,G2,w2,e4,e5,e6⟩:=AE hk qE h2
    rw[hx]at ei
    obtain⟨t,ht,hd,_⟩:=ei
    rw[<-hv]at hd
    exact⟨e1,e2,by simp[e3],G2,w2,e4,e5,⟨t,ht,hd.aY (Nat.le_refl _) λb _ hb=>⟨e5 b hb,rfl⟩,λgA=>by cases gA⟩,e6.aY (Nat.le_refl _) (λb _ hb=>⟨hb,rfl⟩) λgA=>by cases gA⟩
   ·rename_i dd x hx
    simp only[cond_true,cG,br,Prod.mk.injEq]at h
    obtain⟨⟨k2,ys,dp2⟩,h2,rfl,rfl,rfl⟩:=h
    have Q_:=hx
    rw[Wk.aS]at Q_
    have wt:dh M B d up ρ G a w (k.set (.o id) (.fz .z x)) (G1.free id true):=by
     refine⟨(hk.rel.lQ Q_).congr (Hx _ _ _ _),(hk.aY.mono (λl hl=>Hw hl) λ_ hn=>hn).trans ((G1.fg id true w).mono ?_ λ_ hn=>hn)⟩
     rintro l ⟨p,rfl⟩
     show(k.w.set _ _).look (.o id)≠none
     rw[St.bg];simp
    rw[hx]at ei
    obtain⟨t,ht,bI⟩:=ei
    have hd:eM (G1.free id true).q w t v:=by rw[hv];exact bI.wF
    have CQ:aX (G1.free id true) w ρ cs vs:=qE.aY (G1.fg id true w) λ_ _ hf=>hf
    obtain⟨e1,e2,e3,G2,w2,e4,e5,e6⟩:=AE wt CQ h2
    exact⟨e1,e2,by simp[e3],G2,w2,e4,λb hb=>e5 b (Gh.rA hb),⟨t,ht,hd.aY (Nat.le_refl _) λb _ hb=>⟨e5 b hb,rfl⟩,λgA=>by cases gA⟩,e6.aY (Nat.le_refl _) (λb _ hb=>⟨hb,rfl⟩) λgA=>by cases gA⟩
   ·cases h
 | [],_::_,vs,k,k1,xs,dp,G1,hk,hr,h=>by simp[Wk.fC]at h
 |_::_,[],vs,k,k1,xs,dp,G1,hk,hr,h=>by simp[Wk.fC]at h
 |z::zs,.o id (_::_)::cs,vs,k,k1,xs,dp,G1,hk,hr,h=>by simp[Wk.fC]at h
 |z::zs,.d::cs,vs,k,k1,xs,dp,G1,hk,hr,h=>by simp[Wk.fC]at h
theorem rN.at:∀{ω:Nat->Option Lb} {dp:Bool} {zs:List Ce} {xs:List Lf} {vs:List Value},rN ω w ρ dp zs xs vs->xs.length=vs.length∧zs.length=vs.length∧
  ∀(j:Nat) (t:T),(xs.map (Lf.ev ρ))[j]?=some t->∃z v,zs[j]?=some z∧vs[j]?=some v∧eM ω w t v∧(dp=true->fB z=true->t=.l []∧v=.slice none 0 0)
 |_,_,[],[],[],_=>⟨rfl,rfl,λj t h=>by simp at h⟩
 |ω,dp,z::zs,x::xs,v::vs,h=>by
  obtain⟨⟨t,h1,h2,h3⟩,h4⟩:=h
  obtain⟨e1,e2,e3⟩:=rN.at h4
  refine⟨by simp[e1],by simp[e2],λj t' hj=>?_⟩
  cases j with
  |zero=>
   simp only[List.map_cons,List.getElem?_cons_zero,br]at hj
   rw[Lf.bM h1]at hj
   subst hj
   exact⟨z,v,rfl,rfl,h2,h3⟩
  |succ j=>simpa using e3 j t' (by simpa using hj)
 |_,_,[],[],_::_,h=>h.elim
 |_,_,[],_::_,_,h=>h.elim
 |_,_,_::_,[],_,h=>h.elim
 |_,_,_::_,_::_,[],h=>h.elim
theorem aX.AF{G1:Gh}:∀{cs:List Ce} {vs:List Value},cs.length=vs.length->(∀(j:Nat) (c:Ce) (v:Value),cs[j]?=some c->vs[j]?=some v->fT G1 w ρ c v)->aX G1 w ρ cs vs
 | [],[],_,_=>trivial
 | [],_::_,h,_=>by simp at h
 |_::_,[],h,_=>by simp at h
 |c::cs,v::vs,h,hf=>⟨hf 0 c v rfl rfl,aX.AF (by simpa using h) λj c v h1 h2=>hf (j+1) c v (by simpa using h1) (by simpa using h2)⟩
theorem aX.get{G1:Gh}:∀{cs:List Ce} {vs:List Value},aX G1 w ρ cs vs->∀(j:Nat) (c:Ce) (v:Value),cs[j]?=some c->vs[j]?=some v->fT G1 w ρ c v
 | [],[],_,j,c,v,h,_=>by simp at h
 | [],_::_,h,_,_,_,_,_=>h.elim
 |_::_,[],h,_,_,_,_,_=>h.elim
 |c::cs,v::vs,h,j,_,_,h1,h2=>by
  cases j with
  |zero=>simp at h1 h2;subst h1 h2;exact h.1
  |succ j=>exact aX.get h.2 j _ _ (by simpa using h1) (by simpa using h2)
theorem kv_(zs:List Ce):∀n,(mU zs n).length=n*zs.length
 |0=>by simp[mU]
 |n+1=>by simp[mU,kv_ zs n,Nat.add_mul];omega
theorem Rl(zs:List Ce):∀(n i j:Nat),i<n->j<zs.length->(mU zs n)[i*zs.length+j]?=zs[j]?
 |0,i,j,h,_=>by omega
 |n+1,0,j,_,hj=>by simp only[mU,Nat.zero_mul,Nat.zero_add];rw[List.getElem?_append_left hj]
 |n+1,i+1,j,h,hj=>by
  simp only[mU]
  rw[List.getElem?_append_right (by rw[Nat.add_mul];omega),show(i+1)*zs.length+j-zs.length=i*zs.length+j by rw[Nat.add_mul];omega]
  exact Rl zs n i j (by omega) hj
theorem Rm{zs:List Ce}(h:dF zs=[]):∀n,dF (mU zs n)=[]
 |0=>rfl
 |n+1=>by rw[mU,I3,h,Rm h n];rfl
theorem afu{k n sz:Nat}(h:k<n*sz):k/sz<n∧k%sz<sz∧(k/sz)*sz+k%sz=k:=by
 have gY:0<sz:=by
  rcases Nat.eq_zero_or_pos sz with h0|h0
  ·rw[h0]at h;omega
  ·exact h0
 exact⟨Nat.div_lt_of_lt_mul (by rw[Nat.mul_comm];exact h),Nat.mod_lt _ gY,by rw[Nat.mul_comm];exact Nat.div_add_mod k sz⟩
theorem afv{zs:List Ce}{z:Array Value}{G1:Gh}(h:aX G1 w ρ zs z.toList)(n:Nat):aX G1 w ρ (mU zs n) (madeCells z (n*z.size)).toList:=by
 have hl:=h.length
 simp only[Array.length_toList]at hl
 refine aX.AF (by rw[kv_,hl,Array.length_toList,size_madeCells]) λk c v hc hv=>?_
 have hk:k<n*z.size:=by have:=(List.getElem?_eq_some_iff.1 hc).1;rw[kv_,hl]at this;exact this
 obtain⟨q1,q2,q3⟩:=afu hk
 have h1:=Rl zs n _ _ q1 (by rw[hl];exact q2)
 rw[hl,q3,hc]at h1
 have h2:=Q3 q2 q1
 rw[q3,<-Array.getElem?_toList,hv]at h2
 have hc:=h1.symm
 have hv:=h2.symm
 exact h.get _ c v hc (by simpa using hv)
theorem Jv(w:Nat):∀(n:Nat) (ts:List T) (i j:Nat),ts.length=n*w->i<n->j<w->dK (qA w n ts) i j=ts[i*w+j]?
 |0,_,_,_,_,h,_=>by omega
 |n+1,ts,0,j,hl,_,hj=>by
  simp only[qA,dK,List.getElem?_cons_zero,Option.bind_some,Nat.zero_mul,Nat.zero_add,List.getElem?_take,hj,if_true]
 |n+1,ts,i+1,j,hl,h,hj=>by
  have:=Jv w n (ts.drop w) i j (by simp[hl,Nat.add_mul]) (by omega) hj
  simp only[dK,qA,List.getElem?_cons_succ]at this⊢
  rw[this,List.getElem?_drop]
  congr 1
  rw[Nat.add_mul];omega
theorem Jw(w:Nat):∀(n:Nat) (ts:List T),(qA w n ts).length=n
 |0,_=>rfl
 |n+1,ts=>by simp[qA,Jw w n]
theorem AG(w:Nat):∀(n:Nat) (ts:List T),ts.length=n*w->∀r∈qA w n ts,r.length=w
 |0,_,_,r,h=>by cases h
 |n+1,ts,hl,r,h=>by
  simp only[qA,List.mem_cons]at h
  rcases h with rfl|h
  ·rw[List.length_take,hl,Nat.add_mul];omega
  ·exact AG w n (ts.drop w) (by simp[hl,Nat.add_mul]) r h
theorem AH:∀(ms:List Bool) (ts:List T),rl ms ts=true->∀(j:Nat) (t:T),ms[j]?=some true->ts[j]?=some t->eA t=true
 | [],_,_,j,t,h,_=>by simp at h
 |true::ms,[],h,_,_,_,h2=>by simp at h2
 |false::ms,[],h,_,_,_,h2=>by simp at h2
 |true::ms,t::ts,h,j,u,h1,h2=>by
  simp only[rl,bk]at h
  cases j with
  |zero=>simp at h2;subst h2;exact h.1
  |succ j=>exact AH ms ts h.2 j u (by simpa using h1) (by simpa using h2)
 |false::ms,t::ts,h,j,u,h1,h2=>by
  simp only[rl]at h
  cases j with
  |zero=>simp at h1
  |succ j=>exact AH ms ts h j u (by simpa using h1) (by simpa using h2)
theorem Rn{t e n:Nat}{i:TypeInfo}{z:Value}(hu:P.underlying t=some (.slice e))(hi:P.info? e=some i)(hz:i.zero=some z)(hs:z.cells.size=i.size)(hb:n*i.size<=65536)
  {parts:Array (Nat×Value)}{bT:Array Value}(g:Instr.fill (λf=>some (f*i.size,i.size)) (madeCells z.cells (n*i.size)) parts.toList=some bT):
  (Instr.buildSlice t n parts).run P w=.ok (.slice (some ⟨w.heap.size,0,none⟩) n n) (w.alloc (.cells bT e)):=by
 have afw:¬(n*i.size>2^24):=by omega
 unfold madeCells at g
 by_cases h0:n*i.size=0
 ·simp only[h0,Array.range_zero',List.map_toArray,List.map_nil]at g
  simp[Instr.buildSlice,run_underlying hu,sizeOf,typeInfo,hi,h0,g,newRow,Array.range_zero']
 ·simp[Instr.buildSlice,run_underlying hu,sizeOf,typeInfo,hi,h0,afw,zeroValue,hz,g,newRow]
abbrev Mv:=List (Nat×Nat)
def gM:Mv->Nat->Option Nat
 | [],_=>none
 |(p,i)::mv,q=>bif Nat.beq p q then some i else gM mv q
def kC:Mv->Nat->Option Nat
 | [],_=>none
 |(p,i)::mv,j=>bif Nat.beq i j then some p else kC mv j
theorem AJ:∀{mv:Mv} {q i:Nat},gM mv q=some i->(q,i)∈mv
 | [],q,i,h=>by simp[gM]at h
 |(p,j)::mv,q,i,h=>by
  simp only[gM]at h
  cases hb:Nat.beq p q with
  |true=>simp[hb]at h;subst h;rw[dN hb];exact List.mem_cons_self
  |false=>simp[hb]at h;exact List.mem_cons_of_mem _ (AJ h)
theorem Ed:∀{mv:Mv} {q i:Nat},kC mv i=some q->(q,i)∈mv
 | [],q,i,h=>by simp[kC]at h
 |(p,j)::mv,q,i,h=>by
  simp only[kC]at h
  cases hb:Nat.beq j i with
  |true=>simp[hb]at h;subst h;rw[dN hb];exact List.mem_cons_self
  |false=>simp[hb]at h;exact List.mem_cons_of_mem _ (Ed h)
def Ro(G:Gh)(w:World)(ρ:List T)(mv:Mv):Nat->List Lf->List Value->Prop
 |_,[],[]=>True
 |q,x::xs,v::vs=>(∃t,x.fE ρ=some t∧((∃u,t=.c u∧v=u∧j_ u=true)∨(t=.l []∧v=.slice none 0 0∧gM mv q=none)∨∃i,gM mv q=some i∧v=G.H i []∧eX G w i true [] t))∧Ro G w ρ mv (q+1) xs vs
 |_,_,_=>False
theorem O3{G1:Gh}:∀{zs cs:List Ce} {vs:List Value} {k k1:Wk} {xs:List Lf} {k0:Wk} {W0:St},dh M B d up ρ G a w k0 G1->ku k k0 W0->(∀r u,W0.look r=some u->∃j,r=.o j∧u=.un)->aX G1 w ρ cs vs->(∀i∈dF cs,M i)->
  k.dY zs cs=some (k1,xs)->∀q,k1.ct=k.ct∧k1.is=k.is∧xs.length=zs.length∧zs.length=cs.length∧∃mv W1,ku k1 k0 (W1++W0)∧(∀p i,(p,i)∈mv->q<=p∧M i∧W1.look (.o i)=some .un∧W0.look (.o i)=none)∧(∀r u,W1.look r=some u->∃p j,r=.o j∧u=.un∧M j∧(p,j)∈mv)∧
   (∀p i,(p,i)∈mv->gM mv p=some i∧kC mv i=some p)∧
   (∀(CW:Mv),(∀p,q<=p->gM CW p=gM mv p)->(∀(j:Nat) (t:T),(∃x,xs[j]?=some x∧x.fE ρ=some t)->zs[j]?.map fB=some false->eA t=true)->Ro G1 w ρ CW q xs vs)
 | [],[],vs,k,k1,xs,k0,W0,hk,ho,hW,hr,hm,h,q=>by
  simp only[Wk.dY,br,Prod.mk.injEq]at h
  obtain⟨rfl,rfl⟩:=h
  cases vs with
  |nil=>exact⟨rfl,rfl,rfl,rfl,[],[],ho,(λp i h=>by cases h),(λr u h=>by cases h),(λp i h=>by cases h),λ_ _ _=>trivial⟩
  |cons _ _=>exact hr.elim
 |z::zs,.p x::cs,vs,k,k1,xs,k0,W0,hk,ho,hW,hr,hm,h,q=>by
  cases vs with
  |nil=>exact hr.elim
  |cons v vs=>
   simp only[Wk.dY]at h
   cases hz:fB z with
   |true=>simp[hz]at h
   |false=>
    simp only[hz,cond_false,cG,br,Prod.mk.injEq]at h
    obtain⟨⟨k2,ys⟩,h2,rfl,rfl⟩:=h
    obtain⟨e1,e2,e3,e4,mv,W1,e5,e6,e7,e8,e9⟩:=O3 hk ho hW hr.2 (λi hi=>hm i (by simpa[dF]using hi)) h2 (q+1)
    refine⟨e1,e2,by simp[e3],by simp[e4],mv,W1,e5,λp i hp=>by have:=e6 p i hp;exact⟨by omega,this.2⟩,e7,e8,λCW sG l9=>?_⟩
    obtain⟨t,ht,hd⟩:=hr.1
    have cm:=l9 0 t ⟨x,rfl,ht⟩ (by simp[hz])
    obtain⟨u,rfl⟩:=xV cm
    obtain⟨rfl,hu⟩:=hd.scalar
    exact⟨⟨.c v,ht,.inl ⟨v,rfl,rfl,hu⟩⟩,e9 CW (λp hp=>sG p (by omega)) λj t hj rO=>l9 (j+1) t (by simpa using hj) (by simpa using rO)⟩
 |z::zs,.n::cs,vs,k,k1,xs,k0,W0,hk,ho,hW,hr,hm,h,q=>by
  cases vs with
  |nil=>exact hr.elim
  |cons v vs=>
   simp only[Wk.dY,cG,br,Prod.mk.injEq]at h
   obtain⟨⟨k2,ys⟩,h2,rfl,rfl⟩:=h
   obtain⟨e1,e2,e3,e4,mv,W1,e5,e6,e7,e8,e9⟩:=O3 hk ho hW hr.2 (λi hi=>hm i (by simpa[dF]using hi)) h2 (q+1)
   refine⟨e1,e2,by simp[e3],by simp[e4],mv,W1,e5,λp i hp=>by have:=e6 p i hp;exact⟨by omega,this.2⟩,e7,e8,λCW sG l9=>?_⟩
   have hv:v=.slice none 0 0:=hr.1
   have cS:gM mv q=none:=by
    cases hm:gM mv q with
    |none=>rfl
    |some i=>
     have:=AJ hm
     have:=(e6 q i this).1
     omega
   exact⟨⟨.l [],rfl,.inr (.inl ⟨rfl,hv,by rw[sG q (Nat.le_refl _)];exact cS⟩)⟩,e9 CW (λp hp=>sG p (by omega)) λj t hj rO=>l9 (j+1) t (by simpa using hj) (by simpa using rO)⟩
 |z::zs,.o id []::cs,vs,k,k1,xs,k0,W0,hk,ho,hW,hr,hm,h,q=>by
  cases vs with
  |nil=>exact hr.elim
  |cons v vs=>
   simp only[Wk.dY]at h
   split at h
   ·rename_i x hx
    simp only[cG,br,Prod.mk.injEq]at h
    obtain⟨⟨k2,ys⟩,h2,rfl,rfl⟩:=h
    have cS:W0.look (.o id)=none:=by
     cases hl:W0.look (.o id)with
     |none=>rfl
     |some u=>
      exfalso
      obtain⟨j,_,rfl⟩:=hW _ _ hl
      have:k.get (.o id)=.un:=by unfold Wk.get;rw[ho.2,hl];simp
      rw[this]at hx;cases hx
    have HJ:ku (k.set (.o id) .un) k0 ([(.o id,.un)]++W0):=⟨ho.1,λr=>by rw[show(k.set (.o id) .un).w.look r=_ from uM r,l_,ho.2,Option.or_assoc]⟩
    obtain⟨e1,e2,e3,e4,mv,W1,e5,e6,e7,e8,e9⟩:=O3 hk HJ (λr u hl=>by
     rw[l_]at hl
     cases h1:St.look [(bn.o id,SV.un)] r with
     |some u'=>rw[h1]at hl;simp at hl;subst hl;rcases jI h1 with⟨q1,q2⟩|q1;exact⟨id,q1,q2⟩;cases q1
     |none=>rw[h1]at hl;exact hW r u (by simpa using hl)) hr.2 (λi hi=>hm i (by simp[dF,hi])) h2 (q+1)
    have gS:∀p i,(p,i)∈mv->i≠id:=by
     intro p i hp he
     subst he
     have:=(e6 p i hp).2.2.2
     rw[l_,uL]at this
     simp at this
    refine⟨e1,e2,by simp[e3],by simp[e4],(q,id)::mv,W1++[(.o id,.un)],by rw[List.append_assoc];exact e5,λp i hp=>?_,λr u hl=>?_,λp i hp=>?_,λCW sG l9=>?_⟩
    ·rcases List.mem_cons.1 hp with hp|hp
     ·cases hp
      have:W1.look (.o id)=none:=by
       cases hl:W1.look (.o id)with
       |none=>rfl
       |some u=>obtain⟨p,j,q1,_,_,q2⟩:=e7 _ _ hl;cases q1;exact absurd rfl (gS p _ q2)
      exact⟨Nat.le_refl _,hm id (by simp[dF]),by rw[l_,this,uL];simp,cS⟩
     ·obtain⟨q1,q2,q3,q4⟩:=e6 p i hp
      refine⟨by omega,q2,by rw[l_,q3];rfl,?_⟩
      rw[l_]at q4
      exact(Option.or_eq_none_iff.1 q4).2
    ·rw[l_]at hl
     cases h1:W1.look r with
     |some u'=>
      rw[h1]at hl
      simp at hl
      subst hl
      obtain⟨p,j,q1,q2,q3,q4⟩:=e7 r u' h1
      exact⟨p,j,q1,q2,q3,by simp[q4]⟩
     |none=>
      rw[h1]at hl
      simp only[Option.none_or]at hl
      rcases jI hl with⟨q1,q2⟩|q1
      ·exact⟨q,id,q1,q2,hm id (by simp[dF]),by simp⟩
      ·cases q1
    ·rcases List.mem_cons.1 hp with hp|hp
     ·cases hp;simp[gM,kC]
     ·have h1:=(e6 p i hp).1
      have h2:=gS p i hp
      have b1:Nat.beq q p=false:=by
       cases hb:Nat.beq q p with
       |false=>rfl
       |true=>have:=dN hb;omega
      have b2:Nat.beq id i=false:=by
       cases hb:Nat.beq id i with
       |false=>rfl
       |true=>exact absurd (dN hb).symm h2
      simp only[gM,kC,b1,b2,cond_false]
      exact e8 p i hp
    ·have ei:=hk.obj id
     have CS:k0.get (.o id)=.ob true x:=by rw[<-ho.get cS];exact hx
     rw[CS]at ei
     obtain⟨t,ht,bI⟩:=ei
     obtain⟨p,hp,hv⟩:=hr.1
     simp only[l7,br]at hp
     subst hp
     refine⟨⟨t,ht,.inr (.inr ⟨id,by rw[sG q (Nat.le_refl _)];simp[gM],hv,bI⟩)⟩,e9 CW (λp hp=>?_) λj t hj rO=>l9 (j+1) t (by simpa using hj) (by simpa using rO)⟩
     rw[sG p (by omega)]
     have b1:Nat.beq q p=false:=by
      cases hb:Nat.beq q p with
      |false=>rfl
      |true=>have:=dN hb;omega
     simp only[gM,b1,cond_false]
   ·rename_i x hx
    simp only[cG,br,Prod.mk.injEq]at h
    obtain⟨⟨k2,ys⟩,h2,rfl,rfl⟩:=h
    have cS:W0.look (.o id)=none:=by
     cases hl:W0.look (.o id)with
     |none=>rfl
     |some u=>
      exfalso
      obtain⟨j,_,rfl⟩:=hW _ _ hl
      have:k.get (.o id)=.un:=by unfold Wk.get;rw[ho.2,hl];simp
      rw[this]at hx;cases hx
    have HJ:ku (k.set (.o id) .un) k0 ([(.o id,.un)]++W0):=⟨ho.1,λr=>by rw[show(k.set (.o id) .un).w.look r=_ from uM r,l_,ho.2,Option.or_assoc]⟩
    obtain⟨e1,e2,e3,e4,mv,W1,e5,e6,e7,e8,e9⟩:=O3 hk HJ (λr u hl=>by
     rw[l_]at hl
     cases h1:St.look [(bn.o id,SV.un)] r with
     |some u'=>rw[h1]at hl;simp at hl;subst hl;rcases jI h1 with⟨q1,q2⟩|q1;exact⟨id,q1,q2⟩;cases q1
     |none=>rw[h1]at hl;exact hW r u (by simpa using hl)) hr.2 (λi hi=>hm i (by simp[dF,hi])) h2 (q+1)
    have gS:∀p i,(p,i)∈mv->i≠id:=by
     intro p i hp he
     subst he
     have:=(e6 p i hp).2.2.2
     rw[l_,uL]at this
     simp at this
    refine⟨e1,e2,by simp[e3],by simp[e4],(q,id)::mv,W1++[(.o id,.un)],by rw[List.append_assoc];exact e5,λp i hp=>?_,λr u hl=>?_,λp i hp=>?_,λCW sG l9=>?_⟩
    ·rcases List.mem_cons.1 hp with hp|hp
     ·cases hp
      have:W1.look (.o id)=none:=by
       cases hl:W1.look (.o id)with
       |none=>rfl
       |some u=>obtain⟨p,j,q1,_,_,q2⟩:=e7 _ _ hl;cases q1;exact absurd rfl (gS p _ q2)
      exact⟨Nat.le_refl _,hm id (by simp[dF]),by rw[l_,this,uL];simp,cS⟩
     ·obtain⟨q1,q2,q3,q4⟩:=e6 p i hp
      refine⟨by omega,q2,by rw[l_,q3];rfl,?_⟩
      rw[l_]at q4
      exact(Option.or_eq_none_iff.1 q4).2
    ·rw[l_]at hl
     cases h1:W1.look r with
     |some u'=>
      rw[h1]at hl
      simp at hl
      subst hl
      obtain⟨p,j,q1,q2,q3,q4⟩:=e7 r u' h1
      exact⟨p,j,q1,q2,q3,by simp[q4]⟩
     |none=>
      rw[h1]at hl
      simp only[Option.none_or]at hl
      rcases jI hl with⟨q1,q2⟩|q1
      ·exact⟨q,id,q1,q2,hm id (by simp[dF]),by simp⟩
      ·cases q1
    ·rcases List.mem_cons.1 hp with hp|hp
     ·cases hp;simp[gM,kC]
     ·have h1:=(e6 p i hp).1
      have h2:=gS p i hp
      have b1:Nat.beq q p=false:=by
       cases hb:Nat.beq q p with
       |false=>rfl
       |true=>have:=dN hb;omega
      have b2:Nat.beq id i=false:=by
       cases hb:Nat.beq id i with
       |false=>rfl
       |true=>exact absurd (dN hb).symm h2
      simp only[gM,kC,b1,b2,cond_false]
      exact e8 p i hp
    ·have ei:=hk.obj id
     have CS:k0.get (.o id)=.fl x:=by rw[<-ho.get cS];exact hx
     rw[CS]at ei
     obtain⟨_,t,ht,bI⟩:=ei
     obtain⟨p,hp,hv⟩:=hr.1
     simp only[l7,br]at hp
     subst hp
     refine⟨⟨t,ht,.inr (.inr ⟨id,by rw[sG q (Nat.le_refl _)];simp[gM],hv,bI⟩)⟩,e9 CW (λp hp=>?_) λj t hj rO=>l9 (j+1) t (by simpa using hj) (by simpa using rO)⟩
     rw[sG p (by omega)]
     have b1:Nat.beq q p=false:=by
      cases hb:Nat.beq q p with
      |false=>rfl
      |true=>have:=dN hb;omega
     simp only[gM,b1,cond_false]
   ·cases h
 | [],_::_,vs,k,k1,xs,k0,W0,_,_,_,_,_,h,_=>by simp[Wk.dY]at h
 |_::_,[],vs,k,k1,xs,k0,W0,_,_,_,_,_,h,_=>by simp[Wk.dY]at h
 |_::_,.d::_,vs,k,k1,xs,k0,W0,_,_,_,_,_,h,_=>by simp[Wk.dY]at h
 |_::_,.o _ (_::_)::_,vs,k,k1,xs,k0,W0,_,_,_,_,_,h,_=>by simp[Wk.dY]at h
theorem Ro.at{G1:Gh}{mv:Mv}:∀{xs:List Lf} {vs:List Value} {q:Nat},Ro G1 w ρ mv q xs vs->xs.length=vs.length∧∀(j:Nat) (t:T),(xs.map (Lf.ev ρ))[j]?=some t->∃v,vs[j]?=some v∧
  ((∃u,t=.c u∧v=u∧j_ u=true)∨(t=.l []∧v=.slice none 0 0∧gM mv (q+j)=none)∨∃i,gM mv (q+j)=some i∧v=G1.H i []∧eX G1 w i true [] t)
 | [],[],q,_=>⟨rfl,λj t h=>by simp at h⟩
 |x::xs,v::vs,q,h=>by
  obtain⟨⟨t,h1,h2⟩,h3⟩:=h
  obtain⟨e1,e2⟩:=Ro.at h3
  refine⟨by simp[e1],λj t' hj=>?_⟩
  cases j with
  |zero=>
   simp only[List.map_cons,List.getElem?_cons_zero,br]at hj
   rw[Lf.bM h1]at hj
   subst hj
   exact⟨v,rfl,h2⟩
  |succ j=>
   have:=e2 j t' (by simpa using hj)
   rw[show q+1+j=q+(j+1) by omega]at this
   simpa using this
 | [],_::_,q,h=>h.elim
 |_::_,[],q,h=>h.elim
def O4(mv:Mv)(sz i:Nat):Lb->Option Lb
 | .o j p=>match kC mv j with
  |some q=>some (.o i ((q/sz,q%sz)::p))
  |none=>some (.o j p)
 |l=>some l
theorem afx{mv:Mv}{sz i:Nat}(hi:i%2=0)(l l':Lb)(hq:qt l=true)(h:O4 mv sz i l=some l'):qt l'=true:=by
 cases l with
 |o j p=>
  simp only[O4]at h
  split at h
  ·cases h;exact vx hi (by simp)
  ·cases h;exact hq
 |_=>simp[qt]at hq
def HK(G:Gh)(mv:Mv)(sz:Nat)(v:Value):List (Nat×Nat)->Value
 | []=>v
 |(r,c)::p=>match gM mv (r*sz+c)with
  |some j=>G.H j p
  |none=>.slice none 0 0
theorem afy(dT:eu P cx)(h:Rel M B d up s ρ G a w)(hn:∀n,o.dst=some n->n<a.tmps.size){t n:Nat}{ps:Array (Nat×Operand)}(ho:o.op=.buildSlice t n ps){ti te:TI}(fJ:cx.ty t=some ti)(pF:cx.ty ti.el=some te)
  {i:TypeInfo}{z:Value}(hu:P.underlying t=some (.slice ti.el))(uO:P.info? ti.el=some i)(mO:i.size=te.sz)(HF:i.zero=some z)(rP:z.cells.size=te.sz)(gY:0<te.sz)(hb:n*te.sz<=65536)
  (D1:aX G w ρ te.zero z.cells.toList)(sB:dF te.zero=[]){cs:List Ce}{bT:Array Value}(g1:Instr.fill (λi=>some (i*te.sz,te.sz)) (madeCells z.cells (n*z.cells.size)) (ps.toList.map λp=>(p.1,a.eval p.2))=some bT)(g2:aX G w ρ cs bT.toList∧∀i∈dF cs,M i)
  (xS:bT.size=n*te.sz){k1:Wk}{xs:List Lf}(hD:Wk.dY ⟨s.only R,[],ct,[]⟩ (mU te.zero n) cs=some (k1,xs))
  (hk:(let r:=k1.em (.lit te.sz (bif true then(mU te.zero n).map (λz=>!fB z)else [])) xs;bX d o {r.1.set (.o (eT r.1.ct.i)) (.ob true r.2)with ct:=⟨r.1.ct.a,eT r.1.ct.i+1⟩} (.v false [.o (eT r.1.ct.i) []]))=k')(hd:k'.bA S ρ)(hM:∀i,ct.i<=i->i<k'.ct.i->¬M i):
  bJ P (Mn M ct.i k'.ct.i) B d up ρ a w s o k'.w Q:=by
 have hw:=dh.start h R ct
 obtain⟨a1,a2,a3,a4,mv,W1,a5,a6,a7,a8,a9⟩:=O3 hw (show ku ⟨s.only R,[],ct,[]⟩ ⟨s.only R,[],ct,[]⟩ [] from⟨rfl,λr=>by simp[St.look]⟩) (λr u h=>by cases h) g2.1 g2.2 hD 0
 rw[List.append_nil]at a5
 generalize hy:k1.em (.lit te.sz (bif true then(mU te.zero n).map (λz=>!fB z)else [])) xs=ky at hk
 obtain⟨k2,y⟩:=ky
 have AK:k2=(k1.em (.lit te.sz (bif true then(mU te.zero n).map (λz=>!fB z)else [])) xs).1:=by rw[hy]
 have hye:y=(k1.em (.lit te.sz (bif true then(mU te.zero n).map (λz=>!fB z)else [])) xs).2:=by rw[hy]
 have nM:k1.eP k2:=by rw[AK];exact Wk.bF _ _ _
 have iz:bX d o {k2.set (.o (eT k2.ct.i)) (.ob true y)with ct:=⟨k2.ct.a,eT k2.ct.i+1⟩} (.v false [.o (eT k2.ct.i) []])=k':=hk
 have kf:k2.ct.i=ct.i:=by rw[nM.i,a1]
 have fx:(k1.em (.lit te.sz (bif true then(mU te.zero n).map (λz=>!fB z)else [])) xs).1.bA S ρ:=by
  rw[<-AK]
  rw[<-iz]at hd
  have h2:=cL.1 hd
  exact h2
 obtain⟨Ec,r,hr,oC⟩:=Wk.bO fx
 rw[<-hye]at oC
 have qD:te.zero.length=te.sz:=by have:=D1.length;rw[this];simpa using rP
 have AL:(xs.map (Lf.ev ρ)).length=n*te.sz:=by rw[List.length_map,a3,kv_,qD]
 have ml:r=.l (qA te.sz n (xs.map (Lf.ev ρ)))∧rl ((mU te.zero n).map (λz=>!fB z)) (xs.map (Lf.ev ρ))=true:=by
  simp only[Prim.ev,AL,Nat.mul_div_cancel _ gY,if_pos gY,cond_true]at hr
  split at hr
  ·rename_i hm
   exact⟨(Option.some.inj hr).symm,hm⟩
  ·cases hr
 obtain⟨rfl,tE⟩:=ml
 have sG:=a9 mv (λ_ _=>rfl) λj t ⟨x,hx,ht⟩ rO=>by
  refine AH _ _ tE j t ?_ ?_
  ·cases AM:(mU te.zero n)[j]? with
   |none=>rw[AM]at rO;cases rO
   |some zc=>rw[AM]at rO;simp at rO;simp[AM,rO]
  ·rw[List.getElem?_map,hx];simp[Lf.bM ht]
 obtain⟨b1,b3⟩:=sG.at
 have o8:k'.ct.i=eT ct.i+1:=by rw[<-iz,mM,<-kf]
 have jg:=zP ct.i
 let Hn:=HK G mv te.sz (.slice (some ⟨w.heap.size,0,none⟩) n n)
 have mY:∀p,∃a n c,Hn p=.slice a n c:=λp=>by
  cases p with
  |nil=>exact⟨_,_,_,rfl⟩
  |cons x p=>
   obtain⟨r0,c0⟩:=x
   cases hm:gM mv (r0*te.sz+c0)with
   |none=>exact⟨none,0,0,by simp only[Hn,HK,hm]⟩
   |some j=>obtain⟨a0,n0,c1,h0⟩:=G.hs j p;exact⟨a0,n0,c1,by simp only[Hn,HK,hm];exact h0⟩
 have eB:(Instr.buildSlice t n (ps.map λ(i,x)=>(i,a.eval x))).run P w=.ok (.slice (some ⟨w.heap.size,0,none⟩) n n) (w.alloc (.cells bT ti.el)):=by
  have zo:(ps.map λ(x:Nat×Operand)=>(x.1,a.eval x.2)).toList=ps.toList.map λp=>(p.1,a.eval p.2):=by simp
  rw[<-zo,<-mO]at g1
  exact Rn hu uO HF (by rw[rP,mO]) (by rw[mO];exact hb) (by rw[mO]at g1⊢;rw[<-rP]at g1⊢;exact g1)
 have il:(execOp a.eval o).run P w=.ok (.value (Hn [])) (w.alloc (.cells bT ti.el)):=by
  unfold execOp
  simp only[ho]
  rw[Sem.run_bind,eB]
  rfl
 rw[o8,<-iz,<-kf]
 have Jx:¬M (eT k2.ct.i):=hM _ (by rw[kf];exact jg) (by rw[o8,kf];omega)
 refine bJ.mono (M:=Mn M (eT k2.ct.i) (eT k2.ct.i+1)) ?_ (λi hi=>hi.imp_right λhi=>by rw[kf]at hi⊢;exact⟨by omega,hi.2⟩)
 refine D_ (nb:=some w.heap.size) (f:=O4 mv te.sz (eT k2.ct.i)) (Hn:=Hn) (mY:=mY) (w':=w.alloc (.cells bT ti.el)) (k:={(⟨s.only R,[],ct,[]⟩:Wk)with ct:=⟨k2.ct.a,eT k2.ct.i⟩}) (W1:=W1) (dp:=true) (y:=y) (t:=.l (qA te.sz n (xs.map (Lf.ev ρ))))
  h (show dh M B d up ρ G a w {(⟨s.only R,[],ct,[]⟩:Wk)with ct:=⟨k2.ct.a,eT k2.ct.i⟩} G from⟨hw.rel,hw.aY⟩) hn Jx (λr=>?_) (λr u hu=>by obtain⟨p,j,q1,q2,q3,_⟩:=a7 r u hu;subst q2;exact⟨j,q1,trivial,q3,λi hi=>by simp[de]at hi⟩) (λl hl=>?_) (λl l' ⟨b,hb⟩ he=>?_)
  (afx (Q' _)) (λc hc=>by cases hc;exact .inl rfl) (by simp) (λc hc=>by cases hc;simp) (λb hb _=>heap_alloc_old w _ b hb) (D2 _ _) rfl oC ?_ il
 ·show((k2.w.set (.o (eT k2.ct.i)) _)).look r=_
  rw[show(k2.w.set (.o (eT k2.ct.i)) (.ob true y)).look r=_ from uM (k:=k2) r]
  rw[show k2.w.look r=k1.w.look r by rw[nM.w],a5.2 r,<-Option.or_assoc]
  congr 1
  show _=St.look ((bn.o (eT k2.ct.i),_)::W1) r
  simp only[St.look]
  cases(bn.o (eT k2.ct.i)).beq r<;>simp
 ·cases l with
  |f=>rfl
  |x b=>rfl
  |o j p=>
   have h0:=hl j p rfl
   have:kC mv j=none:=by
    cases hm:kC mv j with
    |none=>rfl
    |some q=>have:=(a6 q j (Ed hm)).2.2.1;rw[h0]at this;cases this
   simp[O4,this]
 ·have mi:=hw.rel.ia b _ hb
  cases l with
  |f=>cases he;exact .inl mi.1
  |x b=>cases he;exact .inl mi.1
  |o j p=>
   simp only[O4]at he
   split at he
   ·cases he;exact .inr rfl
   ·cases he;exact .inl mi.1
 ·have hlen:(qA te.sz n (xs.map (Lf.ev ρ))).length=n:=Jw _ _ _
  have vE:∀(ii j:Nat) (t:T),dK (qA te.sz n (xs.map (Lf.ev ρ))) ii j=some t->ii<n∧j<te.sz∧∃v,bT[ii*te.sz+j]?=some v∧
    ((∃u,t=.c u∧v=u∧j_ u=true)∨(t=.l []∧v=.slice none 0 0∧gM mv (ii*te.sz+j)=none)∨∃i,gM mv (ii*te.sz+j)=some i∧v=G.H i []∧eX G w i true [] t):=by
   intro ii j t ht
   obtain⟨rr,_,hm,HC,q1,q2⟩:=wD ht
   rw[hlen]at q1
   rw[AG _ _ _ AL rr hm]at q2
   rw[Jv _ _ _ _ _ AL q1 q2]at ht
   obtain⟨v,c2,c3⟩:=b3 _ t ht
   rw[Nat.zero_add]at c3
   exact⟨q1,q2,v,by simpa using c2,c3⟩
  refine .l (wd:=te.sz) (cv:=λii j=>bT.getD (ii*te.sz+j) undef) (by rw[hlen];simp[Gh.dB,Hn,HK]) ⟨by rw[hlen];exact Nat.le_refl _,λhe=>by have:=congrArg List.length he;rw[hlen]at this;simpa using this⟩ (by simp[Gh.dB]) (heap_alloc_new w _) xS (AG _ _ _ AL) ?_ ?_ (λ_ _ _ _ hf=>by cases hf) ?_ ?_
  ·intro ii j t ht
   obtain⟨q1,q2,v,q3,_⟩:=vE ii j t ht
   simp[Array.getD_eq_getD_getElem?,q3]
  ·intro ii j v ht
   obtain⟨q1,q2,u,q3,q4⟩:=vE ii j _ ht
   rcases q4 with⟨u',e1,e2,e3⟩|⟨e1,_⟩|⟨i',_,_,e1⟩
   ·cases e1;subst e2;exact⟨by simp[Array.getD_eq_getD_getElem?,q3],e3⟩
   ·cases e1
   ·cases e1
  ·intro ii j ys ht _
   obtain⟨q1,q2,u,q3,q4⟩:=vE ii j _ ht
   rcases q4 with⟨u',e1,e2,e3⟩|⟨e1,e2,e3⟩|⟨i',e1,e2,e3⟩
   ·cases e1
   ·simp[Array.getD_eq_getD_getElem?,q3,e2,Gh.dB,Hn,HK,e3]
   ·simp[Array.getD_eq_getD_getElem?,q3,e2,Gh.dB,Hn,HK,e1]
  ·intro ii j ys ht _
   obtain⟨q1,q2,u,q3,q4⟩:=vE ii j _ ht
   rcases q4 with⟨u',e1,e2,e3⟩|⟨e1,e2,e3⟩|⟨i',e1,e2,e3⟩
   ·cases e1
   ·cases e1;exact .nil (by simp[Gh.dB,Hn,HK,e3])
   ·have oJ:=(a8 _ i' (AJ e1)).2
    refine e3.move rfl (λc p hc=>?_) λp=>?_
    ·have be:=(hw.rel.ia c _ hc).2
     have dk:¬(w.heap.size=c):=by omega
     simp only[List.nil_append]at hc
     refine⟨?_,heap_alloc_old w _ c be⟩
     have hdiv:(ii*te.sz+j)/te.sz=ii:=by rw[Nat.add_comm,Nat.add_mul_div_right _ _ gY,Nat.div_eq_of_lt q2];omega
     have afA:(ii*te.sz+j)%te.sz=j:=by rw[Nat.add_comm,Nat.add_mul_mod_self_right,Nat.mod_eq_of_lt q2]
     simp[Gh.dB,dk,hc,O4,oJ,hdiv,afA]
    ·simp[Gh.dB,Hn,HK,e1]
theorem afB(dT:eu P cx)(h:Rel M B d up s ρ G a w)(hn:∀n,o.dst=some n->n<a.tmps.size){t n:Nat}{ps:Array (Nat×Operand)}(ho:o.op=.buildSlice t n ps)
  (hk:iI cx cC eW d o oi ⟨s.only R,[],ct,[]⟩=some k')(hd:k'.bA S ρ)(hM:∀i,ct.i<=i->i<k'.ct.i->¬M i):bJ P (Mn M ct.i k'.ct.i) B d up ρ a w s o k'.w Q:=by
 have hw:=dh.start h R ct
 simp only[iI,ho,cG]at hk
 obtain⟨ti,fJ,te,pF,hk⟩:=hk
 cases hc:(Nat.beq ti.kd 3&&Nat.ble (n*te.sz) 65536&&Nat.blt 0 te.sz)with
 |false=>simp[hc]at hk
 |true=>
  simp only[hc,cond_true,cG,br]at hk
  simp only[bk]at hc
  obtain⟨⟨oD,jC⟩,hc3⟩:=hc
  obtain⟨l,hl,cs,kg,⟨k1,xs,dp⟩,kE,hk⟩:=hk
  simp only at hk
  have hT:=dT.ty _ _ fJ
  have hE:=dT.ty _ _ pF
  obtain⟨i,z,uO,mO,hi3,HF,xP⟩:=hE.info
  have hu:=hT.sl (dN oD)
  obtain⟨D1,sB⟩:=I4 (G:=G) (w:=w) (ρ:=ρ) xP
  have rP:z.cells.size=te.sz:=by
   have:=D1.length
   rw[hE.DU]at this
   simpa using this.symm
  have gY:0<te.sz:=Nat.lt_of_succ_le (by simpa[Nat.blt]using hc3)
  obtain⟨bT,g1,g2,g3,g4⟩:=I5 (a:=a) hw (fs:=(List.range n).map λi=>(i*te.sz,te.sz)) (place:=λi=>some (i*te.sz,te.sz)) (λf o hf=>by
   rw[List.getElem?_map]at hf
   cases hr:(List.range n)[f]? with
   |none=>simp[hr]at hf
   |some f'=>
    have be:=(List.getElem?_eq_some_iff.1 hr).1
    rw[List.getElem?_eq_getElem be,List.getElem_range,br]at hr
    subst hr
    rw[List.getElem?_eq_getElem be]at hf
    simpa using hf) ps.toList l (mU te.zero n) cs (madeCells z.cells (n*z.cells.size)) hl kg (afv D1 n) (λi hi=>by rw[Rm sB]at hi;cases hi)
  cases hD:(bif cx.fz cC eW oi then none else Wk.dY ⟨s.only R,[],ct,[]⟩ (mU te.zero n) cs)with
  |some r=>
   obtain⟨kD,xsD⟩:=r
   simp only[Wk.rq,hD,br,Prod.mk.injEq]at kE
   obtain⟨rfl,rfl,rfl⟩:=kE
   have hD':Wk.dY ⟨s.only R,[],ct,[]⟩ (mU te.zero n) cs=some (kD,xsD):=by
    cases sE:cx.fz cC eW oi with
    |true=>rw[sE]at hD;cases hD
    |false=>rw[sE]at hD;exact hD
   exact afy dT h hn ho fJ pF hu uO mO HF rP gY (Nat.le_of_ble_eq_true jC) D1 sB g1 ⟨g2,g3⟩ (by rw[g4,size_madeCells,rP]) hD' hk hd hM
  |none=>
  simp only[Wk.rq,hD]at kE
  obtain⟨a1,a2,a3,G2,w2,a4,a5,a6⟩:=AE hw g2 kE
  generalize hy:k1.em (.lit te.sz (bif dp then(mU te.zero n).map (λz=>!fB z)else [])) xs=ky at hk
  obtain⟨k2,y⟩:=ky
  have AK:k2=(k1.em (.lit te.sz (bif dp then(mU te.zero n).map (λz=>!fB z)else [])) xs).1:=by rw[hy]
  have hye:y=(k1.em (.lit te.sz (bif dp then(mU te.zero n).map (λz=>!fB z)else [])) xs).2:=by rw[hy]
  have nM:k1.eP k2:=by rw[AK];exact Wk.bF _ _ _
  have iz:bX d o {k2.set (.o (eT k2.ct.i)) (.ob dp y)with ct:=⟨k2.ct.a,eT k2.ct.i+1⟩} (.v false [.o (eT k2.ct.i) []])=k':=hk
  have kf:k2.ct.i=ct.i:=by rw[nM.i,a1]
  have fx:(k1.em (.lit te.sz (bif dp then(mU te.zero n).map (λz=>!fB z)else [])) xs).1.bA S ρ:=by
   rw[<-AK]
   rw[<-iz]at hd
   have h2:=cL.1 hd
   exact h2
  obtain⟨Ec,r,hr,oC⟩:=Wk.bO fx
  rw[<-hye]at oC
  obtain⟨b1,b2,b3⟩:=a6.at
  have xS:bT.size=n*te.sz:=by rw[g4,size_madeCells,rP]
  have AL:(xs.map (Lf.ev ρ)).length=n*te.sz:=by rw[List.length_map,b1,Array.length_toList,xS]
  have ml:r=.l (qA te.sz n (xs.map (Lf.ev ρ)))∧rl (bif dp then(mU te.zero n).map (λz=>!fB z)else []) (xs.map (Lf.ev ρ))=true:=by
   simp only[Prim.ev,AL,Nat.mul_div_cancel _ gY,if_pos gY]at hr
   split at hr
   ·rename_i hm
    exact⟨(Option.some.inj hr).symm,hm⟩
   ·cases hr
  obtain⟨rfl,tE⟩:=ml
  have o8:k'.ct.i=eT ct.i+1:=by rw[<-iz,mM,<-kf]
  have jg:=zP ct.i
  let Hn:List (Nat×Nat)->Value:=λp=>match p with| []=>.slice (some ⟨w.heap.size,0,none⟩) n n|_=>.slice none 0 0
  have mY:∀p,∃a n c,Hn p=.slice a n c:=λp=>by cases p<;>exact⟨_,_,_,rfl⟩
  have eB:(Instr.buildSlice t n (ps.map λ(i,x)=>(i,a.eval x))).run P w=.ok (.slice (some ⟨w.heap.size,0,none⟩) n n) (w.alloc (.cells bT ti.el)):=by
   have zo:(ps.map λ(x:Nat×Operand)=>(x.1,a.eval x.2)).toList=ps.toList.map λp=>(p.1,a.eval p.2):=by simp
   rw[<-zo,<-mO]at g1
   have:=Nat.le_of_ble_eq_true jC
   exact Rn hu uO HF (by rw[rP,mO]) (by rw[mO];omega) (by rw[mO]at g1⊢;rw[<-rP]at g1⊢;exact g1)
  have il:(execOp a.eval o).run P w=.ok (.value (Hn [])) (w.alloc (.cells bT ti.el)):=
   by
   unfold execOp
   simp only[ho]
   rw[Sem.run_bind,eB]
   rfl
  rw[o8,<-iz,<-kf]
  refine bJ.mono (M:=Mn M (eT k2.ct.i) (eT k2.ct.i+1)) ?_ (λi hi=>hi.imp_right λhi=>by rw[kf]at hi⊢;exact⟨by omega,hi.2⟩)
  have w3:=w2.same nM
  refine D_ (nb:=some w.heap.size) (f:=some) (Hn:=Hn) (mY:=mY) (w':=w.alloc (.cells bT ti.el)) (k:={k2 with ct:=⟨k2.ct.a,eT k2.ct.i⟩}) (W1:=[]) (t:=.l (qA te.sz n (xs.map (Lf.ev ρ))))
   h (show dh M B d up ρ G a w {k2 with ct:=⟨k2.ct.a,eT k2.ct.i⟩} G2 from⟨w3.rel,w3.aY⟩) hn (hM _ (by show ct.i<=eT k2.ct.i;rw[kf];exact jg) (by rw[o8];show eT k2.ct.i<_;rw[kf];omega)) (λr=>by exact uM (k:=k2) r) (λr u hu=>by cases hu) (λl _=>rfl) (λl l' ⟨b,hb⟩ he=>by cases he;exact .inl (w2.rel.ia b _ hb).1)
   (λl l' hq he=>by cases he;exact hq) (λc hc=>by cases hc;exact .inl rfl) (by simp) (λc hc=>by cases hc;simp) (λb hb _=>heap_alloc_old w _ b hb) (D2 _ _) rfl oC ?_ il
  have hlen:(qA te.sz n (xs.map (Lf.ev ρ))).length=n:=Jw _ _ _
  have pK:∀b,b<w.heap.size->G2.q b=none->(G2.dB (some w.heap.size) (eT k2.ct.i) some Hn mY).q b=none∧(w.alloc (.cells bT ti.el)).heap[b]?=w.heap[b]?:=by
   intro b hb h0
   have dk:some w.heap.size≠some b:=by simp;omega
   exact⟨D9 (λl l' hq he=>by cases he;exact hq) dk h0,heap_alloc_old w _ b hb⟩
  have vE:∀(ii j:Nat) (t:T),dK (qA te.sz n (xs.map (Lf.ev ρ))) ii j=some t->ii<n∧j<te.sz∧∃v,bT[ii*te.sz+j]?=some v∧eM G2.q w t v∧(dp=true->∀ys,t=.l ys->t=.l []∧v=.slice none 0 0):=by
   intro ii j t ht
   obtain⟨rr,_,hm,HC,q1,q2⟩:=wD ht
   rw[hlen]at q1
   rw[AG _ _ _ AL rr hm]at q2
   rw[Jv _ _ _ _ _ AL q1 q2]at ht
   obtain⟨zc,v,c1,c2,c3,c4⟩:=b3 _ t ht
   refine⟨q1,q2,v,by simpa using c2,c3,λgA ys Rp=>?_⟩
   subst gA
   cases hzn:fB zc with
   |true=>exact c4 rfl hzn
   |false=>
    have:=AH _ _ tE (ii*te.sz+j) t (by simp[c1,hzn]) ht
    subst Rp
    simp[eA]at this
  refine .l (wd:=te.sz) (cv:=λii j=>bT.getD (ii*te.sz+j) undef) (by rw[hlen];simp[Gh.dB,Hn]) ⟨by rw[hlen];exact Nat.le_refl _,λhe=>by have:=congrArg List.length he;rw[hlen]at this;simpa using this⟩ (by simp[Gh.dB]) (heap_alloc_new w _) xS (AG _ _ _ AL) ?_ ?_ ?_ ?_ ?_
  ·intro ii j t ht
   obtain⟨q1,q2,v,q3,_⟩:=vE ii j t ht
   simp[Array.getD_eq_getD_getElem?,q3]
  ·intro ii j v ht
   obtain⟨q1,q2,u,q3,q4,_⟩:=vE ii j _ ht
   obtain⟨rfl,hs⟩:=q4.scalar
   exact⟨by simp[Array.getD_eq_getD_getElem?,q3],hs⟩
  ·intro ii j ys ht gA
   obtain⟨q1,q2,u,q3,q4,_⟩:=vE ii j _ ht
   have:=q4.aY (by simp) pK
   simpa[Array.getD_eq_getD_getElem?,q3]using this
  ·intro ii j ys ht gA
   obtain⟨q1,q2,u,q3,q4,q5⟩:=vE ii j _ ht
   obtain⟨_,rfl⟩:=q5 gA ys rfl
   simp[Array.getD_eq_getD_getElem?,q3,Gh.dB,Hn]
  ·intro ii j ys ht gA
   obtain⟨q1,q2,u,q3,q4,q5⟩:=vE ii j _ ht
   obtain⟨e1,rfl⟩:=q5 gA ys rfl
   cases e1
   exact .nil (by simp[Gh.dB,Hn])
theorem Rq{t:TypeId}{cs:Array Value}{off:Nat}{v:Value}(ht:(∃k,P.underlying t=some (.int k))∨P.underlying t=some .bool∨P.underlying t=some .string)(hv:cs[off]?=some v):
  (part t cs off).run P w=.ok v w:=by
 have nB:(isAgg t).run P w=.ok false w:=by
  rcases ht with⟨k,ht⟩|ht|ht<;>simp[isAgg,run_underlying ht]
 simp[part,nB,hv]
def FTy(P:Program)(t:TypeId)(k:Nat):Prop:=(k=1∧∃i,P.underlying t=some (.int i))∨(k=4∧P.underlying t=some .bool)∨(k=2∧P.underlying t=some .string)
theorem afC{d:Nat}{t:TypeId}{k:Nat}{x y:Value}{b:Bool}(ht:FTy P t k)(h:OS k x y=some b):(Op.equalIn (d+1) t x y).run P w=.ok b w:=by
 unfold OS at h
 split at h
 ·rename_i k a k' b'
  obtain⟨_,i,hu⟩:=ht.resolve_right (by simp)
  split at h
  ·rename_i hk;subst hk;cases h
   exact run_equalIn_int w d t _ _ _ _ hu
  ·cases h
 ·cases h
  have hu:P.underlying t=some .bool:=by rcases ht with⟨h,_⟩|⟨_,h⟩|⟨h,_⟩<;>simp_all
  exact run_equalIn_bool' w d t _ _ hu
 ·cases h
  have hu:P.underlying t=some .string:=by rcases ht with⟨h,_⟩|⟨h,_⟩|⟨_,h⟩<;>simp_all
  rw[run_equalIn_string w d t _ _ hu,<-beq_toListBytes]
 ·cases h
theorem afD{i:Nat}{z:Ce}{zs:List Ce}{f:Field}{fs:List Field}(h:rC P i (z::zs) (f::fs)=true):f.offset=i∧f.name≠"_"∧FTy P f.type (lR z)∧rC P (i+1) zs fs=true:=by
 simp only[rC,bk,decide_eq_true_eq]at h
 obtain⟨⟨⟨h1,h2⟩,h3⟩,h4⟩:=h
 refine⟨dN h1,h2,?_,h4⟩
 split at h3
 ·rename_i k hu;exact .inl ⟨dN h3,k,hu⟩
 ·rename_i hu;exact .inr (.inl ⟨dN h3,hu⟩)
 ·rename_i hu;exact .inr (.inr ⟨dN h3,hu⟩)
 ·cases h3
theorem Rr{d:Nat}{xs ys:Array Value}:∀{fs:List Field} {zs:List Ce} {i:Nat} {us vs:List T} {b:Bool},rC P i zs fs=true->ww (zs.map lR) us vs=some b->
  (∀(j:Nat) (v:Value),us[j]?=some (.c v)->xs[i+j]?=some v)->(∀(j:Nat) (v:Value),vs[j]?=some (.c v)->ys[i+j]?=some v)->(Op.eqFields (d+1) xs ys fs).run P w=.ok b w
 | [],[],i,[],[],b,_,h,_,_=>by simp[ww]at h;subst h;rfl
 | [],[],i,[],_::_,b,_,h,_,_=>by simp[ww]at h
 | [],[],i,_::_,vs,b,_,h,_,_=>by simp[ww]at h
 | [],_::_,i,us,vs,b,hf,h,_,_=>by simp[rC]at hf
 |_::_,[],i,us,vs,b,hf,h,_,_=>by simp[rC]at hf
 |f::fs,z::zs,i,[],vs,b,hf,h,_,_=>by simp[ww]at h
 |f::fs,z::zs,i,.l _::us,vs,b,hf,h,_,_=>by simp[ww]at h
 |f::fs,z::zs,i,.c x::us,[],b,hf,h,_,_=>by simp[ww]at h
 |f::fs,z::zs,i,.c x::us,.l _::vs,b,hf,h,_,_=>by simp[ww]at h
 |f::fs,z::zs,i,.c x::us,.c y::vs,b,hf,h,hx,hy=>by
  obtain⟨h1,h2,h3,h4⟩:=afD hf
  simp only[List.map_cons,ww,cG,br]at h
  obtain⟨b1,ma,b2,oF,rfl⟩:=h
  have ht:(∃k,P.underlying f.type=some (.int k))∨P.underlying f.type=some .bool∨P.underlying f.type=some .string:=by
   rcases h3 with⟨_,h⟩|⟨_,h⟩|⟨_,h⟩
   ·exact .inl h
   ·exact .inr (.inl h)
   ·exact .inr (.inr h)
  have p1:=Rq (P:=P) (w:=w) ht (show xs[f.offset]?=some x by rw[h1];exact hx 0 x rfl)
  have p2:=Rq (P:=P) (w:=w) ht (show ys[f.offset]?=some y by rw[h1];exact hy 0 y rfl)
  have ih:=Rr (d:=d) (xs:=xs) (ys:=ys) h4 oF (λj v hj=>by have:=hx (j+1) v (by simpa using hj);rw[<-this];congr 1;omega) (λj v hj=>by have:=hy (j+1) v (by simpa using hj);rw[<-this];congr 1;omega)
  simp only[Op.eqFields,h2,ne_eq,not_false_iff,if_true,Sem.run_bind]
  rw[p1]
  simp only[Result.andThen_ok]
  rw[p2]
  simp only[Result.andThen_ok,afC h3 ma]
  cases b1
  ·rfl
  ·exact ih
theorem Rs{cs:List Ce}{k k1:Wk}{xs:List Lf}{G1:Gh}{vs:List Value}(h:k.je cs=some (k1,xs))(hd:k1.bA S ρ)(hr:aX G1 w ρ cs vs)(hk:dh M B d up ρ G a w k G1):
  (xs.map (Lf.ev ρ)).length=cs.length∧∀(j:Nat) (v:Value),(xs.map (Lf.ev ρ))[j]?=some (.c v)->vs[j]?=some v:=by
 obtain⟨ts,e1,e2,_,e4⟩:=Wk.gL h hd hr hk
 refine⟨by rw[List.length_map,e4,hr.length],λj v hj=>?_⟩
 rw[e1]at hj
 have be:j<vs.length:=by rw[<-e2.length];exact(List.getElem?_eq_some_iff.1 hj).1
 have:=(e2.get j _ vs[j] hj (List.getElem?_eq_getElem be)).scalar
 rw[List.getElem?_eq_getElem be,this.1]
theorem afE(dT:eu P cx)(h:Rel M B d up s ρ G a w)(hn:∀n,o.dst=some n->n<a.tmps.size){op:BinOp}{t yt:TypeId}{x y:Operand}(ho:o.op=.binOp op t x y yt)
  {es bs:List Ce}(xQ:ch d (Wk.get ⟨s.only R,[],ct,[]⟩) x=.v true es)(DW:ch d (Wk.get ⟨s.only R,[],ct,[]⟩) y=.v true bs)
  (hk:iI cx cC eW d o oi ⟨s.only R,[],ct,[]⟩=some k')(hd:k'.bA S ρ):bJ P M B d up ρ a w s o k'.w Q∧k'.ct.i=ct.i:=by
 have hw:=dh.start h R ct
 simp only[iI,ho,xQ,DW,cG]at hk
 obtain⟨ti,fJ,hk⟩:=hk
 cases hc:(Nat.beq ti.kd 5&&Nat.beq es.length ti.sz)with
 |false=>simp[hc]at hk
 |true=>
  simp only[hc,cond_true,cG]at hk
  simp only[bk]at hc
  have hT:=dT.ty _ _ fJ
  obtain⟨fs,hu,uI,hp,hg,hef⟩:=hT.eq (dN hc.1)
  have wL:=dN hc.2
  obtain⟨wG,tF⟩:=hw.iy x
  obtain⟨IV,hmy⟩:=hw.iy y
  rw[xQ]at wG
  rw[DW]at IV
  obtain⟨us,Rt,qu⟩:=wG
  obtain⟨vs,o7,oC⟩:=IV
  obtain⟨⟨k1,r1⟩,O5,lT⟩:=hk
  simp only[Qf,cG]at O5
  obtain⟨⟨k2,xs⟩,h1,⟨k3,ys⟩,h2,O5⟩:=O5
  simp only at O5
  have mN:=Wk.gK h1
  have nM:=Wk.gK h2
  have hfo:P.fieldsOf t=fs:=by simp[Program.fieldsOf,hu]
  have Jy:∀op,(eqGuard op t x y (.agg us.toArray) (.agg vs.toArray)).run P w=.ok () w:=λop=>run_eqGuard_agg w op t x y _ _ hg
  have key:(k3.em (.s5 (ti.zero.map lR)) (xs++ys)).1.bA S ρ->∃b,(k3.em (.s5 (ti.zero.map lR)) (xs++ys)).2.fE ρ=some (.c (.bool b))∧(Op.equalIn 10000 t (.agg us.toArray) (.agg vs.toArray)).run P w=.ok b w:=by
   intro zn
   obtain⟨Ec,r,hr,Jz⟩:=Wk.bO zn
   obtain⟨l2,g2⟩:=Rs h2 Ec oC (hw.same mN)
   obtain⟨l1,g1⟩:=Rs h1 (Wk.ld h2 Ec) qu hw
   simp only[Prim.ev,List.map_append,List.length_map]at hr
   have hz:ti.zero.length=(xs.map (Lf.ev ρ)).length:=by rw[l1,wL,hT.DU]
   rw[hz,List.take_left,List.drop_left]at hr
   obtain⟨b,hb,hr⟩:=Option.bind_eq_some_iff.1 hr
   cases hr
   refine⟨b,Jz,?_⟩
   rw[run_equalIn_struct w 9999 t _ _ (by rw[hfo];exact hu) hp,hfo]
   exact Rr (d:=9998) hef hb (λj v hj=>by simpa using g1 j v hj) (λj v hj=>by simpa using g2 j v hj)
  have fin:∀(kk:Wk) (y1:Lf) (b:Bool),bX d o kk (.v false [.p y1])=k'->dh M B d up ρ G a w kk G->kk.ct.i=ct.i->y1.fE ρ=some (.c (.bool b))->
    ((do eqGuard op t x y (a.eval x) (a.eval y);binOp op t (a.eval x) (a.eval y):Sem Value)).run P w=.ok (.bool b) w->bJ P M B d up ρ a w s o k'.w Q∧k'.ct.i=ct.i:=by
   intro kk y1 b hp uJ hi hv hr
   subst hp
   refine⟨rD h uJ hn ?_ (DV (v:=.bool b) hv rfl) (λi hi=>by simp[de,dF]at hi) Q,by rw[mM];exact hi⟩
   unfold execOp
   rw[ho]
   show Sem.run P (do let v <-(do eqGuard op t x y (a.eval x) (a.eval y);binOp op t (a.eval x) (a.eval y):Sem Value);pure (Next.value v)) w=_
   rw[Sem.run_bind,hr];rfl
  have uJ:=((hw.same mN).same nM).same (Wk.bF k3 (.s5 (ti.zero.map lR)) (xs++ys))
  have kf:(k3.em (.s5 (ti.zero.map lR)) (xs++ys)).1.ct.i=ct.i:=by rw[(Wk.bF _ _ _).i,nM.i,mN.i]
  have hpd:∀{kk:Wk} {y1:Lf},bX d o kk (.v false [.p y1])=k'->kk.bA S ρ:=λhp=>by rw[<-hp]at hd;exact cL.1 hd
  cases op<;>simp only at O5<;>try cases O5
  ·have hp:bX d o (k3.em (.s5 (ti.zero.map lR)) (xs++ys)).1 (.v false [.p (k3.em (.s5 (ti.zero.map lR)) (xs++ys)).2])=k':=Option.some.inj lT
   obtain⟨b,hb,eB⟩:=key (hpd hp)
   refine fin _ _ b hp uJ kf hb ?_
   rw[Rt,o7,Sem.run_bind,Jy]
   simp only[Result.andThen_ok]
   rw[run_eql_struct,eB];rfl
  ·have hp:bX d o ((k3.em (.s5 (ti.zero.map lR)) (xs++ys)).1.em (.un .not) [(k3.em (.s5 (ti.zero.map lR)) (xs++ys)).2]).1 (.v false [.p ((k3.em (.s5 (ti.zero.map lR)) (xs++ys)).1.em (.un .not) [(k3.em (.s5 (ti.zero.map lR)) (xs++ys)).2]).2])=k':=Option.some.inj lT
   obtain⟨zn,r,hr,Jz⟩:=Wk.bO (hpd hp)
   obtain⟨b,hb,eB⟩:=key zn
   simp only[List.map_cons,List.map_nil,Lf.bM hb,Prim.ev,T.val,Option.bind_some,unV,br]at hr
   subst hr
   refine fin _ _ (!b) hp (uJ.same (Wk.bF _ _ _)) (by rw[(Wk.bF _ _ _).i];exact kf) Jz ?_
   rw[Rt,o7,Sem.run_bind,Jy]
   simp only[Result.andThen_ok]
   rw[run_neq_struct,eB];rfl
end
def Gh.stored(G:Gh)(id i off n:Nat)(mv:Mv):Gh where
 ω:=λc=>match G.ω c with
  |some (.o j p)=>if j=id then(match p with
    | []=>some (.o id [])
    |(r,k)::p=>if r=i∧off<=k∧k<off+n then none else some (.o id ((r,k)::p)))
   else(match kC mv j with
    |some q=>some (.o id ((i,off+q)::p))
    |none=>some (.o j p))
  |l=>l
 β:=G.β
 H:=λj p=>if j=id then(match p with
   | []=>G.H id []
   |(r,k)::p=>if r=i∧off<=k∧k<off+n then(match gM mv (k-off)with
     |some j2=>G.H j2 p
     |none=>.slice none 0 0)
    else G.H id ((r,k)::p))
  else G.H j p
 hs:=λj p=>by
  by_cases hj:j=id
  ·simp only[hj,if_true]
   cases p with
   |nil=>exact G.hs id []
   |cons x p=>
    obtain⟨r,k⟩:=x
    by_cases hc:r=i∧off<=k∧k<off+n
    ·simp only[if_pos hc]
     cases gM mv (k-off)with
     |none=>exact⟨_,_,_,rfl⟩
     |some j2=>exact G.hs j2 p
    ·simp only[if_neg hc];exact G.hs id _
  ·simp only[hj,if_false];exact G.hs j p
section
variable {M:Nat->Prop} {B:eI} {d:Nat} {up:Nat->Nat->Value} {ρ:List T} {G:Gh} {a:Act} {w:World} {S:Nat->af} {P:Program}
variable {cx:Cx} {cC eW oi:Nat} {s:St} {R:List bn} {ct:Ct} {k':Wk} {o:Oper} {Q:Exit->Act->World->Prop}
theorem Gh.yc{G:Gh}{id i off n:Nat}{mv:Mv}(jg:id%4=0){c:Nat}{l:Lb}(hl:G.ω c=some l)(hq:qt l=true):
  (G.stored id i off n mv).ω c=none∨∃l',(G.stored id i off n mv).ω c=some l'∧qt l'=true:=by
 cases l with
 |o j p=>
  simp only[Gh.stored,hl]
  by_cases hj:j=id
  ·subst hj
   rw[if_pos rfl]
   cases p with
   |nil=>exact absurd hq (by rw[DO (by omega)];simp)
   |cons x p=>
    obtain⟨r,k⟩:=x
    simp only
    split
    ·exact .inl rfl
    ·exact .inr ⟨_,rfl,hq⟩
  ·rw[if_neg hj]
   cases kC mv j with
   |some q=>exact .inr ⟨_,rfl,vx (by omega) (by simp)⟩
   |none=>exact .inr ⟨_,rfl,hq⟩
 |_=>simp[qt]at hq
theorem afF{x ix:Lf}{ms:List Bool}{wd off i:Nat}{xs:List (List T)}{ts:List T}{t:T}(hx:x.fE ρ=some (.l xs))(hi:lI ρ ix=some i)
  (h:Prim.ev (.gj ms wd off) (x.ev ρ::ix.ev ρ::ts)=some t):∃r,xs[i]?=some r∧r.length=wd∧off+ts.length<=r.length∧rl ms ts=true∧t=.l (setRow xs i off ts):=by
 obtain⟨k,hk⟩:=xM hi
 rw[Lf.bM hx,hk]at h
 simp only[Prim.ev,Ac,T.rows,T.int,Option.bind_some,Int.toNat_natCast]at h
 cases hr:xs[i]? with
 |none=>simp[hr]at h
 |some r=>
  simp only[hr,Option.bind_some]at h
  split at h
  ·rename_i g1
   split at h
   ·rename_i g2
    split at h
    ·rename_i g3
     simp only[br]at h
     exact⟨r,rfl,g1,by omega,g3,h.symm⟩
    ·cases h
   ·cases h
  ·cases h
theorem afG(dT:eu P cx)(h:Rel M B d up s ρ G a w)(hn:∀n,o.dst=some n->n<a.tmps.size){t:Nat}{x y:Operand}(ho:o.op=.store t x y)
  (hk:∃k1,Ix cx ⟨s.only R,[],ct,[]⟩ t (ch d (Wk.get ⟨s.only R,[],ct,[]⟩) x) (ch d (Wk.get ⟨s.only R,[],ct,[]⟩) y)=some k1∧bX d o k1 .un=k')(hd:k'.bA S ρ):bJ P M B d up ρ a w s o k'.w Q∧k'.ct.i=ct.i:=by
 have hw:=dh.start h R ct
 obtain⟨k1,cm,rfl⟩:=hk
 have fx:=cL.1 hd
 unfold Ix at cm
 split at cm
 ·rename_i id ix wd off hx
  simp only[cG]at cm
  obtain⟨ti,fJ,cs,kg,cm⟩:=cm
  cases hl:(Nat.beq cs.length ti.sz&&ti.zero.any fB&&Nat.beq (id%4) 0)with
  |false=>simp[hl]at cm
  |true=>
   simp only[hl,cond_true]at cm
   simp only[bk]at hl
   have hlen:=dN hl.1.1
   have jg:id%4=0:=dN hl.2
   split at cm
   ·rename_i x0 CS
    simp only[cG]at cm
    obtain⟨⟨k2,xs⟩,kE,cm⟩:=cm
    simp only at cm
    split at cm
    ·rename_i x1 Ru
     simp only[br]at cm
     subst cm
     obtain⟨hr,hm⟩:=hw.iy y
     obtain⟨wG,_⟩:=hw.iy x
     rw[hx]at wG
     obtain⟨p,b,n,cap,i,hp,hH,hi,jl,afH⟩:=wG
     simp only[l7,br]at hp
     subst hp
     unfold cellsOf at kg
     split at kg
     ·rename_i ag es0 dV
      cases kg
      rw[dV]at hr hm
      have sD:=QJ hr
      have pi:=sD.length
      have hvl:(a.eval y).cells.toList.length=ti.sz:=by rw[<-pi,hlen]
      obtain⟨a1,a2,a3,a4,mv,W1,a5,a6,a7,a8,a9⟩:=O3 hw (show ku ⟨s.only R,[],ct,[]⟩ ⟨s.only R,[],ct,[]⟩ [] from⟨rfl,λr=>by simp[St.look]⟩) (λr u h=>by cases h) sD hm kE 0
      rw[List.append_nil]at a5
      have ei:=hw.obj id
      rw[CS]at ei
      obtain⟨tt,zm,bI⟩:=ei
      have wM:W1.look (.o id)=none:=by
       cases hl:W1.look (.o id)with
       |none=>rfl
       |some u=>
        obtain⟨_,j,_,rfl,_,_⟩:=a7 _ _ hl
        have:k2.get (.o id)=.un:=by unfold Wk.get;rw[a5.2,hl];simp
        rw[this]at Ru;cases Ru
      have Rv:∀q j,(q,j)∈mv->j≠id:=by
       intro q j hq he
       subst he
       have:=(a6 q j hq).2.2.1
       rw[wM]at this;cases this
      have axt:kC mv id=none:=by
       cases hm:kC mv id with
       |none=>rfl
       |some q=>exact absurd rfl (Rv q id (Ed hm))
      obtain⟨axu,t',kt,CP⟩:=Wk.bO fx
      cases bI with
      |nil rK=>rw[hH]at rK;cases rK
      | @l _ _ rows b' DY xT bT elem cv g1 g2 g3 g4 g5 g6 g7 g8 g9 xU DZ=>
       rw[hH]at g1
       cases g1
       simp only[List.map_cons]at kt
       obtain⟨r,oE,qE,CQ,tE,rfl⟩:=afF zm hi kt
       have sG:=a9 mv (λ_ _=>rfl) λj t ⟨xx,hxx,ht⟩ rO=>by
        refine AH _ _ tE j t ?_ ?_
        ·cases AM:ti.zero[j]? with
         |none=>rw[AM]at rO;cases rO
         |some zc=>rw[AM]at rO;simp at rO;simp[AM,rO]
        ·rw[List.getElem?_map,hxx];simp[Lf.bM ht]
       obtain⟨b1,b3⟩:=sG.at
       have qF:r.length=DY:=g6 r (List.mem_of_getElem? oE)
       have qp:wd=DY:=by rw[<-qE,qF]
       subst qp
       have pI:(xs.map (Lf.ev ρ)).length=(a.eval y).cells.toList.length:=by rw[List.length_map,b1]
       have hT:=dT.ty _ _ fJ
       have hib:i<rows.length:=(List.getElem?_eq_some_iff.1 oE).1
       have kY:i*wd+off+(a.eval y).cells.toList.length<=bT.size:=by
        rw[g5]
        have:(i+1)*wd<=cap*wd:=Nat.mul_le_mul_right _ (by omega)
        rw[Nat.add_mul]at this
        omega
       have eB:=jd_ (P:=P) (t:=t) hT (b:=b) (off:=i*wd+off) (v:=a.eval y) (by rw[<-hvl];simp) g4 (by simpa using kY) (λu hu=>sD.one u hu)
       rw[<-afH]at eB
       have il:=D5 (P:=P) ho eB
       generalize Rw:(bT.toList.take (i*wd+off)++(a.eval y).cells.toList++bT.toList.drop (i*wd+off+(a.eval y).cells.toList.length)).toArray=kq at il
       have AO:kq=xX (a.eval y).cells.toList (i*wd+off) bT:=by
        rw[<-Rw]
        exact Array.ext' (by rw[jP_ _ _ _ kY])
       have tl:∀k,kq[k]?=if i*wd+off<=k∧k<i*wd+off+(a.eval y).cells.toList.length then(a.eval y).cells.toList[k-(i*wd+off)]? else bT[k]?:=λk=>by rw[AO];exact OW _ _ _ _ kY
       have tG:M id:=(hw.rel.ia b _ g3).1
       have Ee:∀i' j' ,i'<rows.length->j'<wd->((i*wd+off<=i'*wd+j'∧i'*wd+j'<i*wd+off+(a.eval y).cells.toList.length)↔(i'=i∧off<=j'∧j'<off+(a.eval y).cells.toList.length)):=by
        intro i' j' dl uN
        rw[pI]at CQ
        constructor
        ·rintro⟨h1,h2⟩
         have rB:i'=i:=by
          rcases Nat.lt_trichotomy i' i with be|heq|Jd
          ·have:(i'+1)*wd<=i*wd:=Nat.mul_le_mul_right _ be
           rw[Nat.add_mul]at this;omega
          ·exact heq
          ·have:(i+1)*wd<=i'*wd:=Nat.mul_le_mul_right _ Jd
           rw[Nat.add_mul]at this;omega
         subst rB
         exact⟨rfl,by omega,by omega⟩
        ·rintro⟨rfl,h1,h2⟩
         omega
       let ts:=xs.map (Lf.ev ρ)
       let G':=G.stored id i off (a.eval y).cells.toList.length mv
       have hK:di (oA (fi d o .un++((bn.o id,SV.ob true (k2.em (.gj (ti.zero.map λz=>!fB z) wd off) (x0::ix::xs)).2)::W1))) (λ_=>False) G w G' (w.setRow b kq):=by
        have jx:∀j p,¬oA (fi d o .un++((bn.o id,SV.ob true (k2.em (.gj (ti.zero.map λz=>!fB z) wd off) (x0::ix::xs)).2)::W1)) (.o j p)->j≠id∧kC mv j=none:=by
         intro j p hj
         constructor
         ·intro e
          subst e
          refine hj ?_
          show St.look _ (bn.o j)≠none
          rw[l_]
          intro e
          have:=(Option.or_eq_none_iff.1 e).2
          simp[St.look,bn.beq]at this
         ·cases hm:kC mv j with
          |none=>rfl
          |some q=>
           exfalso
           refine hj ?_
           show St.look _ (bn.o j)≠none
           rw[l_]
           intro e
           have h1:=(Option.or_eq_none_iff.1 e).2
           have h2:=(a6 q j (Ed hm)).2.2.1
           simp only[St.look]at h1
           cases hb:(bn.o id).beq (.o j)with
           |true=>rw[hb]at h1;cases h1
           |false=>rw[hb]at h1;simp only[cond_false]at h1;rw[h2]at h1;cases h1
        refine⟨by rw[HD];exact Nat.le_refl _,λc hc h0=>⟨s_ h0 (λh1=>by simp[G',Gh.stored,h1]) λl hl hq=>?_,setRow_other _ _ _ _ λe=>?_⟩,λc hc h0=>by simp[G',Gh.stored,h0],λc l hc hn=>⟨?_,setRow_other _ _ _ _ λe=>?_⟩,λj _=>⟨rfl,λp hp=>?_⟩⟩
        ·exact Gh.yc (by omega) hl hq
        ·subst e;exact vt g3 (DO (by omega)) h0
        ·cases l with
         |f=>simp[G',Gh.stored,hc]
         |x j=>simp[G',Gh.stored,hc]
         |o j p=>obtain⟨h1,h2⟩:=jx j p hn;simp[G',Gh.stored,hc,h1,h2]
        ·subst e
         rw[g3]at hc
         cases hc
         exact(jx id [] hn).1 rfl
        ·by_cases hj:j=id
         ·subst hj
          rcases hp with rfl|hp|hp
          ·simp[G',Gh.stored]
          ·omega
          ·exact absurd rfl (jx j [] (hp [])).1
         ·simp[G',Gh.stored,hj]
       refine⟨?_,by rw[mM];show k2.ct.i=ct.i;rw[a1]⟩
       simp only[bJ,Oper.wp,il,Oper.upon]
       have hWk:∀r',(bX d o ((k2.em (.gj (ti.zero.map λz=>!fB z) wd off) (x0::ix::xs)).1.set (.o id) (.ob true (k2.em (.gj (ti.zero.map λz=>!fB z) wd off) (x0::ix::xs)).2)) .un).w.look r'=
         (St.look (fi d o .un++((bn.o id,SV.ob true (k2.em (.gj (ti.zero.map λz=>!fB z) wd off) (x0::ix::xs)).2)::W1)) r').or (St.look (Wk.w ⟨s.only R,[],ct,[]⟩) r'):=by
        refine xY (W2:=(bn.o id,SV.ob true (k2.em (.gj (ti.zero.map λz=>!fB z) wd off) (x0::ix::xs)).2)::W1) (λr'=>?_)
        rw[show((k2.em (.gj (ti.zero.map λz=>!fB z) wd off) (x0::ix::xs)).1.set (.o id) (.ob true (k2.em (.gj (ti.zero.map λz=>!fB z) wd off) (x0::ix::xs)).2)).w.look r'=_ from uM r']
        rw[show(k2.em (.gj (ti.zero.map λz=>!fB z) wd off) (x0::ix::xs)).1.w.look r'=k2.w.look r' from rfl,a5.2 r',<-Option.or_assoc]
        congr 1
        simp only[St.look]
        cases(bn.o id).beq r'<;>simp
       refine⟨G',I7 h hw (W2:=fi d o .un++((bn.o id,SV.ob true (k2.em (.gj (ti.zero.map λz=>!fB z) wd off) (x0::ix::xs)).2)::W1)) hWk hK (λi hi=>hi.elim) (λi hi=>hi) (λn oG=>I9 oG) (Jf _ _ _) ?_,Af _ _ _⟩
       have AP:∀c,c≠b->(w.setRow b kq).heap[c]?=w.heap[c]?:=λc hc=>setRow_other _ _ _ _ hc
       have Rx:(w.setRow b kq).heap[b]?=some (.cells kq elem (0,0)):=setRow_heap _ _ _ _ _ _ g4
       have Ry:eX G' (w.setRow b kq) id true [] (.l (setRow rows i off ts)):=by
        have JA:=λi' j'=>Ja (xs:=rows) (ts:=ts) oE CQ i' j'
        have O6:ts.length=(a.eval y).cells.toList.length:=pI
        refine .l (wd:=wd) (cv:=λi' j'=>kq.getD (i'*wd+j') undef) (by rw[CO];simpa[G',Gh.stored]using hH) ⟨by rw[CO];exact g2.1,λhe=>g2.2 (by have:=congrArg List.length he;rw[CO]at this;exact List.eq_nil_of_length_eq_zero this)⟩ (by simp[G',Gh.stored,g3]) Rx
         (by rw[AO,OV];exact g5) (QO g6 oE CQ) ?_ ?_ (λ_ _ _ _ hf=>by cases hf) ?_ ?_
        all_goals
         intro i' j'
         have Ef:∀t,dK (setRow rows i off ts) i' j'=some t->i'<rows.length∧j'<wd:=by
          intro t ht
          obtain⟨rr,_,iB,_,q1,q2⟩:=wD ht
          rw[CO]at q1
          exact⟨q1,by rw[<-QO g6 oE CQ rr iB];exact q2⟩
        ·intro t ht
         obtain⟨q1,q2⟩:=Ef t ht
         have be:i'*wd+j'<kq.size:=by
          rw[AO,OV,g5]
          exact Nat.lt_of_lt_of_le (Ay q1 q2) (Nat.mul_le_mul_right _ g2.1)
         simp[Array.getD_eq_getD_getElem?,be]
        ·intro v ht
         obtain⟨q1,q2⟩:=Ef _ ht
         rw[JA]at ht
         rw[Array.getD_eq_getD_getElem?,tl]
         split at ht
         ·rename_i hc
          rw[O6]at hc
          rw[if_pos ((Ee i' j' q1 q2).2 hc)]
          obtain⟨u,hu,m_⟩:=b3 (j'-off) _ ht
          rw[show i'*wd+j'-(i*wd+off)=j'-off by rw[hc.1];omega,hu]
          rcases m_ with⟨u',e1,e2,e3⟩|⟨e1,_⟩|⟨_,_,_,e1⟩
          ·cases e1;subst e2;exact⟨rfl,e3⟩
          ·cases e1
          ·cases e1
         ·rename_i hc
          rw[O6]at hc
          rw[if_neg (λhh=>hc ((Ee i' j' q1 q2).1 hh)),g7 i' j' _ ht]
          exact g8 i' j' v ht
        ·intro ys ht _
         obtain⟨q1,q2⟩:=Ef _ ht
         rw[JA]at ht
         rw[Array.getD_eq_getD_getElem?,tl]
         split at ht
         ·rename_i hc
          rw[O6]at hc
          rw[if_pos ((Ee i' j' q1 q2).2 hc)]
          obtain⟨u,hu,m_⟩:=b3 (j'-off) _ ht
          rw[show i'*wd+j'-(i*wd+off)=j'-off by rw[hc.1];omega,hu]
          rw[Nat.zero_add]at m_
          rcases m_ with⟨u',e1,_⟩|⟨e1,e2,e3⟩|⟨i2,e1,e2,_⟩
          ·cases e1
          ·have tH:i'=i∧off<=j'∧j'<off+(a.eval y).cells.size:=by simpa using hc
           simp[G',Gh.stored,tH,e2,e3]
          ·have tH:i'=i∧off<=j'∧j'<off+(a.eval y).cells.size:=by simpa using hc
           simp[G',Gh.stored,tH,e2,e1]
         ·rename_i hc
          rw[O6]at hc
          rw[if_neg (λhh=>hc ((Ee i' j' q1 q2).1 hh)),g7 i' j' _ ht]
          have:=xU i' j' ys ht rfl
          simp only[List.nil_append]at this
          simp only[Option.getD_some,this,List.nil_append]
          show _=(if id=id then _ else _)
          rw[if_pos rfl]
          simp only[if_neg hc]
        ·intro ys ht _
         obtain⟨q1,q2⟩:=Ef _ ht
         rw[JA]at ht
         split at ht
         ·rename_i hc
          rw[O6]at hc
          obtain⟨u,hu,m_⟩:=b3 (j'-off) _ ht
          rw[Nat.zero_add]at m_
          rcases m_ with⟨u',e1,_⟩|⟨e1,e2,e3⟩|⟨i2,e1,e2,e3⟩
          ·cases e1
          ·cases e1
           have tH:i'=i∧off<=j'∧j'<off+(a.eval y).cells.size:=by simpa using hc
           exact .nil (by simp[G',Gh.stored,tH,e3])
          ·have oJ:=(a8 _ i2 (AJ e1)).2
           have dk:=Rv _ i2 (AJ e1)
           refine e3.move rfl (λc q jC=>?_) λq=>?_
           ·simp only[List.nil_append]at jC
            refine⟨?_,AP c λe=>?_⟩
            ·simp only[G',Gh.stored,jC,if_neg dk,oJ]
             rw[hc.1,show off+(j'-off)=j' by omega]
             rfl
            ·subst e;rw[g3]at jC;cases jC;exact dk rfl
           ·simp only[G',Gh.stored,List.nil_append,List.cons_append,if_true,if_pos hc,e1]
         ·rename_i hc
          rw[O6]at hc
          have:=DZ i' j' ys ht rfl
          simp only[List.nil_append]at this⊢
          refine this.move rfl (λc q jC=>?_) λq=>?_
          ·refine⟨?_,AP c λe=>?_⟩
           ·simp only[List.cons_append,List.nil_append]at jC⊢
            simp only[G',Gh.stored,jC,if_true,if_neg hc]
           ·subst e;rw[g3]at jC;cases jC
          ·simp only[G',Gh.stored,List.cons_append,List.nil_append,if_true,if_neg hc]
       refine⟨λe n u he hl=>?_,λb u hl=>?_,λj u hl=>?_,λr u hl j hj=>?_,λj hj=>?_,λc l hc=>?_⟩
       ·rcases k_ hl with⟨n',iA,e1,rfl⟩|hl
        ·trivial
        ·rcases jI hl with⟨e1,_⟩|hl
         ·cases e1
         ·obtain⟨_,j,e1,_⟩:=a7 _ _ hl;cases e1
       ·rcases k_ hl with⟨n',iA,e1,rfl⟩|hl
        ·cases e1
        ·rcases jI hl with⟨e1,_⟩|hl
         ·cases e1
         ·obtain⟨_,j,e1,_⟩:=a7 _ _ hl;cases e1
       ·rcases k_ hl with⟨n',iA,e1,rfl⟩|hl
        ·cases e1
        ·rcases jI hl with⟨e1,rfl⟩|hl
         ·cases e1;exact⟨_,CP,Ry⟩
         ·obtain⟨_,j',e1,rfl,_⟩:=a7 _ _ hl;trivial
       ·rcases k_ hl with⟨n',iA,e1,rfl⟩|hl
        ·simp[de]at hj
        ·rcases jI hl with⟨e1,rfl⟩|hl
         ·simp[de]at hj
         ·obtain⟨_,j',e1,rfl,_⟩:=a7 _ _ hl;simp[de]at hj
       ·have:∀r:bn,(r=.x j∨r=.o j)->St.look (fi d o .un++((bn.o id,SV.ob true (k2.em (.gj (ti.zero.map λz=>!fB z) wd off) (x0::ix::xs)).2)::W1)) r≠none->M j:=by
         intro r hr hl
         obtain⟨u,hu⟩:=Option.ne_none_iff_exists'.1 hl
         rcases k_ hu with⟨n',iA,e1,rfl⟩|hl
         ·rcases hr with rfl|rfl<;>cases e1
         ·rcases jI hl with⟨e1,_⟩|hl
          ·rcases hr with rfl|rfl
           ·cases e1
           ·cases e1;exact tG
          ·obtain⟨_,j',e1,_,hm,_⟩:=a7 _ _ hl
           rcases hr with rfl|rfl
           ·cases e1
           ·cases e1;exact hm
        rcases hj with hj|hj
        ·exact this _ (.inl rfl) hj
        ·exact this _ (.inr rfl) hj
       ·rw[HD]
        cases Rz:G.ω c with
        |none=>simp[G',Gh.stored,Rz]at hc
        |some l'=>
         have ke:=hw.rel.ia c l' Rz
         refine⟨?_,ke.2⟩
         cases l' with
         |f=>simp[G',Gh.stored,Rz]at hc;subst hc;exact ke.1
         |x j=>simp[G',Gh.stored,Rz]at hc;subst hc;exact ke.1
         |o j p=>
          simp only[G',Gh.stored,Rz]at hc
          split at hc
          ·rename_i hj
           subst hj
           split at hc
           ·cases hc;exact tG
           ·split at hc
            ·cases hc
            ·cases hc;exact tG
          ·split at hc
           ·cases hc;exact tG
           ·cases hc;exact ke.1
     ·cases kg
    ·cases cm
   ·cases cm
 ·cases cm
end
end Go.Proofs.YtjimmglpkndemaaGreatC

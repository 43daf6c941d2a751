/- The walk by reflection: a part of its laws, for any function. Conditions: none. -/
import Derived.Test.YtjimmglpkndemaaGreatKa
import Derived.Laws.Slices
import Derived.Deep.AppendSrc
namespace Go.Proofs.YtjimmglpkndemaaGreatC
set_option linter.unusedVariables false
theorem Kd{xs:List (List T)}{i off:Nat}{r ts:List T}(hr:xs[i]?=some r)(hf:off+ts.length<=r.length)(i' j':Nat):
  dP (setRow xs i off ts) i' j'=if i'=i∧off<=j'∧j'<off+ts.length then ts[j'-off]? else dP xs i' j':=by
 unfold dP setRow
 rw[List.getElem?_modify]
 by_cases hi:i=i'
 ·subst hi
  simp only[hr,if_true,Option.map_eq_map,Option.map_some,Option.bind_some,true_and]
  have hl:(r.take off).length=off:=by simp;omega
  by_cases h1:j'<off
  ·rw[if_neg (by omega),List.append_assoc,List.getElem?_append_left (by omega),List.getElem?_take,if_pos h1]
  ·rw[List.append_assoc,List.getElem?_append_right (by omega),hl]
   by_cases h2:j'<off+ts.length
   ·rw[if_pos ⟨by omega,h2⟩,List.getElem?_append_left (by omega)]
   ·rw[if_neg (by omega),List.getElem?_append_right (by omega),List.getElem?_drop]
    congr 1
    omega
 ·rw[if_neg (by omega:¬(i'=i∧_))]
  cases xs[i']? <;>simp[hi]
theorem Ey{xs:List (List T)}{i off:Nat}{ts:List T}:(setRow xs i off ts).length=xs.length:=by simp[setRow]
theorem Sm{xs:List (List T)}{i off wd:Nat}{r ts:List T}(hw:∀r∈xs,r.length=wd)(hr:xs[i]?=some r)(hf:off+ts.length<=r.length):
  ∀r∈setRow xs i off ts,r.length=wd:=by
 intro r' km
 obtain⟨n,hn⟩:=List.getElem?_of_mem km
 unfold setRow at hn
 rw[List.getElem?_modify]at hn
 by_cases hi:i=n
 ·subst hi
  simp only[hr,if_true,Option.map_eq_map,Option.map_some,bF]at hn
  have:=hw r (List.mem_of_getElem? hr)
  subst hn
  simp
  omega
 ·simp only[if_neg hi]at hn
  cases hx:xs[n]? with
  |none=>simp[hx]at hn
  |some r''=>simp[hx]at hn;subst hn;exact hw _ (List.mem_of_getElem? hx)
theorem fg.sib{G:Gh}{w w':World}{id:Nat}{p:List (Nat×Nat)}{t:T}{dp:Bool}(h:fg G w id dp p t)(gN:dp=true)
  (hh:∀c q,G.ω c=some (.o id (p++q))->w'.heap[c]?=w.heap[c]?):fg G w' id dp p t:=by
 induction h with
 |nil h=>exact .nil h
 | @l dp p xs b wd cap arr elem cv h1 h2 h3 h4 h5 h6 h7 h8 h9 pn yO ih=>
  refine .l h1 h2 h3 ((hh b [] (by simpa using h3)).trans h4) h5 h6 h7 h8 (λi j ys hy hd=>by rw[gN]at hd;cases hd) pn λi j ys hy hd=>?_
  exact ih i j ys hy hd rfl λc q hc=>hh c ((i,j)::q) (by simpa using hc)
theorem fg.put{G:Gh}{w w':World}{id:Nat}{dp:Bool}{p:List (Nat×Nat)}{xs:List (List T)}{b n cap:Nat}(h:fg G w id dp p (.l xs))
  (hH:G.H id p=.slice (some ⟨b,0,none⟩) n cap)(Ke:qt (.o id p)=false){i off:Nat}{r ts:List T}{vs:List Value}(hr:xs[i]?=some r)(hf:off+ts.length<=r.length)(hl:vs.length=ts.length)
  {arr:Array Value}{elem:TypeId}(hb:w.heap[b]?=some (.cells arr elem (0,0)))
  (kl:w'.heap[b]?=some (.cells (arr.toList.take (i*r.length+off)++vs++arr.toList.drop (i*r.length+off+vs.length)).toArray elem (0,0)))
  (hs:w'.heap.size=w.heap.size)(hh:∀c,c≠b->w'.heap[c]?=w.heap[c]?)
  (hd:∀(j:Nat) (t:T) (v:Value),ts[j]?=some t->vs[j]?=some v->eP G.q w' t v)(oM:dp=true->ts.all dX=true):fg G w' id dp p (.l (setRow xs i off ts)):=by
 cases h with
 |nil IQ=>rw[hH]at IQ;cases IQ
 | @l _ _ _ b2 wd Kf asK art cv h1 h2 h3 h4 h5 h6 h7 h8 h9 pn yO=>
  rw[hH]at h1
  cases h1
  rw[hb]at h4
  cases h4
  have ZX:r.length=wd:=h6 r (List.mem_of_getElem? hr)
  rw[ZX]at kl
  have Sn:i<xs.length:=(List.getElem?_eq_some_iff.1 hr).1
  have lZ:i*wd+off+vs.length<=arr.size:=by
   rw[h5]
   have:(i+1)*wd<=cap*wd:=Nat.mul_le_mul_right _ (by omega)
   rw[Nat.add_mul]at this
   omega
  have rO:∀c,c<w.heap.size->G.q c=none->G.q c=none∧w'.heap[c]?=w.heap[c]?:=λc _ hc=>⟨hc,hh c λe=>by subst e;exact xB h3 Ke hc⟩
  let ub:Nat->Nat->Value:=λi' j'=>if i'=i∧off<=j'∧j'<off+ts.length then vs.getD (j'-off) undef else cv i' j'
  have bN:=Kd hr hf
  have rP:∀i' j',j'<wd->(arr.toList.take (i*wd+off)++vs++arr.toList.drop (i*wd+off+vs.length)).toArray[i'*wd+j']? =
    if i'=i∧off<=j'∧j'<off+ts.length then vs[j'-off]? else arr[i'*wd+j']?:=by
   intro i' j' sR
   rw[List.getElem?_toArray,<-ZV _ _ _ lZ,Array.getElem?_toList,P0 _ _ _ _ lZ]
   have key:(i*wd+off<=i'*wd+j'∧i'*wd+j'<i*wd+off+vs.length)↔(i'=i∧off<=j'∧j'<off+ts.length):=by
    constructor
    ·rintro⟨g1,g2⟩
     have:i'=i:=by
      rcases Nat.lt_trichotomy i' i with bE|he|So
      ·have:(i'+1)*wd<=i*wd:=Nat.mul_le_mul_right _ bE
       rw[Nat.add_mul]at this
       omega
      ·exact he
      ·have:(i+1)*wd<=i'*wd:=Nat.mul_le_mul_right _ So
       rw[Nat.add_mul]at this
       omega
     subst this
     exact⟨rfl,by omega,by omega⟩
    ·rintro⟨rfl,g1,g2⟩
     exact⟨by omega,by omega⟩
   by_cases hc:i'=i∧off<=j'∧j'<off+ts.length
   ·rw[if_pos (key.2 hc),if_pos hc]
    congr 1
    obtain⟨rfl,_,_⟩:=hc
    omega
   ·rw[if_neg (λg=>hc (key.1 g)),if_neg hc]
  have inn:∀i' j' t,dP (setRow xs i off ts) i' j'=some t->(i'=i∧off<=j'∧j'<off+ts.length)->∃v,vs[j'-off]?=some v∧ub i' j'=v∧eP G.q w' t v:=by
   intro i' j' t ht hc
   rw[bN,if_pos hc]at ht
   have bE:j'-off<vs.length:=by omega
   refine⟨vs[j'-off],List.getElem?_eq_getElem bE,?_,hd _ _ _ ht (List.getElem?_eq_getElem bE)⟩
   simp[ub,hc,List.getD,List.getElem?_eq_getElem bE]
  have out:∀i' j' t,dP (setRow xs i off ts) i' j'=some t->¬(i'=i∧off<=j'∧j'<off+ts.length)->dP xs i' j'=some t∧ub i' j'=cv i' j':=by
   intro i' j' t ht hc
   rw[bN,if_neg hc]at ht
   exact⟨ht,by simp only[ub,if_neg hc]⟩
  have yS:∀i' j' t,dP (setRow xs i off ts) i' j'=some t->(i'=i∧off<=j'∧j'<off+ts.length)->dp=true->dX t=true:=by
   intro i' j' t ht hc gN
   rw[bN,if_pos hc]at ht
   exact List.all_eq_true.1 (oM gN) t (List.mem_of_getElem? ht)
  refine .l (cv:=ub) (b:=b) (wd:=wd) (cap:=cap) (elem:=elem) (by rw[hH,Ey]) (by rw[Ey];exact⟨h2.1,λhe=>h2.2 (List.eq_nil_of_length_eq_zero (by rw[<-Ey,he];rfl))⟩) h3 kl ?_ (Sm h6 hr hf) ?_ ?_ ?_ ?_ ?_
  ·rw[List.size_toArray,<-ZV _ _ _ lZ,Array.length_toList,PZ];exact h5
  ·intro i' j' t ht
   have sR:j'<wd:=by
    obtain⟨r',km,je,_,_,bE⟩:=yN ht
    have:=Sm h6 hr hf r' je
    omega
   rw[rP i' j' sR]
   by_cases hc:i'=i∧off<=j'∧j'<off+ts.length
   ·obtain⟨v,g1,g2,_⟩:=inn i' j' t ht hc
    rw[if_pos hc,g1,g2]
   ·obtain⟨g1,g2⟩:=out i' j' t ht hc
    rw[if_neg hc,g2]
    exact h7 i' j' t g1
  ·intro i' j' v ht
   by_cases hc:i'=i∧off<=j'∧j'<off+ts.length
   ·obtain⟨u,g1,g2,g3⟩:=inn i' j' _ ht hc
    obtain⟨e,hs⟩:=g3.scalar
    exact⟨g2.trans e,hs⟩
   ·obtain⟨g1,g2⟩:=out i' j' _ ht hc
    rw[g2];exact h8 i' j' v g1
  ·intro i' j' ys ht gN
   by_cases hc:i'=i∧off<=j'∧j'<off+ts.length
   ·obtain⟨u,g1,g2,g3⟩:=inn i' j' _ ht hc
    rw[g2];exact g3
   ·obtain⟨g1,g2⟩:=out i' j' _ ht hc
    rw[g2];exact(h9 i' j' ys g1 gN).bp (by omega) rO
  ·intro i' j' ys ht gN
   by_cases hc:i'=i∧off<=j'∧j'<off+ts.length
   ·have:=yS i' j' _ ht hc gN
    simp[dX]at this
   ·obtain⟨g1,g2⟩:=out i' j' _ ht hc
    rw[g2];exact pn i' j' ys g1 gN
  ·intro i' j' ys ht gN
   by_cases hc:i'=i∧off<=j'∧j'<off+ts.length
   ·have:=yS i' j' _ ht hc gN
    simp[dX]at this
   ·obtain⟨g1,g2⟩:=out i' j' _ ht hc
    refine(yO i' j' ys g1 gN).sib rfl λc q Kg=>hh c λe=>?_
    subst e
    rw[h3]at Kg
    simp at Kg
def oS:List (Nat×Nat)->T->T->Option T
 | [],_,u=>some u
 |(i,j)::p,.l xs,u=>(dP xs i j).bind λs=>(oS p s u).bind λs'=>some (.l (setRow xs i j [s']))
 |_,_,_=>none
theorem abO:∀{p:List (Nat×Nat)} {t:T} {ys:List (List T)},i_ p t=some (.l ys)->∃xs,t=.l xs
 | [],t,ys,h=>by simp[i_]at h;exact⟨ys,h⟩
 |(i,j)::p,.l xs,ys,h=>⟨xs,rfl⟩
 |(i,j)::p,.c v,ys,h=>by simp[i_]at h
theorem abP:∀{p:List (Nat×Nat)} {t t':T} {zs:List (List T)},oS p t (.l zs)=some t'->∃xs,t'=.l xs
 | [],t,t',zs,h=>by simp[oS]at h;exact⟨zs,h.symm⟩
 |(i,j)::p,.l xs,t',zs,h=>by
  simp only[oS,cN,bF]at h
  obtain⟨s,hs,s',Kh,rfl⟩:=h
  exact⟨_,rfl⟩
 |(i,j)::p,.c v,t',zs,h=>by simp[oS]at h
theorem fg.oS{G:Gh}{w w':World}{id b:Nat}(hh:∀c,c≠b->w'.heap[c]?=w.heap[c]?):∀{p p0:List (Nat×Nat)} {t t':T} {ys zs:List (List T)},
  fg G w id true p0 t->i_ p t=some (.l ys)->oS p t (.l zs)=some t'->G.ω b=some (.o id (p0++p))->fg G w' id true (p0++p) (.l zs)->fg G w' id true p0 t'
 | [],p0,t,t',ys,zs,h,hd,hb,iA,hs=>by
  simp only[Go.Proofs.YtjimmglpkndemaaGreatC.oS,bF]at hb
  subst hb
  simpa using hs
 |(i,j)::p,p0,t,t',ys,zs,h,hd,hb,iA,hs=>by
  cases h with
  |nil hH=>simp[i_,dP]at hd
  | @l _ _ xs b2 wd cap arr elem cv h1 h2 h3 h4 h5 h6 h7 h8 h9 pn yO=>
   simp only[i_,cN]at hd
   obtain⟨s,nB,nr⟩:=hd
   simp only[Go.Proofs.YtjimmglpkndemaaGreatC.oS,nB,Option.bind_some,cN,bF]at hb
   obtain⟨s',Kh,rfl⟩:=hb
   obtain⟨us,rfl⟩:=abO nr
   obtain⟨us',rfl⟩:=abP Kh
   have ih:=fg.oS hh (p:=p) (p0:=p0++[(i,j)]) (yO i j us nB rfl) nr Kh (by simpa using iA) (by simpa using hs)
   obtain⟨r,hr,je,IR,_,hjl⟩:=yN nB
   have hf:j+[T.l us'].length<=r.length:=by simp;omega
   have dI:b2≠b:=by intro e;subst e;rw[h3]at iA;simp at iA
   have bN:∀i' j',dP (setRow xs i j [T.l us']) i' j'=if i'=i∧j'=j then some (T.l us')else dP xs i' j':=by
    intro i' j'
    rw[Kd hr hf]
    by_cases hc:i'=i∧j'=j
    ·obtain⟨rfl,rfl⟩:=hc
     rw[if_pos ⟨rfl,Nat.le_refl _,by simp⟩,if_pos ⟨rfl,rfl⟩];simp
    ·rw[if_neg (by simp only[List.length_singleton];omega),if_neg hc]
   refine .l (cv:=cv) (by rw[Ey];exact h1) (by rw[Ey];exact⟨h2.1,λhe=>h2.2 (List.eq_nil_of_length_eq_zero (by rw[<-Ey,he];rfl))⟩) h3 ((hh b2 dI).trans h4) h5 (Sm h6 hr hf) ?_ ?_ (λi' j' ZY ht lz=>by cases lz) ?_ ?_
   ·intro i' j' t ht
    rw[bN]at ht
    split at ht
    ·rename_i hc;obtain⟨rfl,rfl⟩:=hc;exact h7 _ _ _ nB
    ·exact h7 _ _ _ ht
   ·intro i' j' v ht
    rw[bN]at ht
    split at ht
    ·cases ht
    ·exact h8 _ _ _ ht
   ·intro i' j' ZY ht _
    rw[bN]at ht
    split at ht
    ·rename_i hc;obtain⟨rfl,rfl⟩:=hc;exact pn _ _ _ nB rfl
    ·exact pn _ _ _ ht rfl
   ·intro i' j' ZY ht _
    rw[bN]at ht
    split at ht
    ·rename_i hc;obtain⟨rfl,rfl⟩:=hc;cases ht;exact ih
    ·rename_i hc
     refine(yO i' j' ZY ht rfl).sib rfl λc q Kg=>hh c λe=>?_
     subst e
     rw[iA]at Kg
     simp at Kg
     exact hc ⟨Kg.1.1.symm,Kg.1.2.symm⟩
section
variable {S:Nat->aB} {ρ:List T}
theorem Wk.uc:∀(q:oJ) (k:Wk) (x y:Lf),k.e_ (k.up x y q).1
 | [],k,x,y=>.refl k
 |(ix,w,j)::q,k,x,y=>by
  simp only[Wk.up]
  exact((Wk.bM k _ _).trans (Wk.uc q _ _ _)).trans (Wk.bM _ _ _)
theorem Wk.xH:∀(q:oJ) (k:Wk) (x y:Lf),(k.up x y q).1.bJ S ρ->k.bJ S ρ
 | [],_,_,_,h=>h
 |(ix,w,j)::q,k,x,y,h=>by
  simp only[Wk.up]at h
  exact(Wk.bV (Wk.xH q _ _ _ (Wk.bV h).1)).1
theorem abR{x ix z:Lf}{w j i:Nat}{xs:List (List T)}{t u:T}(hx:x.fN ρ=some (.l xs))(hi:mY ρ ix=some i)(hz:z.fN ρ=some u)
  (h:Prim.ev (.zB w j) [x.ev ρ,ix.ev ρ,z.ev ρ]=some t):t=.l (setRow xs i j [u]):=by
 obtain⟨k,hk⟩:=zO hi
 rw[Lf.bU hx,hk,Lf.bU hz]at h
 simp only[Prim.ev,Cv,T.rows,T.int,Option.bind_some,Int.toNat_natCast]at h
 cases hr:xs[i]? with
 |none=>simp[hr]at h
 |some r=>
  simp only[hr,Option.bind_some]at h
  split at h
  ·split at h
   ·simp only[bF]at h;exact h.symm
   ·cases h
  ·cases h
theorem Wk.yT:∀(q:oJ) (k:Wk) (x y:Lf) {t:T} {zs:List (List T)} {p:List (Nat×Nat)},(k.up x y q).1.bJ S ρ->x.fN ρ=some t->y.fN ρ=some (.l zs)->gQ ρ q=some p->
  (q=[]∨∃xs,t=.l xs)->∃t',oS p t (.l zs)=some t'∧(k.up x y q).2.fN ρ=some t'
 | [],k,x,y,t,zs,p,h,hx,hy,hp,_=>by
  simp only[gQ]at hp
  cases hp
  exact⟨.l zs,rfl,hy⟩
 |(ix,w,j)::q,k,x,y,t,zs,p,h,hx,hy,hp,ht=>by
  simp only[Wk.up]at h⊢
  obtain⟨xs,rfl⟩:=ht.resolve_left (by simp)
  simp only[gQ]at hp
  cases hi:mY ρ ix with
  |none=>simp[hi]at hp
  |some i=>
   cases hq:gQ ρ q with
   |none=>simp[hi,hq]at hp
   |some p'=>
    simp[hi,hq]at hp
    subst hp
    obtain⟨h2,t',j1,jS⟩:=Wk.bV h
    obtain⟨_,u,hu,huv⟩:=Wk.bV (Wk.xH q _ _ _ h2)
    obtain⟨ys,rfl,bN,_⟩:=Fy hx hi hu
    obtain⟨v,hv,uR⟩:=Wk.yT q _ _ _ h2 huv hy hq (.inr ⟨ys,rfl⟩)
    have:=abR hx hi uR j1
    subst this
    exact⟨_,by simp[oS,bN,hv],jS⟩
end
section
variable {M:Nat->Prop} {B:eT} {d:Nat} {up:Nat->Nat->Value} {ρ:List T} {G:Gh} {a:Act} {w:World} {S:Nat->aB} {P:Program}
variable {cx:Cx} {cV ft oi:Nat} {s:St} {R:List bD} {ct:Ct} {k':Wk} {o:Oper} {Q:Exit->Act->World->Prop}
theorem ZZ{t:Nat}{ti:TI}(hT:vE P t ti){b off:Nat}{v:Value}(hl:v.cells.size=ti.sz){arr:Array Value}{elem:TypeId}
  (hb:w.heap[b]?=some (.cells arr elem (0,0)))(hf:off+v.cells.size<=arr.size)(h1:∀u∈v.cells.toList,u.oneCell'=true):
  (Instr.storeAt t (.pointer (some ⟨b,off,none⟩)) v).run P w=.ok () (w.setRow b (arr.toList.take off++v.cells.toList++arr.toList.drop (off+v.cells.toList.length)).toArray):=by
 obtain⟨i,z,hi,hs,_,_,_⟩:=hT.info
 have cC:=run_storeCells_at (P:=P) b off elem v.cells.toList 0 arr w hb (by simpa using hf) h1
 simp only[Nat.add_zero]at cC
 simp[Instr.storeAt,Instr.sureAddr,storeVar,sizeOf,typeInfo,hi,hs,hl]
 simpa[hl]using cC
theorem Ki(w:World)(b:Nat)(cs:Array Value):jK w (w.setRow b cs):=⟨rfl,rfl,rfl⟩
theorem IU(w:World)(b:Nat)(cs:Array Value):(w.setRow b cs).heap.size=w.heap.size:=by simp[World.setRow]
theorem Sp{b:Nat}{l:Lb}(hl:G.ω b=some l)(Ke:qt l=false)(cs:Array Value){I:Lb->Prop}(hI:I l){N:Nat->Prop}:dA I N G w G (w.setRow b cs):=by
 refine⟨by rw[IU];exact Nat.le_refl _,λc _ hc=>⟨hc,setRow_other _ _ _ _ λe=>?_⟩,λc _ hc=>hc,λc l' hc hn=>⟨hc,setRow_other _ _ _ _ λe=>?_⟩,λ_ _=>⟨rfl,λ_ _=>rfl⟩⟩
 ·subst e;exact xB hl Ke hc
 ·subst e;rw[hl]at hc;cases hc;exact hn hI
theorem FH{t:Nat}{x y:Operand}(ho:o.op=.store t x y){w':World}(h:(Instr.storeAt t (a.eval x) (a.eval y)).run P w=.ok () w'):
  (execOp a.eval o).run P w=.ok .skip w':=by
 unfold execOp
 rw[ho]
 show Sem.run P (do Instr.storeAt t (a.eval x) (a.eval y);pure Next.skip) w=_
 rw[Sem.run_bind,h];rfl
theorem abS(dW:ew P cx)(h:Rel M B d up s ρ G a w)(hn:∀n,o.dst=some n->n<a.tmps.size){t:Nat}{x y:Operand}(ho:o.op=.store t x y)
  {bx off:Nat}(hx:cz d (Wk.get ⟨s.only R,[],ct,[]⟩) x=.pt bx off)
  (hk:∃k1,storeAt cx ⟨s.only R,[],ct,[]⟩ t (cz d (Wk.get ⟨s.only R,[],ct,[]⟩) x) (cz d (Wk.get ⟨s.only R,[],ct,[]⟩) y)=some k1∧b9 d o k1 .un=k'):bT P M B d up ρ a w s o k'.w Q∧k'.ct.i=ct.i:=by
 have hw:=dy.start h R ct
 obtain⟨k1,cC,hk⟩:=hk
 have cO:b9 d o k1 .un=k':=hk
 subst cO
 simp only[storeAt,hx,cN]at cC
 obtain⟨ti,fQ,cs,lB,cC⟩:=cC
 cases hl:Nat.beq cs.length ti.sz with
 |false=>simp[hl]at cC
 |true=>
  simp only[hl,cond_true]at cC
  have hlen:=dU hl
  obtain⟨hr,hm⟩:=hw.jc y
  obtain⟨yQ,_⟩:=hw.jc x
  rw[hx]at yQ
  unfold cellsOf at lB
  split at lB
  ·rename_i ag es0 eD
   cases lB
   rw[eD]at hr hm
   have uS:=Sh hr
   split at cC
   ·rename_i Z0 zD hold
    cases hle:Nat.ble (off+cs.length) zD.length with
    |false=>simp[hle]at cC
    |true=>
     simp only[hle,cond_true,bF]at cC
     subst cC
     have lZ:=Nat.le_of_ble_eq_true hle
     have wQ:=hw.rel.bx bx
     rw[<-Wk.a_,hold]at wQ
     obtain⟨iA,arr,elem,hb,IV⟩:=wQ
     have qI:=uS.length
     have tc:=IV.length
     simp only[Array.length_toList]at qI tc
     have eV:=ZZ (w:=w) (dW.ty _ _ fQ) (v:=a.eval y) (by rw[<-qI];exact hlen) hb (off:=off) (by omega) (λu hu=>uS.one u hu)
     have l8:=IV.gB off uS
     have FG:=Sf zD cs off
     have hmo:∀i∈dN zD,M i:=λi hi=>hw.rel.fZ (.x bx) i (by rw[<-Wk.a_,hold];exact hi)
     have hmM:∀i∈dN (gB zD off cs),M i:=λi hi=>(FG i hi).elim (hmo i) (hm i)
     refine⟨?_,by rw[oL];rfl⟩
     have hK:dA (qC (fA d o .un++[(.x bx,.v Z0 (gB zD off cs))])) (λ_=>False) G w G
       (w.setRow (G.β bx) (arr.toList.take off++(a.eval y).cells.toList++arr.toList.drop (off+(a.eval y).cells.toList.length)).toArray):=by
      refine Sp iA rfl _ ?_
      show St.look _ (bD.x bx)≠none
      rw[nC,wS];simp
     simp only[bT,Oper.wp,FH ho (by rw[show a.eval x=_ from yQ];exact eV),Oper.upon]
     refine⟨G,J' h hw (W2:=fA d o .un++[(.x bx,.v Z0 (gB zD off cs))]) (z8 (W2:=[(.x bx,.v Z0 (gB zD off cs))]) λr=>by exact wT r)
      hK (λi hi=>hi.elim) (λi hi=>hi) (λn qH=>Kb qH) (Ki _ _ _) ?_,Cz _ _ _⟩
     refine⟨λe n u he hl=>?_,λb u hl=>?_,λi u hl=>?_,λr u hl i hi=>?_,λi hi=>?_,λb l hb=>?_⟩
     ·rcases l7 hl with⟨n',gO,e1,rfl⟩|hl
      ·trivial
      ·rcases j8 hl with⟨e1,_⟩|hl
       ·cases e1
       ·cases hl
     ·rcases l7 hl with⟨n',gO,e1,rfl⟩|hl
      ·cases e1
      ·rcases j8 hl with⟨e1,rfl⟩|hl
       ·cases e1
        refine⟨iA,_,elem,setRow_heap w _ arr _ elem _ hb,?_⟩
        exact l8.bp hK λi _ hf=>hf
       ·cases hl
     ·rcases l7 hl with⟨n',gO,e1,rfl⟩|hl
      ·cases e1
      ·rcases j8 hl with⟨e1,rfl⟩|hl
       ·cases e1
       ·cases hl
     ·rcases l7 hl with⟨n',gO,e1,rfl⟩|hl
      ·simp[dt]at hi
      ·rcases j8 hl with⟨e1,rfl⟩|hl
       ·exact hmM i hi
       ·cases hl
     ·have:∀r:bD,(r=.x i∨r=.o i)->St.look (fA d o .un++[(bD.x bx,SV.v Z0 (gB zD off cs))]) r≠none->i=bx:=by
       intro r hr hl
       obtain⟨u,hu⟩:=Option.ne_none_iff_exists'.1 hl
       rcases l7 hu with⟨n',gO,e1,rfl⟩|hl
       ·rcases hr with rfl|rfl<;>cases e1
       ·rcases j8 hl with⟨e1,rfl⟩|hl
        ·rcases hr with rfl|rfl
         ·cases e1;rfl
         ·cases e1
        ·cases hl
      have hMb:M bx:=hw.rel.key bx (.inl (by rw[<-Wk.a_,hold];simp))
      rcases hi with hi|hi
      ·rw[this _ (.inl rfl) hi];exact hMb
      ·rw[this _ (.inr rfl) hi];exact hMb
     ·rw[IU];exact h.iO b l hb
   ·cases cC
  ·cases lB
def eB(ω:Nat->Option Lb)(w:World):List T->List Value->Prop
 | [],[]=>True
 |t::ts,v::vs=>eP ω w t v∧eB ω w ts vs
 |_,_=>False
theorem eB.length{ω:Nat->Option Lb}:∀{ts:List T} {vs:List Value},eB ω w ts vs->ts.length=vs.length
 | [],[],_=>rfl
 | [],_::_,h=>h.elim
 |_::_,[],h=>h.elim
 |_::ts,_::vs,h=>by simp[eB.length h.2]
theorem eB.get{ω:Nat->Option Lb}:∀{ts:List T} {vs:List Value},eB ω w ts vs->∀(j:Nat) (t:T) (v:Value),ts[j]?=some t->vs[j]?=some v->eP ω w t v
 | [],[],_,j,t,v,h,_=>by simp at h
 | [],_::_,h,_,_,_,_,_=>h.elim
 |_::_,[],h,_,_,_,_,_=>h.elim
 |t::ts,v::vs,h,0,_,_,h1,h2=>by simp at h1 h2;subst h1 h2;exact h.1
 |t::ts,v::vs,h,j+1,_,_,h1,h2=>eB.get h.2 j _ _ (by simpa using h1) (by simpa using h2)
theorem eB.dX{ω xC:Nat->Option Lb}{w':World}:∀{ts:List T} {vs:List Value},eB ω w ts vs->ts.all dX=true->eB xC w' ts vs
 | [],[],_,_=>trivial
 | [],_::_,h,_=>h.elim
 |_::_,[],h,_=>h.elim
 |t::ts,v::vs,h,hs=>by
  simp only[List.all_cons,bI]at hs
  refine⟨?_,eB.dX h.2 hs.2⟩
  obtain⟨u,rfl⟩:=zX hs.1
  obtain⟨rfl,hu⟩:=h.1.scalar
  exact .c hu
theorem eB.bp{ω xC:Nat->Option Lb}{w':World}(hs:w.heap.size<=w'.heap.size)(hf:∀b,b<w.heap.size->ω b=none->xC b=none∧w'.heap[b]?=w.heap[b]?):
  ∀{ts:List T} {vs:List Value},eB ω w ts vs->eB xC w' ts vs
 | [],[],_=>trivial
 | [],_::_,h=>h.elim
 |_::_,[],h=>h.elim
 |t::ts,v::vs,h=>⟨h.1.bp hs hf,eB.bp hs hf h.2⟩
def CJ(k:Wk)(cs:List Ce):Prop:=∀id∈dN cs,∃pv x,k.get (.o id)=.fz pv x
theorem Wk.td{k k1:Wk}{c:Ce}{x:Lf}{G1:Gh}{v:Value}(h:k.val c=some (k1,x))(hr:gf G1 w ρ c v)(hk:dy M B d up ρ G a w k G1)(hf:CJ k [c]):
  ∃t,x.fN ρ=some t∧eP G1.q w t v:=by
 cases c with
 |p y=>simp[Wk.val]at h;obtain⟨_,rfl⟩:=h;exact hr
 |n=>simp[Wk.val]at h;obtain⟨_,rfl⟩:=h;cases hr;exact⟨_,rfl,.nil⟩
 |d=>simp[Wk.val]at h
 |o id q=>
  obtain⟨pv,y,hy⟩:=hf id (by simp[dN])
  have ej:=hk.obj id
  obtain⟨p,hp,rfl⟩:=hr
  simp only[Wk.val,hy]at h
  rw[hy]at ej
  split at h
  ·simp at h
   obtain⟨_,rfl⟩:=h
   simp only[nz]at hp
   cases hp
   exact⟨_,ej.choose_spec.1,ej.choose_spec.2.1⟩
  ·cases h
theorem Wk.hX:∀{cs:List Ce} {k k1:Wk} {xs:List Lf},k.jJ cs=some (k1,xs)->k.e_ k1
 | [],k,k1,xs,h=>by simp[Wk.jJ]at h;obtain⟨rfl,_⟩:=h;exact .refl _
 |c::cs,k,k1,xs,h=>by
  simp only[Wk.jJ,cN,bF,Prod.mk.injEq]at h
  obtain⟨⟨k2,x⟩,h1,⟨k3,ys⟩,h2,rfl,rfl⟩:=h
  exact(Wk.dR h1).trans (Wk.hX h2)
theorem Wk.l9:∀{cs:List Ce} {k k1:Wk} {xs:List Lf},k.jJ cs=some (k1,xs)->k1.bJ S ρ->k.bJ S ρ
 | [],k,k1,xs,h,hd=>by simp[Wk.jJ]at h;obtain⟨rfl,_⟩:=h;exact hd
 |c::cs,k,k1,xs,h,hd=>by
  simp only[Wk.jJ,cN,bF,Prod.mk.injEq]at h
  obtain⟨⟨k2,x⟩,h1,⟨k3,ys⟩,h2,rfl,rfl⟩:=h
  exact Wk.mZ h1 (Wk.l9 h2 hd)
theorem Wk.hY:∀{cs:List Ce} {k k1:Wk} {xs:List Lf} {G1:Gh} {vs:List Value},k.jJ cs=some (k1,xs)->k1.bJ S ρ->bn G1 w ρ cs vs->dy M B d up ρ G a w k G1->
  ∃ts,xs.map (Lf.ev ρ)=ts∧eB (er G1.ω) w ts vs∧(CJ k cs->eB G1.q w ts vs)∧xs.length=vs.length
 | [],k,k1,xs,G1,vs,h,hd,hr,hk=>by
  simp[Wk.jJ]at h
  obtain⟨_,rfl⟩:=h
  cases vs with
  |nil=>exact⟨[],rfl,trivial,λ_=>trivial,rfl⟩
  |cons _ _=>exact hr.elim
 |c::cs,k,k1,xs,G1,[],h,hd,hr,hk=>hr.elim
 |c::cs,k,k1,xs,G1,v::vs,h,hd,hr,hk=>by
  simp only[Wk.jJ,cN,bF,Prod.mk.injEq]at h
  obtain⟨⟨k2,x⟩,h1,⟨k3,ys⟩,h2,rfl,rfl⟩:=h
  have hs:=Wk.dR h1
  obtain⟨ts,e1,e2,e3,e4⟩:=Wk.hY h2 hd hr.2 (hk.same hs)
  obtain⟨t,ht,nA⟩:=Wk.lW h1 (Wk.l9 h2 hd) hr.1 λid _=>hk.obj id
  refine⟨t::ts,by simp[e1,Lf.bU ht],⟨nA,e2⟩,λhf=>⟨?_,e3 λid hid=>?_⟩,by simp[e4]⟩
  ·obtain⟨t',j1,nH⟩:=Wk.td h1 hr.1 hk λid hid=>hf id (by rw[zN];exact List.mem_append_left _ hid)
   rw[ht]at j1
   cases j1
   exact nH
  ·rw[hs.get]
   exact hf id (by rw[zN];exact List.mem_append_right _ hid)
theorem dy.eu:∀{cs:List Ce} {k k1:Wk} {G1:Gh},dy M B d up ρ G a w k G1->k.eu cs=some k1->
  ∃G2,dy M B d up ρ G a w k1 G2∧G2.β=G1.β∧G2.H=G1.H∧k1.ct=k.ct∧k1.is=k.is∧CJ k1 cs∧(∀id pv x,k.get (.o id)=.fz pv x->k1.get (.o id)=.fz pv x)∧
   (∀id dp x,k1.get (.o id)=.ob dp x->k.get (.o id)=.ob dp x)
 | [],k,k1,G1,h,hk=>by
  simp[Wk.eu]at hk
  subst hk
  exact⟨G1,h,rfl,rfl,rfl,rfl,(λ_ h=>by cases h),(λ_ _ _ h=>h),λ_ _ _ h=>h⟩
 |c::cs,k,k1,G1,h,hk=>by
  cases c with
  |o id q=>
   simp only[Wk.eu,cN]at hk
   obtain⟨k2,h1,h2⟩:=hk
   obtain⟨G2,g1,g2,g3,g4,g5,g6⟩:=h.nl h1
   obtain⟨G3,f1,f2,f3,f4,f5,f6,f7,f8⟩:=dy.eu g1 h2
   have vH:∃pv x,k2.get (.o id)=.fz pv x:=by
    unfold Wk.nl at h1
    split at h1
    ·rename_i dp x hx;cases h1;exact⟨.z,x,by simp[Wk.get,Wk.set,St.bB]⟩
    ·rename_i pv x hx;cases h1;exact⟨pv,x,hx⟩
    ·cases h1
   have CK:∀i,i≠id->k2.get (.o i)=k.get (.o i):=by
    intro i hi
    unfold Wk.nl at h1
    split at h1
    ·cases h1;simp only[Wk.get,Wk.set];rw[St.cG _ _ (by simpa using Ne.symm hi)]
    ·cases h1;rfl
    ·cases h1
   have oT:∀pv x,k.get (.o id)=.fz pv x->k2.get (.o id)=.fz pv x:=by
    intro pv x hx
    unfold Wk.nl at h1
    rw[hx]at h1
    cases h1
    exact hx
   refine⟨G3,f1,f2.trans g2,f3.trans g3,f4.trans g5,f5.trans g6,?_,?_,?_⟩
   ·intro i hi
    rw[zN]at hi
    rcases List.mem_append.1 hi with hi|hi
    ·simp[dN]at hi
     subst hi
     obtain⟨pv,x,hx⟩:=vH
     exact⟨pv,x,f7 _ _ _ hx⟩
    ·exact f6 i hi
   ·intro i pv x hx
    refine f7 i pv x ?_
    by_cases hi:i=id
    ·subst hi;exact oT pv x hx
    ·rw[CK i hi];exact hx
   ·intro i dp x hx
    have:=f8 i dp x hx
    by_cases hi:i=id
    ·subst hi;obtain⟨pv,y,hy⟩:=vH;rw[hy]at this;cases this
    ·rwa[CK i hi]at this
  |p x=>
   obtain⟨G2,g1,g2,g3,g4,g5,g6,g7⟩:=dy.eu h (show k.eu cs=some k1 from hk)
   exact⟨G2,g1,g2,g3,g4,g5,by intro i hi;rw[zN]at hi;exact g6 i (by simpa[dN]using hi),g7⟩
  |n=>
   obtain⟨G2,g1,g2,g3,g4,g5,g6,g7⟩:=dy.eu h (show k.eu cs=some k1 from hk)
   exact⟨G2,g1,g2,g3,g4,g5,by intro i hi;rw[zN]at hi;exact g6 i (by simpa[dN]using hi),g7⟩
  |d=>
   obtain⟨G2,g1,g2,g3,g4,g5,g6,g7⟩:=dy.eu h (show k.eu cs=some k1 from hk)
   exact⟨G2,g1,g2,g3,g4,g5,by intro i hi;rw[zN]at hi;exact g6 i (by simpa[dN]using hi),g7⟩
theorem Sq{k:Wk}{G1:Gh}(h:Rel M B d up s ρ G a w)(hk:dy M B d up ρ G a w k G1)(hn:∀n,o.dst=some n->n<a.tmps.size){id b:Nat}{p:List (Nat×Nat)}{dp:Bool}{y:Lf}
  {t':T}{cells:Array Value}(iA:G1.ω b=some (.o id p))(Ke:p=[]∨id%2=1)(ud:id%4≠2)(hy:y.fN ρ=some t')(bQ:fg G1 (w.setRow b cells) id dp [] t')
  (hx:(execOp a.eval o).run P w=.ok .skip (w.setRow b cells)):bT P M B d up ρ a w s o (b9 d o (k.set (.o id) (.ob dp y)) .un).w Q:=by
 have hM:M id:=(hk.rel.iO b _ iA).1
 have hK:dA (qC (fA d o .un++[(.o id,.ob dp y)])) (λ_=>False) G1 w G1 (w.setRow b cells):=by
  refine Sp iA (JT (ρ:=ρ) Ke ud) _ ?_
  show St.look _ (bD.o id)≠none
  rw[nC,wS];simp
 simp only[bT,Oper.wp,hx,Oper.upon]
 refine⟨G1,J' h hk (W2:=fA d o .un++[(.o id,.ob dp y)]) (z8 (W2:=[(.o id,.ob dp y)]) λr=>by exact wT r)
  hK (λi hi=>hi.elim) (λi hi=>hi) (λn qH=>Kb qH) (Ki _ _ _) ?_,Cz _ _ _⟩
 refine⟨λe n u he hl=>?_,λb u hl=>?_,λi u hl=>?_,λr u hl i hi=>?_,λi hi=>?_,λb l hb=>?_⟩
 ·rcases l7 hl with⟨n',gO,e1,rfl⟩|hl
  ·trivial
  ·rcases j8 hl with⟨e1,_⟩|hl
   ·cases e1
   ·cases hl
 ·rcases l7 hl with⟨n',gO,e1,rfl⟩|hl
  ·cases e1
  ·rcases j8 hl with⟨e1,rfl⟩|hl
   ·cases e1
   ·cases hl
 ·rcases l7 hl with⟨n',gO,e1,rfl⟩|hl
  ·cases e1
  ·rcases j8 hl with⟨e1,rfl⟩|hl
   ·cases e1
    exact⟨t',hy,bQ⟩
   ·cases hl
 ·rcases l7 hl with⟨n',gO,e1,rfl⟩|hl
  ·simp[dt]at hi
  ·rcases j8 hl with⟨e1,rfl⟩|hl
   ·simp[dt]at hi
   ·cases hl
 ·have:∀r:bD,(r=.x i∨r=.o i)->St.look (fA d o .un++[(bD.o id,SV.ob dp y)]) r≠none->i=id:=by
   intro r hr hl
   obtain⟨u,hu⟩:=Option.ne_none_iff_exists'.1 hl
   rcases l7 hu with⟨n',gO,e1,rfl⟩|hl
   ·rcases hr with rfl|rfl<;>cases e1
   ·rcases j8 hl with⟨e1,rfl⟩|hl
    ·rcases hr with rfl|rfl
     ·cases e1
     ·cases e1;rfl
    ·cases hl
  rcases hi with hi|hi
  ·rw[this _ (.inl rfl) hi];exact hM
  ·rw[this _ (.inr rfl) hi];exact hM
 ·rw[IU];exact hk.rel.iO b l hb
theorem Sr{x ix:Lf}{sc:Bool}{wd off n i:Nat}{xs:List (List T)}{ts:List T}{t:T}(hx:x.fN ρ=some (.l xs))(hi:mY ρ ix=some i)
  (h:Prim.ev (.put sc wd off n) (x.ev ρ::ix.ev ρ::ts)=some t):∃r,xs[i]?=some r∧r.length=wd∧off+ts.length<=r.length∧(sc=true->ts.all dX=true)∧t=.l (setRow xs i off ts):=by
 obtain⟨k,hk⟩:=zO hi
 rw[Lf.bU hx,hk]at h
 simp only[Prim.ev,Cv,T.rows,T.int,Option.bind_some,Int.toNat_natCast]at h
 cases hr:xs[i]? with
 |none=>simp[hr]at h
 |some r=>
  simp only[hr,Option.bind_some]at h
  split at h
  ·rename_i g1
   split at h
   ·rename_i g2
    split at h
    ·rename_i g3
     split at h
     ·rename_i g4
      simp only[bF]at h
      refine⟨r,rfl,g1,by omega,λhs=>?_,h.symm⟩
      subst hs
      simpa using g4
     ·cases h
    ·cases h
   ·cases h
  ·cases h
theorem Wk.cq(k:Wk)(r:bD)(v:SV):(k.set r v).get r=v:=by
 simp[Wk.get,Wk.set,St.bB]
theorem abT(dW:ew P cx)(h:Rel M B d up s ρ G a w)(hn:∀n,o.dst=some n->n<a.tmps.size){t:Nat}{x y:Operand}(ho:o.op=.store t x y)
  {id:Nat}{q:oJ}{ix:Lf}{wd off:Nat}(hx:cz d (Wk.get ⟨s.only R,[],ct,[]⟩) x=.ep id q ix wd off)
  (hk:∃k1,storeAt cx ⟨s.only R,[],ct,[]⟩ t (cz d (Wk.get ⟨s.only R,[],ct,[]⟩) x) (cz d (Wk.get ⟨s.only R,[],ct,[]⟩) y)=some k1∧b9 d o k1 .un=k')(hd:k'.bJ S ρ):bT P M B d up ρ a w s o k'.w Q∧k'.ct.i=ct.i:=by
 have hw:=dy.start h R ct
 obtain⟨k1,cC,hk⟩:=hk
 have cO:b9 d o k1 .un=k':=hk
 subst cO
 have fI:=cX.1 hd
 simp only[storeAt,hx,cN]at cC
 obtain⟨ti,fQ,cs,lB,cC⟩:=cC
 cases hl:Nat.beq cs.length ti.sz with
 |false=>simp[hl]at cC
 |true=>
  simp only[hl,cond_true]at cC
  have hlen:=dU hl
  obtain⟨hr,hm⟩:=hw.jc y
  obtain⟨yQ,_⟩:=hw.jc x
  rw[hx]at yQ
  obtain⟨p,b,n,cap,i,hp,hH,hi,jH,jS⟩:=yQ
  unfold cellsOf at lB
  split at lB
  ·rename_i ag es0 eD
   cases lB
   rw[eD]at hr hm
   have uS:=Sh hr
   have qI:=uS.length
   cases ud:Nat.beq (id%4) 2 with
   |true=>simp[ud]at cC
   |false=>
   have ud:id%4≠2:=λe=>by rw[e]at ud;cases ud
   simp only[show Nat.beq (id%4) 2=false from(by cases hb:Nat.beq (id%4) 2 with|false=>rfl|true=>exact absurd (dU hb) ud),cond_false]at cC
   cases hN:ti.zero.any fJ with
   |true=>
    simp only[hN,cond_true]at cC
    split at cC
    ·simp only[nz,bF]at hp
     subst hp
     simp only[cN]at cC
     obtain⟨k2,wU,k3,ue,⟨k4,xs⟩,qT,cC⟩:=cC
     obtain⟨G2,w2,e1,e2,e3,e4,e5⟩:=hw.flat wU
     obtain⟨G3,w3,f1,f2,f4,f5,f6,f7,f8⟩:=w2.eu ue
     have FI:=Wk.hX qT
     have w4:=w3.same FI
     simp only at cC
     split at cC
     ·rename_i dp0 z hz
      simp only[bF]at cC
      subst cC
      have ej:=w4.obj id
      rw[hz]at ej
      obtain⟨tt,Bp,bQ⟩:=ej
      have qD:(k4.em (.put false wd off xs.length) (z::ix::xs)).1.bJ S ρ:=fI
      obtain⟨IP,t',nu,Ez⟩:=Wk.bV qD
      have Ss:G3.H id []=.slice (some ⟨b,0,none⟩) n cap:=by rw[f2,e2];exact hH
      have abU:bn G3 w ρ cs (a.eval y).cells.toList:=by
       have k3:dA (qC k3.w) (λ_=>False) G w G3 w:=w3.bp
       exact uS.bp k3 λ_ _ hf=>hf
      obtain⟨ts,g1,_,g3,g4⟩:=Wk.hY qT IP abU w3
      simp only[List.map_cons]at nu
      rw[g1]at nu
      obtain⟨rows,rfl⟩:∃ys,tt=.l ys:=by cases bQ<;>exact⟨_,rfl⟩
      obtain⟨r,qF,sC,EA,_,rfl⟩:=Sr Bp hi nu
      have Bs:=g3 λj hj=>f6 j hj
      have CL:=Bs.length
      have gN:dp0=false:=by
       have h3:k3.get (.o id)=.ob dp0 z:=by rw[<-FI.get];exact hz
       have h2:=f8 _ _ _ h3
       unfold Wk.flat at wU
       split at wU
       ·cases wU;rw[Wk.cq]at h2;cases h2;rfl
       ·rename_i z2 qG;cases wU;rw[qG]at h2;cases h2
       ·cases wU
      subst gN
      have vI:∃arr elem,G3.ω b=some (.o id [])∧w.heap[b]?=some (.cells arr elem (0,0))∧(i*wd+off)+(a.eval y).cells.size<=arr.size:=by
       cases bQ with
       |nil IQ=>rw[Ss]at IQ;cases IQ
       | @l _ _ _ b2 EB Kf arr elem cv h1 h2 h3 h4 h5 h6 _ _ _ _ _=>
        rw[Ss]at h1
        cases h1
        refine⟨arr,elem,h3,h4,?_⟩
        have sA:EB=wd:=by rw[<-sC];exact(h6 r (List.mem_of_getElem? qF)).symm
        subst sA
        rw[h5]
        have:(i+1)*EB<=cap*EB:=Nat.mul_le_mul_right _ (by omega)
        rw[Nat.add_mul]at this
        simp only[Array.length_toList]at CL
        omega
      obtain⟨arr,elem,iA,hb,lZ⟩:=vI
      have eV:=ZZ (P:=P) (w:=w) (dW.ty _ _ fQ) (v:=a.eval y) (by simp only[Array.length_toList]at qI;rw[<-qI];exact hlen) hb (off:=i*wd+off) lZ (λu hu=>uS.one u hu)
      have rN:=bQ.put (w':=w.setRow b (arr.toList.take (i*wd+off)++(a.eval y).cells.toList++arr.toList.drop (i*wd+off+(a.eval y).cells.toList.length)).toArray)
       Ss (tR ud) qF EA CL.symm hb (by rw[sC];exact setRow_heap w _ arr _ elem _ hb) (IU _ _ _) (λc hc=>setRow_other _ _ _ _ hc)
       (eB.get (Bs.bp (by rw[IU];exact Nat.le_refl _) λc _ hc=>⟨hc,setRow_other _ _ _ _ λe=>by subst e;exact xB iA (tR ud) hc⟩)) (λhf=>by cases hf)
      refine⟨Sq h (w4.same (Wk.bM _ _ _)) hn (iA:=iA) (Ke:=.inl rfl) (ud:=ud) (hy:=Ez) (bQ:=rN) (FH ho (by rw[jS];exact eV)),?_⟩
      rw[oL]
      show k4.ct.i=ct.i
      rw[FI.i,f4,e4]
     ·cases cC
    ·cases cC
   |false=>
    simp only[hN,cond_false,cN]at cC
    obtain⟨⟨k4,xs⟩,qT,cC⟩:=cC
    have FI:=Wk.hX qT
    have w4:=hw.same FI
    simp only at cC
    split at cC
    ·rename_i dp z hz
     cases Z1:(dp||q.isEmpty)with
     |false=>simp[Z1]at cC
     |true=>
      simp only[Z1,cond_true,bF]at cC
      subst cC
      have ej:=w4.obj id
      rw[hz]at ej
      obtain⟨tt,Bp,bQ⟩:=ej
      obtain⟨rows,rfl⟩:∃ys,tt=.l ys:=by cases bQ<;>exact⟨_,rfl⟩
      have hdu:(Wk.up ((k4.down z q).1.em (.put true wd off xs.length) ((k4.down z q).2::ix::xs)).1 z ((k4.down z q).1.em (.put true wd off xs.length) ((k4.down z q).2::ix::xs)).2 q).1.bJ S ρ:=fI
      have abV:=Wk.xH _ _ _ _ hdu
      obtain⟨qH,t',nu,Ez⟩:=Wk.bV abV
      obtain⟨u,hu,hzu,R2⟩:=Wk.jo q k4 z qH Bp (vB hp) (.inr ⟨_,rfl⟩)
      obtain⟨ys,rfl⟩:∃ys,u=.l ys:=by
       rcases R2 with rfl|h'
       ·simp only[nz]at hp;cases hp;simp[i_]at hu;exact⟨rows,hu.symm⟩
       ·exact h'
      obtain⟨ts,g1,g2,_,g4⟩:=Wk.hY qT (Wk.lV q _ _ qH) uS hw
      simp only[List.map_cons]at nu
      rw[g1]at nu
      obtain⟨r,qF,sC,EA,oM,rfl⟩:=Sr hzu hi nu
      obtain⟨t2,J4,hy2⟩:=Wk.yT q _ z _ hdu Bp Ez (vB hp) (.inr ⟨_,rfl⟩)
      have Bs:eB G.q (w.setRow b #[]) ts (a.eval y).cells.toList:=g2.dX (oM rfl)
      have CL:=g2.length
      have lY:fg G w id dp p (.l ys):=by
       cases dp with
       |true=>simpa using fg.kh p bQ hu ⟨ys,rfl⟩
       |false=>
        have hq:q=[]:=by simpa using Z1
        subst hq
        simp only[nz]at hp
        cases hp
        simp[i_]at hu
        subst hu
        exact bQ
      have vI:∃arr elem,G.ω b=some (.o id p)∧w.heap[b]?=some (.cells arr elem (0,0))∧(i*wd+off)+(a.eval y).cells.size<=arr.size:=by
       cases lY with
       |nil IQ=>rw[hH]at IQ;cases IQ
       | @l _ _ _ b2 EB Kf arr elem cv h1 h2 h3 h4 h5 h6 _ _ _ _ _=>
        rw[hH]at h1
        cases h1
        refine⟨arr,elem,h3,h4,?_⟩
        have sA:EB=wd:=by rw[<-sC];exact(h6 r (List.mem_of_getElem? qF)).symm
        subst sA
        rw[h5]
        have:(i+1)*EB<=cap*EB:=Nat.mul_le_mul_right _ (by omega)
        rw[Nat.add_mul]at this
        simp only[Array.length_toList]at CL
        omega
      obtain⟨arr,elem,iA,hb,lZ⟩:=vI
      have eV:=ZZ (P:=P) (w:=w) (dW.ty _ _ fQ) (v:=a.eval y) (by simp only[Array.length_toList]at qI;rw[<-qI];exact hlen) hb (off:=i*wd+off) lZ (λu hu=>uS.one u hu)
      have rN:=lY.put (w':=w.setRow b (arr.toList.take (i*wd+off)++(a.eval y).cells.toList++arr.toList.drop (i*wd+off+(a.eval y).cells.toList.length)).toArray)
       hH (JT (ρ:=ρ) (Fu hp) ud) qF EA CL.symm hb (by rw[sC];exact setRow_heap w _ arr _ elem _ hb) (IU _ _ _) (λc hc=>setRow_other _ _ _ _ hc)
       (eB.get (g2.dX (oM rfl))) (λ_=>oM rfl)
      have Su:fg G (w.setRow b (arr.toList.take (i*wd+off)++(a.eval y).cells.toList++arr.toList.drop (i*wd+off+(a.eval y).cells.toList.length)).toArray) id dp [] t2:=by
       cases dp with
       |true=>exact fg.oS (λc hc=>setRow_other _ _ _ _ hc) bQ hu J4 (by simpa using iA) (by simpa using rN)
       |false=>
        have hq:q=[]:=by simpa using Z1
        subst hq
        simp only[nz]at hp
        cases hp
        simp only[oS,bF]at J4
        subst J4
        exact rN
      refine⟨Sq h (((w4.same (Wk.fx q _ _)).same (Wk.bM _ _ _)).same (Wk.uc q _ _ _)) hn (iA:=iA) (Ke:=Fu hp) (ud:=ud) (hy:=hy2) (bQ:=Su) (FH ho (by rw[jS];exact eV)),?_⟩
      rw[oL]
      show(Wk.up _ z _ q).1.ct.i=ct.i
      rw[(Wk.uc q _ _ _).i,(Wk.bM _ _ _).i,(Wk.fx q _ _).i,FI.i]
    ·cases cC
  ·cases lB
theorem abW(dW:ew P cx)(h:Rel M B d up s ρ G a w)(hn:∀n,o.dst=some n->n<a.tmps.size){t:Nat}{x y:Operand}(ho:o.op=.store t x y)
  (hk:∃k1,storeAt cx ⟨s.only R,[],ct,[]⟩ t (cz d (Wk.get ⟨s.only R,[],ct,[]⟩) x) (cz d (Wk.get ⟨s.only R,[],ct,[]⟩) y)=some k1∧b9 d o k1 .un=k')(hd:k'.bJ S ρ):bT P M B d up ρ a w s o k'.w Q∧k'.ct.i=ct.i:=by
 cases hx:cz d (Wk.get ⟨s.only R,[],ct,[]⟩) x with
 |pt bx off=>exact abS dW h hn ho hx hk
 |ep id q ix wd off=>exact abT dW h hn ho hx hk hd
 |_=>
  exfalso
  obtain⟨k1,hk,_⟩:=hk
  simp only[storeAt,hx,cN]at hk
  obtain⟨ti,_,cs,_,h1⟩:=hk
  cases hb:Nat.beq cs.length ti.sz<;>simp[hb]at h1
theorem Kj{xs:List (List T)}{l h:Nat}{i j:Nat}{t:T}(ht:dP ((xs.take h).drop l) i j=some t):dP xs (l+i) j=some t:=by
 unfold dP at ht⊢
 rw[List.getElem?_drop,List.getElem?_take]at ht
 split at ht
 ·exact ht
 ·simp at ht
theorem eP.sub{ω:Nat->Option Lb}{xs:List (List T)}{ao:Option Addr}{n cap l h sz:Nat}(hd:eP ω w (.l xs) (.slice ao n cap))(vJ:l<=h)(hh:h<=xs.length)(ez:okW sz xs=true):
  eP ω w (.l ((xs.take h).drop l)) (sliced ao l h cap sz):=by
 unfold sliced
 by_cases he:l=h
 ·subst he
  have:(xs.take l).drop l=[]:=by simp
  rw[this,Nat.sub_self]
  exact .nil
 ·cases hd with
  |nil=>simp at hh;omega
  | @l _ b off wd _ cv hw hc hb bE h1 h2=>
   have dI:¬(cap=l):=by omega
   have hlen:((xs.take h).drop l).length=h-l:=by simp;omega
   have iE:sz=wd:=by
    cases xs with
    |nil=>simp at hh;omega
    |cons r xs=>rw[<-hw r (by simp)];exact(dU ez).symm
   subst iE
   rw[if_neg dI]
   simp only[Option.map_some,Addr.add_lit]
   rw[<-hlen]
   refine .l (cv:=λi j=>cv (l+i) j) (λr hr=>hw r (List.mem_of_mem_take (List.mem_of_mem_drop hr))) (by rw[hlen];omega) hb bE (λi j t ht=>?_) λi j t ht=>h2 _ _ _ (Kj ht)
   have:=h1 _ _ _ (Kj ht)
   rw[Nat.add_mul]at this
   rw[show off+l*sz+(i*sz+j)=off+(l*sz+i*sz+j) by omega]
   exact this
def qV(k:Wk)(f:Operand->SV):Option Operand->Option (Wk×List Lf)
 |none=>some (k,[])
 |some l=>(k.one (f l)).bind λr=>some (r.1,[r.2])
theorem FJ{k k1:Wk}{G1:Gh}(hk:dy M B d up ρ G a w k G1){lo:Option Operand}{ls:List Lf}{f:Operand->SV}(hf:∀x,lo=some x->cL G1 w ρ (f x) (a.eval x))
  (h:qV k f lo=some (k1,ls))(hd:k1.bJ S ρ):
  k.bJ S ρ∧k.e_ k1∧((lo=none∧ls=[])∨∃x y t,lo=some x∧ls=[y]∧y.ev ρ=t∧eP (er G1.ω) w t (a.eval x)):=by
 cases lo with
 |none=>
  simp only[qV,bF,Prod.mk.injEq]at h
  obtain⟨rfl,rfl⟩:=h
  exact⟨hd,.refl _,.inl ⟨rfl,rfl⟩⟩
 |some x=>
  simp only[qV,cN,bF,Prod.mk.injEq]at h
  obtain⟨⟨k2,y⟩,h1,rfl,rfl⟩:=h
  obtain⟨e1,e2,t,e3,e4⟩:=Wk.iB hk h1 hd (hf x rfl)
  exact⟨e1,e2,.inr ⟨x,y,t,rfl,rfl,Lf.bU e3,e4⟩⟩
theorem CM{ω:Nat->Option Lb}{k:IntKind}{n:Int}{v:Value}(h:eP ω w (.c (.int k n)) v):v=.int k n:=h.scalar.1
theorem Kk{ω:Nat->Option Lb}{lo hi:Option Operand}{ls hs:List Lf}{n:Nat}{r:T}{F:Int->Int->Option T}
  (pJ:(lo=none∧ls=[])∨∃x y t,lo=some x∧ls=[y]∧y.ev ρ=t∧eP ω w t (a.eval x))(xI:(hi=none∧hs=[])∨∃x y t,hi=some x∧hs=[y]∧y.ev ρ=t∧eP ω w t (a.eval x))
  (h:((match lo.isSome,hi.isSome,(ls++hs).map (Lf.ev ρ)with
   |false,false,[]=>some ((0:Int),(n:Int))
   |true,false,[.c (.int _ l)]=>some (l,(n:Int))
   |false,true,[.c (.int _ h)]=>some (0,h)
   |true,true,[.c (.int _ l),.c (.int _ h)]=>some (l,h)
   |_,_,_=>none).bind λb=>F b.1 b.2)=some r):
  ∃l h:Int,F l h=some r∧((lo.map a.eval=none∧l=0)∨∃k,lo.map a.eval=some (.int k l))∧((hi.map a.eval=none∧h=n)∨∃k,hi.map a.eval=some (.int k h)):=by
 rcases pJ with⟨rfl,rfl⟩|⟨x,y,t,rfl,rfl,ht,nA⟩
 ·rcases xI with⟨rfl,rfl⟩|⟨x',y',t',rfl,rfl,j1,nH⟩
  ·simp at h
   exact⟨0,n,h,.inl ⟨rfl,rfl⟩,.inl ⟨rfl,rfl⟩⟩
  ·simp only[Option.isSome_none,Option.isSome_some,List.nil_append,List.map_cons,List.map_nil,j1]at h
   cases t' with
   |l _=>simp at h
   |c v=>cases v with
    |int k m=>
     simp at h
     have:=CM nH
     exact⟨0,m,h,.inl ⟨rfl,rfl⟩,.inr ⟨k,by simp[this]⟩⟩
    |_=>simp at h
 ·cases t with
  |l _=>rcases xI with⟨rfl,rfl⟩|⟨x',y',t',rfl,rfl,j1,nH⟩<;>simp[ht]at h
  |c v=>cases v with
   |int k m=>
    have e1:=CM nA
    rcases xI with⟨rfl,rfl⟩|⟨x',y',t',rfl,rfl,j1,nH⟩
    ·simp[ht]at h
     exact⟨m,n,h,.inr ⟨k,by simp[e1]⟩,.inl ⟨rfl,rfl⟩⟩
    ·simp only[Option.isSome_some,List.cons_append,List.nil_append,List.map_cons,List.map_nil,ht,j1]at h
     cases t' with
     |l _=>simp at h
     |c v'=>cases v' with
      |int k' m'=>
       simp at h
       have e2:=CM nH
       exact⟨m,m',h,.inr ⟨k,by simp[e1]⟩,.inr ⟨k',by simp[e2]⟩⟩
      |_=>simp at h
   |_=>rcases xI with⟨rfl,rfl⟩|⟨x',y',t',rfl,rfl,j1,nH⟩<;>simp[ht]at h
theorem Sv{t e:Nat}(ht:P.underlying t=some (.slice e)){sz:Nat}(CH:∃i,P.info? e=some i∧i.size=sz){ao:Option Addr}{n cap:Nat}(hc:n<=cap){lo hi:Option Value}{l h:Int}
  (pJ:(lo=none∧l=0)∨∃k,lo=some (.int k l))(xI:(hi=none∧h=n)∨∃k,hi=some (.int k h))(h0:0<=l)(vJ:l<=h)(hh:h<=n):
  (Instr.sliceAt t (.slice ao n cap) lo hi none).run P w=.ok (sliced ao l.toNat h.toNat cap sz) w:=by
 have yU:P.elem t=e:=by simp[Program.elem,ht]
 have j1:P.underlying t=some (.slice (P.elem t)):=by rw[yU];exact ht
 obtain⟨i,wV,l_⟩:=CH
 have hs:(sizeOf (P.elem t)).run P w=.ok sz w:=by rw[yU];simp[sizeOf,typeInfo,wV,l_]
 rw[run_sliceAt_slice w t _ _ _ _ j1]
 have qW:h<=cap:=by omega
 rcases pJ with⟨rfl,rfl⟩|⟨k,rfl⟩
 ·rcases xI with⟨rfl,rfl⟩|⟨k',rfl⟩
  ·rw[run_slice_all w t ao n cap j1,hs];simp
  ·rw[run_slice_h w t ao n cap j1 k' h vJ qW,hs];simp
 ·rcases xI with⟨rfl,rfl⟩|⟨k',rfl⟩
  ·rw[run_slice_l w t ao n cap j1 k l h0 vJ,hs];simp
  ·rw[run_slice_lh w t ao n cap j1 k k' l h h0 vJ qW,hs];simp
theorem Sw{sz:Nat}{b1 b2:Bool}{t r:T}{ts:List T}(h:Prim.ev (.sub sz b1 b2) (t::ts)=some r):∃xs,t=.l xs∧okW sz xs=true∧
  ((match b1,b2,ts with
   |false,false,[]=>some ((0:Int),(xs.length:Int))
   |true,false,[.c (.int _ l)]=>some (l,(xs.length:Int))
   |false,true,[.c (.int _ h)]=>some (0,h)
   |true,true,[.c (.int _ l),.c (.int _ h)]=>some (l,h)
   |_,_,_=>none).bind λb=>if 0<=b.1 then(if b.1<=b.2 then(if b.2<=xs.length then some (T.l ((xs.take b.2.toNat).drop b.1.toNat))else none)else none)else none)=some r:=by
 cases t with
 |c v=>simp[Prim.ev]at h
 |l xs=>
  simp only[Prim.ev]at h
  split at h
  ·rename_i ez
   exact⟨xs,rfl,ez,h⟩
  ·cases h
theorem abX{b1 b2:Bool}{t r:T}{ts:List T}(h:Prim.ev (.Cc b1 b2) (t::ts)=some r):∃x:ByteArray,t=.c (.string x)∧
  ((match b1,b2,ts with
   |false,false,[]=>some ((0:Int),(x.size:Int))
   |true,false,[.c (.int _ l)]=>some (l,(x.size:Int))
   |false,true,[.c (.int _ h)]=>some (0,h)
   |true,true,[.c (.int _ l),.c (.int _ h)]=>some (l,h)
   |_,_,_=>none).bind λb=>if 0<=b.1 then(if b.1<=b.2 then(if b.2<=x.size then some (T.c (.string (x.extract b.1.toNat b.2.toNat)))else none)else none)else none)=some r:=by
 cases t with
 |l xs=>simp[Prim.ev]at h
 |c v=>
  cases v with
  |string x=>exact⟨x,rfl,h⟩
  |_=>simp[Prim.ev]at h
theorem abY{t:Nat}(ht:P.underlying t=some .string){x:ByteArray}{lo hi:Option Value}{l h:Int}
  (pJ:(lo=none∧l=0)∨∃k,lo=some (.int k l))(xI:(hi=none∧h=x.size)∨∃k,hi=some (.int k h))(h0:0<=l)(vJ:l<=h)(hh:h<=x.size):
  (Instr.sliceAt t (.string x) lo hi none).run P w=.ok (.string (x.extract l.toNat h.toNat)) w:=by
 rw[run_sliceAt_string w t _ _ _ _ ht]
 have e1:(h.toNat:Int)=h:=Int.toNat_of_nonneg (by omega)
 rcases pJ with⟨rfl,rfl⟩|⟨k,rfl⟩
 ·rcases xI with⟨rfl,rfl⟩|⟨k',rfl⟩
  ·rw[run_slice_string_all w t x ht];simp
  ·rw[run_slice_string_h w t x ht k' h vJ hh];simp
 ·rcases xI with⟨rfl,rfl⟩|⟨k',rfl⟩
  ·rw[run_slice_string_l w t x ht k l h0 vJ];simp
  ·simp[Instr.slice,run_underlying ht,Instr.sliceBounds,run_sliceBound,e1,h0,vJ,hh,(by omega:0<=h)]
theorem abZ(dW:ew P cx)(h:Rel M B d up s ρ G a w)(hn:∀n,o.dst=some n->n<a.tmps.size){t:Nat}{x:Operand}{lo hi mx:Option Operand}(ho:o.op=.slice t x lo hi mx)
  (Kl:(bif mx.isSome then none else Ci cx ⟨s.only R,[],ct,[]⟩ t (cz d (Wk.get ⟨s.only R,[],ct,[]⟩) x) (lo.map (cz d (Wk.get ⟨s.only R,[],ct,[]⟩))) (hi.map (cz d (Wk.get ⟨s.only R,[],ct,[]⟩))))=none)
  (hk:jm cx cV ft d o oi ⟨s.only R,[],ct,[]⟩=some k')(hd:k'.bJ S ρ):bT P M B d up ρ a w s o k'.w Q∧k'.ct.i=ct.i:=by
 have hw:=dy.start h R ct
 simp only[jm,ho]at hk
 split at hk
 ·rename_i k v he
  exact absurd (he.symm.trans Kl) (by simp)
 simp only[cN]at hk
 obtain⟨ti,fQ,k1,ue,⟨k2,z⟩,rQ,hk⟩:=hk
 obtain⟨G2,w1,e1,e2,e3,e4,e5,_⟩:=hw.eu ue
 have hK:dA (qC k1.w) (λ_=>False) G w G2 w:=w1.bp
 have jc:∀y,cL G2 w ρ (cz d (Wk.get ⟨s.only R,[],ct,[]⟩) y) (a.eval y):=λy=>(hw.jc y).1.bp hK λ_ _ hf=>hf
 have nr:k1.e_ k2:=by
  unfold Wk.one at rQ
  split at rQ
  ·exact Wk.dR rQ
  ·cases rQ
 have w2:=w1.same nr
 simp only at hk
 cases mx with
 |some _=>simp at hk
 |none=>
  simp only at hk
  have iC:∃k3 ls,qV k2 (cz d (Wk.get ⟨s.only R,[],ct,[]⟩)) lo=some (k3,ls)∧
    ∃k4 hs,qV k3 (cz d (Wk.get ⟨s.only R,[],ct,[]⟩)) hi=some (k4,hs)∧
    ((Nat.beq ti.kd 3=true∧∃te,cx.ty ti.el=some te∧k'=b9 d o (k4.em (.sub te.sz lo.isSome hi.isSome) (z::(ls++hs))).1 (.v false [.p (k4.em (.sub te.sz lo.isSome hi.isSome) (z::(ls++hs))).2]))∨
     (Nat.beq ti.kd 2=true∧k'=b9 d o (k4.em (.Cc lo.isSome hi.isSome) (z::(ls++hs))).1 (.v false [.p (k4.em (.Cc lo.isSome hi.isSome) (z::(ls++hs))).2]))):=by
   rw[cN]at hk
   obtain⟨⟨k3,ls⟩,h1,hk⟩:=hk
   rw[cN]at hk
   obtain⟨⟨k4,hs⟩,h2,hk⟩:=hk
   refine⟨k3,ls,?_,k4,hs,?_,?_⟩
   ·cases lo<;>exact h1
   ·cases hi<;>exact h2
   ·simp only at hk
    cases h3:Nat.beq ti.kd 3 with
    |true=>
     simp only[h3,cond_true,cN,bF]at hk
     obtain⟨te,tX,hk⟩:=hk
     exact .inl ⟨rfl,te,tX,hk.symm⟩
    |false=>
     simp only[h3,cond_false]at hk
     cases h4:Nat.beq ti.kd 2 with
     |true=>
      simp only[h4,cond_true,bF]at hk
      exact .inr ⟨rfl,hk.symm⟩
     |false=>simp[h4]at hk
  obtain⟨k3,ls,pJ,k4,hs,xI,lK⟩:=iC
  have fin:∀(p:Prim),k'=b9 d o (k4.em p (z::(ls++hs))).1 (.v false [.p (k4.em p (z::(ls++hs))).2])->
    ∃r tz,p.ev (tz::(ls++hs).map (Lf.ev ρ))=some r∧(∀c,(cz d (Wk.get ⟨s.only R,[],ct,[]⟩) x)=.v false [c]->eP G2.q w tz (a.eval x))∧
     (∃c,(cz d (Wk.get ⟨s.only R,[],ct,[]⟩) x)=.v false [c])∧
     ((lo=none∧ls=[])∨∃x y t,lo=some x∧ls=[y]∧y.ev ρ=t∧eP (er G2.ω) w t (a.eval x))∧((hi=none∧hs=[])∨∃x y t,hi=some x∧hs=[y]∧y.ev ρ=t∧eP (er G2.ω) w t (a.eval x))∧
     (∀v,(execOp a.eval o).run P w=.ok (.value v) w->eP G2.q w r v->(∀x,v≠.agg x)->bT P M B d up ρ a w s o k'.w Q∧k'.ct.i=ct.i):=by
   intro p hp
   subst hp
   have lz:=cX.1 hd
   obtain⟨IP,r,hr,m_⟩:=Wk.bV lz
   have Sx:k2.e_ k3:=by
    unfold qV at pJ
    split at pJ
    ·simp only[bF,Prod.mk.injEq]at pJ;obtain⟨rfl,_⟩:=pJ;exact .refl _
    ·simp only[cN,bF,Prod.mk.injEq]at pJ
     obtain⟨⟨k5,y5⟩,h5,rfl,_⟩:=pJ
     unfold Wk.one at h5
     split at h5
     ·exact Wk.dR h5
     ·cases h5
   obtain⟨Bq,FI,qS⟩:=FJ (w2.same Sx) (f:=cz d (Wk.get ⟨s.only R,[],ct,[]⟩)) (λy _=>jc y) xI IP
   obtain⟨qD,_,lR⟩:=FJ w2 (f:=cz d (Wk.get ⟨s.only R,[],ct,[]⟩)) (λy _=>jc y) pJ Bq
   have zS:∃c,(cz d (Wk.get ⟨s.only R,[],ct,[]⟩) x)=.v false [c]:=by
    unfold Wk.one at rQ
    split at rQ
    ·rename_i c eD;exact⟨c,eD⟩
    ·cases rQ
   obtain⟨c,hc⟩:=zS
   have Sy:=jc x
   rw[hc]at Sy rQ ue
   obtain⟨_,qE,sD,_⟩:=Sy
   cases qE
   have iD:k1.val c=some (k2,z):=rQ
   obtain⟨P1,w1',_,_,_,_,uT,_⟩:=hw.eu ue
   obtain⟨tz,hz,Sz⟩:=Wk.td iD sD w1 (by simpa[E6]using uT)
   refine⟨r,tz,by simpa[Lf.bU hz]using hr,λ_ _=>Sz,⟨c,hc⟩,lR,qS,λv hv hdv FC=>⟨?_,?_⟩⟩
   ·exact tW h (((w2.same Sx).same FI).same (Wk.bM _ _ _)) hn hv (R3 m_ hdv FC) (λi hi=>by simp[dt,dN]at hi) Q
   ·rw[oL,(Wk.bM _ _ _).i,FI.i,Sx.i,nr.i,e3]
  have eV:∀v,(Instr.sliceAt t (a.eval x) (lo.map a.eval) (hi.map a.eval) none).run P w=.ok v w->(execOp a.eval o).run P w=.ok (.value v) w:=by
   intro v hv
   exact Ew (x:=Instr.sliceAt t (a.eval x) (lo.map a.eval) (hi.map a.eval) none) (by unfold execOp;rw[ho];rfl) hv
  rcases lK with⟨h3,te,tX,hk⟩|⟨h3,hk⟩
  ·obtain⟨r,tz,hr,Sz,⟨c,hc⟩,lR,qS,lK⟩:=fin _ hk
   obtain⟨xs,rfl,ez,hr⟩:=Sw hr
   obtain⟨l,hh,hF,qI,tc⟩:=Kk (F:=λl h=>if 0<=l then(if l<=h then(if h<=xs.length then some (T.l ((xs.take h.toNat).drop l.toNat))else none)else none)else none) lR qS hr
   split at hF
   ·rename_i h0
    split at hF
    ·rename_i vJ
     split at hF
     ·rename_i SA
      simp only[bF]at hF
      subst hF
      have CN:=Sz c hc
      obtain⟨ao,cap,iD,qW⟩:=CN.rows
      have hT:=dW.ty _ _ fQ
      have hE:=dW.ty _ _ tX
      obtain⟨i,zz,wV,l_,_⟩:=hE.info
      by_cases uf:xs.length<=cap
      ·have qJ:=Sv (P:=P) (w:=w) (hT.sl (dU h3)) ⟨i,wV,l_⟩ (ao:=ao) uf qI tc h0 vJ SA
       rw[<-iD]at qJ
       refine lK _ (eV _ qJ) ?_ (λ_ hf=>by unfold sliced at hf;cases hf)
       rw[iD]at CN
       exact CN.sub (by omega) (by omega) ez
      ·have EC:xs=[]:=by
        cases xs with
        |nil=>rfl
        |cons y ys=>exact absurd (qW (by simp)) uf
       subst EC
       simp at uf
     ·cases hF
    ·cases hF
   ·cases hF
  ·obtain⟨r,tz,hr,Sz,⟨c,hc⟩,lR,qS,lK⟩:=fin _ hk
   obtain⟨x',rfl,hr⟩:=abX hr
   obtain⟨l,hh,hF,qI,tc⟩:=Kk (F:=λl h=>if 0<=l then(if l<=h then(if h<=x'.size then some (T.c (.string (x'.extract l.toNat h.toNat)))else none)else none)else none) lR qS hr
   split at hF
   ·rename_i h0
    split at hF
    ·rename_i vJ
     split at hF
     ·rename_i SA
      simp only[bF]at hF
      subst hF
      obtain⟨iD,_⟩:=(Sz c hc).scalar
      have hT:=dW.ty _ _ fQ
      have qJ:=abY (P:=P) (w:=w) (hT.st (dU h3)) (x:=x') qI tc h0 vJ SA
      rw[<-iD]at qJ
      exact lK _ (eV _ qJ) (.c rfl) (λ_ hf=>by cases hf)
     ·cases hF
    ·cases hF
   ·cases hF
end
def Gh.bY(G:Gh)(nb:Option Nat)(i:Nat)(f:Lb->Option Lb)(Hn:List (Nat×Nat)->Value)(oU:∀p,∃a n c,Hn p=.slice a n c):Gh where
 ω:=λb=>if nb=some b then some (.o i [])else(G.ω b).bind f
 β:=G.β
 H:=λj=>if j=i then Hn else G.H j
 hs:=λj p=>by
  by_cases h:j=i
  ·simp only[h,if_true];exact oU p
  ·simp only[h,if_false];exact G.hs j p
section
variable {M:Nat->Prop} {B:eT} {d:Nat} {up:Nat->Nat->Value} {ρ:List T} {G:Gh} {a:Act} {w:World} {S:Nat->aB} {P:Program}
variable {cx:Cx} {cV ft oi:Nat} {s:St} {R:List bD} {ct:Ct} {k':Wk} {o:Oper} {Q:Exit->Act->World->Prop}
variable {nb:Option Nat} {i:Nat} {f:Lb->Option Lb} {Hn:List (Nat×Nat)->Value} {oU:∀p,∃a n c,Hn p=.slice a n c} {w':World}
theorem FK(SB:∀l l',qt l=true->f l=some l'->qt l'=true){b:Nat}(dI:nb≠some b)(h0:G.q b=none):(G.bY nb i f Hn oU).q b=none:=by
 refine vA h0 (λh1=>by simp[Gh.bY,dI,h1]) λl hl hq=>?_
 cases wU:f l with
 |none=>exact .inl (by simp[Gh.bY,dI,hl,wU])
 |some l'=>exact .inr ⟨l',by simp[Gh.bY,dI,hl,wU],SB l l' hq wU⟩
theorem ab0{I:Lb->Prop}(hf:∀l,¬I l->f l=some l)(SB:∀l l',qt l=true->f l=some l'->qt l'=true)(xJ:∀c,nb=some c->w.heap.size<=c∨∃l,G.ω c=some l∧I l∧qt l=false)(hs:w.heap.size<=w'.heap.size)
  (hh:∀b,b<w.heap.size->nb≠some b->w'.heap[b]?=w.heap[b]?)(nI:∀b l,G.ω b=some l->b<w.heap.size):dA I (λj=>j=i) G w (G.bY nb i f Hn oU) w':=by
 refine⟨hs,λb hb h0=>?_,λb hb h0=>?_,λb l hb hl=>?_,λj hj=>?_⟩
 ·have dI:nb≠some b:=by
   intro e
   rcases xJ _ e with h|⟨l,h,_,hq⟩
   ·omega
   ·exact xB h hq h0
  refine⟨FK SB dI h0,hh b hb dI⟩
 ·have dI:nb≠some b:=by
   intro e
   rcases xJ _ e with h|⟨l,h,_⟩
   ·omega
   ·rw[h0]at h;cases h
  simp[Gh.bY,dI,h0]
 ·have bE:=nI b l hb
  have dI:nb≠some b:=by
   intro e
   rcases xJ _ e with h|⟨l',h,h',_⟩
   ·omega
   ·rw[hb]at h;cases h;exact hl h'
  exact⟨by simp[Gh.bY,dI,hb,hf l hl],hh b bE dI⟩
 ·exact⟨rfl,λ_ _=>by simp[Gh.bY,hj]⟩
theorem ab1{x:Sem Value}{v:Value}(he:execOp a.eval o=(do let v <-x;pure (Next.value v)))(h:x.run P w=.ok v w'):(execOp a.eval o).run P w=.ok (.value v) w':=by
 rw[he,Sem.run_bind,h];rfl
theorem bT.mono{M':Nat->Prop}{W:St}(h:bT P M B d up ρ a w s o W Q)(hM:∀i,M i->M' i):bT P M' B d up ρ a w s o W Q:=
 Oper.wp_mono (λa' w' ⟨G',h1,h2⟩=>⟨G',h1.mono hM,h2⟩) h
theorem FL{k:Wk}{G1:Gh}(h:Rel M B d up s ρ G a w)(hk:dy M B d up ρ G a w k G1)(hn:∀n,o.dst=some n->n<a.tmps.size)(hM:¬M k.ct.i)
  {W1:St}{kw:Wk}{dp:Bool}{y:Lf}{t:T}{v:Value}
  (SC:∀r,kw.w.look r=(St.look ((.o k.ct.i,.ob dp y)::W1) r).or (k.w.look r))(yV:∀r u,W1.look r=some u->∃j,r=.o j∧cM (G1.bY nb k.ct.i f Hn oU) w' ρ j u∧M j∧∀i∈dt u,M i)
  (hf:∀l,(∀j p,l=.o j p->W1.look (.o j)=none)->f l=some l)(hid:∀l l',(∃b,G1.ω b=some l)->f l=some l'->M l'.id∨l'.id=k.ct.i)
  (SB:∀l l',qt l=true->f l=some l'->qt l'=true)(xJ:∀c,nb=some c->c=w.heap.size∨∃j,G1.ω c=some (.o j [])∧W1.look (.o j)≠none∧j%4≠2)(hs:w.heap.size<=w'.heap.size)(ab2:∀c,nb=some c->c<w'.heap.size)
  (hh:∀b,b<w.heap.size->nb≠some b->w'.heap[b]?=w.heap[b]?)(so:jK w w')(hv:v=Hn [])
  (hy:y.fN ρ=some t)(bQ:fg (G1.bY nb k.ct.i f Hn oU) w' k.ct.i dp [] t)(hx:(execOp a.eval o).run P w=.ok (.value v) w'):
  bT P (Mn M k.ct.i (k.ct.i+1)) B d up ρ a w s o (b9 d o kw (.v false [.o k.ct.i []])).w Q:=by
 have jd:Mn M k.ct.i (k.ct.i+1) k.ct.i:=.inr ⟨Nat.le_refl _,Nat.lt_succ_self _⟩
 have CO:∀j u,W1.look (.o j)=some u->St.look (fA d o (.v false [.o k.ct.i []])++((bD.o k.ct.i,SV.ob dp y)::W1)) (.o j)≠none:=by
  intro j u hu
  rw[nC]
  intro e
  have:=(Option.or_eq_none_iff.1 e).2
  simp only[St.look,hu]at this
  cases hb:(bD.o k.ct.i).beq (.o j)<;>simp[hb]at this
 have hK:dA (qC (fA d o (.v false [.o k.ct.i []])++((bD.o k.ct.i,SV.ob dp y)::W1))) (λj=>j=k.ct.i) G1 w (G1.bY nb k.ct.i f Hn oU) w':=by
  refine ab0 (λl hl=>hf l λj p hj=>?_) SB ?_ hs hh λb l hb=>(hk.rel.iO b l hb).2
  ·subst hj
   cases hw:W1.look (.o j)with
   |none=>rfl
   |some u=>exact absurd (CO j u hw) hl
  ·intro c hc
   rcases xJ c hc with rfl|⟨j,h1,h2,h3⟩
   ·exact .inl (Nat.le_refl _)
   ·obtain⟨u,hu⟩:=Option.ne_none_iff_exists'.1 h2
    exact .inr ⟨_,h1,CO j u hu,tR h3⟩
 simp only[bT,Oper.wp,hx,Oper.upon]
 refine⟨G1.bY nb k.ct.i f Hn oU,J' h hk (W2:=fA d o (.v false [.o k.ct.i []])++((bD.o k.ct.i,SV.ob dp y)::W1)) (z8 (W2:=(bD.o k.ct.i,SV.ob dp y)::W1) SC)
  hK (λj hj=>by subst hj;exact hM) (λj hj=>.inl hj) (λn qH=>Kb qH) so ?_,Cz _ _ _⟩
 refine⟨λe n u he hl=>?_,λb u hl=>?_,λj u hl=>?_,λr u hl j hj=>?_,λj hj=>?_,λb l hb=>?_⟩
 ·rcases l7 hl with⟨n',gO,e1,rfl⟩|hl
  ·cases e1
   rw[gO,RZ (hn _ gO),hv]
   refine⟨_,rfl,⟨[],rfl,by simp[Gh.bY]⟩,λx hx=>?_⟩
   obtain⟨a1,a2,a3,e1⟩:=oU []
   rw[e1]at hx;cases hx
  ·rcases j8 hl with⟨e1,_⟩|hl
   ·cases e1
   ·obtain⟨j,e1,_⟩:=yV _ _ hl;cases e1
 ·rcases l7 hl with⟨n',gO,e1,rfl⟩|hl
  ·cases e1
  ·rcases j8 hl with⟨e1,rfl⟩|hl
   ·cases e1
   ·obtain⟨j,e1,_⟩:=yV _ _ hl;cases e1
 ·rcases l7 hl with⟨n',gO,e1,rfl⟩|hl
  ·cases e1
  ·rcases j8 hl with⟨e1,rfl⟩|hl
   ·cases e1
    exact⟨t,hy,bQ⟩
   ·obtain⟨j,e1,h2,_⟩:=yV _ _ hl;cases e1;exact h2
 ·rcases l7 hl with⟨n',gO,e1,rfl⟩|hl
  ·simp[dt,dN]at hj;subst hj;exact jd
  ·rcases j8 hl with⟨e1,rfl⟩|hl
   ·simp[dt]at hj
   ·obtain⟨j',e1,_,_,hm⟩:=yV _ _ hl;exact .inl (hm j hj)
 ·have:∀r:bD,(r=.x j∨r=.o j)->St.look (fA d o (.v false [.o k.ct.i []])++((bD.o k.ct.i,SV.ob dp y)::W1)) r≠none->Mn M k.ct.i (k.ct.i+1) j:=by
   intro r hr hl
   obtain⟨u,hu⟩:=Option.ne_none_iff_exists'.1 hl
   rcases l7 hu with⟨n',gO,e1,rfl⟩|hl
   ·rcases hr with rfl|rfl<;>cases e1
   ·rcases j8 hl with⟨e1,rfl⟩|hl
    ·rcases hr with rfl|rfl
     ·cases e1
     ·cases e1;exact jd
    ·obtain⟨j',e1,_,hm,_⟩:=yV _ _ hl
     rcases hr with rfl|rfl
     ·cases e1
     ·cases e1;exact .inl hm
  rcases hj with hj|hj
  ·exact this _ (.inl rfl) hj
  ·exact this _ (.inr rfl) hj
 ·simp only[Gh.bY]at hb
  split at hb
  ·rename_i he
   cases hb
   exact⟨jd,ab2 _ he⟩
  ·obtain⟨l0,h0,h1⟩:=Option.bind_eq_some_iff.1 hb
   obtain⟨_,bE⟩:=hk.rel.iO b l0 h0
   refine⟨?_,by omega⟩
   rcases hid l0 l ⟨_,h0⟩ h1 with hm|he
   ·exact .inl hm
   ·rw[he];exact jd
end
section
variable {M:Nat->Prop} {B:eT} {d:Nat} {up:Nat->Nat->Value} {ρ:List T} {G:Gh} {a:Act} {w:World} {S:Nat->aB} {P:Program}
variable {cx:Cx} {cV ft oi:Nat} {s:St} {R:List bD} {ct:Ct} {k':Wk} {o:Oper} {Q:Exit->Act->World->Prop}
def zT:List Ce->List T
 | []=>[]
 | .p (.k v)::cs=>.c v::zT cs
 |_::cs=>.l []::zT cs
theorem Km:∀{zs:List Ce} {vs:List Value} {k k1:Wk} {xs:List Lf},Cy zs vs->k.jJ zs=some (k1,xs)->k1=k∧xs.map (Lf.ev ρ)=zT zs
 | [],[],k,k1,xs,_,h=>by simp[Wk.jJ]at h;obtain⟨rfl,rfl⟩:=h;exact⟨rfl,rfl⟩
 | [],_::_,_,_,_,h,_=>h.elim
 | .p (.k v)::cs,v'::vs,k,k1,xs,h,hk=>by
  obtain⟨rfl,hs,h⟩:=h
  simp only[Wk.jJ,Wk.val,Option.bind_some,cN,bF,Prod.mk.injEq]at hk
  obtain⟨⟨k2,ys⟩,h2,rfl,rfl⟩:=hk
  obtain⟨rfl,h3⟩:=Km h h2
  exact⟨rfl,by simp[zT,h3,Lf.ev]⟩
 | .n::cs,v'::vs,k,k1,xs,h,hk=>by
  obtain⟨rfl,h⟩:=h
  simp only[Wk.jJ,Wk.val,Option.bind_some,cN,bF,Prod.mk.injEq]at hk
  obtain⟨⟨k2,ys⟩,h2,rfl,rfl⟩:=hk
  obtain⟨rfl,h3⟩:=Km h h2
  exact⟨rfl,by simp[zT,h3,Lf.ev]⟩
 | .p (.k _)::_,[],_,_,_,h,_=>h.elim
 | .n::_,[],_,_,_,h,_=>h.elim
 | .p (.a _)::_,[],_,_,_,h,_=>h.elim
 | .p (.a _)::_,_::_,_,_,_,h,_=>h.elim
 | .p .e::_,[],_,_,_,h,_=>h.elim
 | .p .e::_,_::_,_,_,_,h,_=>h.elim
 | .o _ _::_,[],_,_,_,h,_=>h.elim
 | .o _ _::_,_::_,_,_,_,h,_=>h.elim
 | .d::_,[],_,_,_,h,_=>h.elim
 | .d::_,_::_,_,_,_,h,_=>h.elim
theorem Ko:∀{zs:List Ce} {vs:List Value},Cy zs vs->(zT zs).length=vs.length∧∀(j:Nat) (t:T),(zT zs)[j]?=some t->
  ∃v,vs[j]?=some v∧((t=.c v∧lr v=true)∨(t=.l []∧v=.slice none 0 0))
 | [],[],_=>⟨rfl,λj t h=>by simp[zT]at h⟩
 | [],_::_,h=>h.elim
 | .p (.k v)::cs,v'::vs,h=>by
  obtain⟨rfl,hs,h⟩:=h
  obtain⟨h1,h2⟩:=Ko h
  refine⟨by simp[zT,h1],λj t ht=>?_⟩
  cases j with
  |zero=>simp[zT]at ht;subst ht;exact⟨v,rfl,.inl ⟨rfl,hs⟩⟩
  |succ j=>simpa using h2 j t (by simpa[zT]using ht)
 | .n::cs,v'::vs,h=>by
  obtain⟨rfl,h⟩:=h
  obtain⟨h1,h2⟩:=Ko h
  refine⟨by simp[zT,h1],λj t ht=>?_⟩
  cases j with
  |zero=>simp[zT]at ht;subst ht;exact⟨_,rfl,.inr ⟨rfl,rfl⟩⟩
  |succ j=>simpa using h2 j t (by simpa[zT]using ht)
 | .p (.k _)::_,[],h=>h.elim
 | .n::_,[],h=>h.elim
 | .p (.a _)::_,[],h=>h.elim
 | .p (.a _)::_,_::_,h=>h.elim
 | .p .e::_,[],h=>h.elim
 | .p .e::_,_::_,h=>h.elim
 | .o _ _::_,[],h=>h.elim
 | .o _ _::_,_::_,h=>h.elim
 | .d::_,[],h=>h.elim
 | .d::_,_::_,h=>h.elim
theorem SD{z:Array Value}{n i j:Nat}(hj:j<z.size)(hi:i<n):(madeCells z (n*z.size))[i*z.size+j]?=z[j]?:=by
 have bE:i*z.size+j<n*z.size:=by
  have:(i+1)*z.size<=n*z.size:=Nat.mul_le_mul_right _ hi
  rw[Nat.add_mul]at this
  omega
 have hm:(i*z.size+j)%z.size=j:=by rw[Nat.add_comm,Nat.add_mul_mod_self_right,Nat.mod_eq_of_lt hj]
 simp[madeCells,bE,hm,hj]
theorem ab3{n i j:Nat}{ts:List T}{t:T}(h:dP (List.replicate n ts) i j=some t):i<n∧ts[j]?=some t:=by
 unfold dP at h
 rw[List.getElem?_replicate]at h
 split at h
 ·rename_i hi;exact⟨hi,h⟩
 ·simp at h
theorem ab4{t t' r:T}{ts:List T}(h:Prim.ev .mk (t::t'::ts)=some r):∃(k k2:IntKind) (n c:Int),t=.c (.int k n)∧t'=.c (.int k2 c)∧0<=n∧n=c∧c<wJ∧r=.l (List.replicate n.toNat ts):=by
 cases t with
 |l _=>simp[Prim.ev]at h
 |c v=>
  cases v with
  |int k n=>
   cases t' with
   |l _=>simp[Prim.ev]at h
   |c v'=>
    cases v' with
    |int k2 c=>
     simp only[Prim.ev]at h
     split at h
     ·split at h
      ·split at h
       ·simp only[bF]at h
        exact⟨k,k2,n,c,rfl,rfl,by assumption,by assumption,by assumption,h.symm⟩
       ·cases h
      ·cases h
     ·cases h
    |_=>simp[Prim.ev]at h
  |_=>cases t'<;>simp[Prim.ev]at h
theorem ab5(dW:ew P cx)(h:Rel M B d up s ρ G a w)(hn:∀n,o.dst=some n->n<a.tmps.size){t:Nat}{x y:Operand}(ho:o.op=.makeSlice t x y)
  (hk:jm cx cV ft d o oi ⟨s.only R,[],ct,[]⟩=some k')(hd:k'.bJ S ρ)(hM:∀i,ct.i<=i->i<k'.ct.i->¬M i):bT P (Mn M ct.i k'.ct.i) B d up ρ a w s o k'.w Q:=by
 have hw:=dy.start h R ct
 simp only[jm,ho,cN]at hk
 obtain⟨ti,fQ,te,tX,⟨k1,n⟩,h1,⟨k2,m⟩,h2,⟨k3,zs⟩,h3,hk⟩:=hk
 cases hc:(Nat.beq ti.kd 3&&Nat.ble te.bytes 65536&&Nat.blt 0 te.sz)with
 |false=>simp[hc]at hk
 |true=>
  simp only[hc,cond_true,bF]at hk
  simp only[bI]at hc
  obtain⟨⟨qE,j3⟩,hc3⟩:=hc
  have hT:=dW.ty _ _ fQ
  have hE:=dW.ty _ _ tX
  obtain⟨i,z,wV,l_,ED,IW,zR⟩:=hE.info
  have hu:=hT.sl (dU qE)
  obtain⟨rfl,CP⟩:=Km (ρ:=ρ) zR h3
  obtain⟨t_,hza⟩:=Ko zR
  have iE:z.cells.size=te.sz:=by
   have:=(J8 (G:=G) (w:=w) (ρ:=ρ) zR).1.length
   rw[hE.Fz]at this
   simpa using this.symm
  have cO:b9 d o {(k3.em .mk (n::m::zs)).1.set (.o (fe k3.ct.i)) (.ob true (k3.em .mk (n::m::zs)).2)with ct:=⟨(k3.em .mk (n::m::zs)).1.ct.a,fe k3.ct.i+1⟩} (.v false [.o (fe k3.ct.i) []])=k':=hk
  have fI:(k3.em .mk (n::m::zs)).1.bJ S ρ:=by
   rw[<-cO]at hd
   have h2:=cX.1 hd
   exact h2
  obtain⟨Bq,r,hr,m_⟩:=Wk.bV fI
  have nB:Wk.e_ ⟨s.only R,[],ct,[]⟩ k1:=by
   unfold Wk.one at h1
   split at h1
   ·exact Wk.dR h1
   ·cases h1
  obtain⟨qD,nr,tm,hm,hdm⟩:=Wk.iB (hw.same nB) h2 Bq (hw.jc y).1
  obtain⟨_,_,tn,ZW,qH⟩:=Wk.iB hw h1 qD (hw.jc x).1
  have wP:=((hw.same nB).same nr).same (Wk.bM k3 .mk (n::m::zs))
  have lA:k3.ct.i=ct.i:=by rw[nr.i,nB.i]
  simp only[List.map_cons,CP,Lf.bU hm,Lf.bU ZW]at hr
  obtain⟨kn,kc,nn,cc,rfl,rfl,g1,g2,g3,rfl⟩:=ab4 hr
  have en:=CM qH
  have ec:=CM hdm
  have hb:=Nat.le_of_ble_eq_true j3
  have qW:cc<4294967296:=g3
  have Kp:(i.bytes:Int)*cc<=281474976710656:=by
   rw[ED]
   have e1:(te.bytes:Int)<=65536:=by omega
   have h0:(0:Int)<=cc:=by omega
   calc (te.bytes:Int)*cc<=65536*cc:=Int.mul_le_mul_of_nonneg_right e1 h0
    _<=281474976710656:=by omega
  have eV:=run_make (P:=P) w t ti.el i z hu wV IW kn kc nn cc g1 (by omega) Kp (by omega)
  rw[l_,<-iE]at eV
  have qU:k'.ct.i=fe ct.i+1:=by rw[<-cO,oL,<-lA]
  have jS:=Cg ct.i
  have hnc:nn.toNat<=cc.toNat:=by omega
  let Hn:List (Nat×Nat)->Value:=λp=>match p with| []=>.slice (some ⟨w.heap.size,0,none⟩) nn.toNat cc.toNat|_=>.slice none 0 0
  have oU:∀p,∃a n c,Hn p=.slice a n c:=λp=>by cases p<;>exact⟨_,_,_,rfl⟩
  rw[qU,<-cO,<-lA]
  refine bT.mono (M:=Mn M (fe k3.ct.i) (fe k3.ct.i+1)) ?_ (λi hi=>hi.imp_right λhi=>by rw[lA]at hi⊢;exact⟨by omega,hi.2⟩)
  refine FL (nb:=some w.heap.size) (f:=some) (Hn:=Hn) (oU:=oU) (w':=w.alloc (.cells (madeCells z.cells (cc.toNat*z.cells.size)) ti.el)) (k:={(k3.em .mk (n::m::zs)).1 with ct:=⟨(k3.em .mk (n::m::zs)).1.ct.a,fe k3.ct.i⟩}) (W1:=[]) (t:=.l (List.replicate nn.toNat (zT te.zero)))
   h (show dy M B d up ρ G a w {(k3.em .mk (n::m::zs)).1 with ct:=⟨(k3.em .mk (n::m::zs)).1.ct.a,fe k3.ct.i⟩} G from⟨wP.rel,wP.bp⟩) hn (hM _ (by show ct.i<=fe k3.ct.i;rw[lA];exact jS) (by rw[qU];show fe k3.ct.i<_;rw[lA];omega)) (λr=>by exact wT (k:=(k3.em .mk (n::m::zs)).1) r) (λr u hu=>by cases hu) (λl _=>rfl) (λl l' ⟨b,hb⟩ he=>by cases he;exact .inl (wP.rel.iO b _ hb).1)
   (λl l' hq he=>by cases he;exact hq) (λc hc=>by cases hc;exact .inl rfl) (by simp) (λc hc=>by cases hc;simp) (λb hb _=>heap_alloc_old w _ b hb) (FF _ _) rfl m_ ?_ (ab1 (x:=Instr.makeSlice t (a.eval x) (a.eval y)) (by unfold execOp;rw[ho]) (by rw[en,ec];exact eV))
  have hlen:(List.replicate nn.toNat (zT te.zero)).length=nn.toNat:=by simp
  have hzT:(zT te.zero).length=z.cells.size:=by rw[t_];simp
  have xK:∀(ii j:Nat) (t:T),dP (List.replicate nn.toNat (zT te.zero)) ii j=some t->ii<nn.toNat∧j<z.cells.size∧∃v,z.cells[j]?=some v∧((t=.c v∧lr v=true)∨(t=.l []∧v=.slice none 0 0)):=by
   intro ii j t ht
   obtain⟨q1,q2⟩:=ab3 ht
   obtain⟨v,q3,q4⟩:=hza j t q2
   refine⟨q1,?_,v,by simpa using q3,q4⟩
   rw[<-hzT];exact(List.getElem?_eq_some_iff.1 q2).1
  refine .l (wd:=z.cells.size) (cv:=λ_ j=>z.cells.getD j undef) (by rw[hlen];simp[Gh.bY,Hn]) ⟨by rw[hlen];exact hnc,λhe=>by have:=congrArg List.length he;simp at this;omega⟩ (by simp[Gh.bY]) (heap_alloc_new w _) (size_madeCells _ _) (λr hr=>?_) ?_ ?_ (λ_ _ _ _ hf=>by cases hf) ?_ ?_
  ·rw[List.eq_of_mem_replicate hr];exact hzT
  ·intro ii j t ht
   obtain⟨q1,q2,v,q3,_⟩:=xK ii j t ht
   rw[SD q2 (by omega),q3]
   simp[Array.getD_eq_getD_getElem?,q3]
  ·intro ii j v ht
   obtain⟨q1,q2,u,q3,q4⟩:=xK ii j _ ht
   rcases q4 with⟨e1,e2⟩|⟨e1,_⟩
   ·cases e1
    exact⟨by simp[Array.getD_eq_getD_getElem?,q3],e2⟩
   ·cases e1
  ·intro ii j ys ht _
   obtain⟨q1,q2,u,q3,q4⟩:=xK ii j _ ht
   rcases q4 with⟨e1,e2⟩|⟨e1,e2⟩
   ·cases e1
   ·simp[Array.getD_eq_getD_getElem?,q3,e2,Gh.bY,Hn]
  ·intro ii j ys ht _
   obtain⟨q1,q2,u,q3,q4⟩:=xK ii j _ ht
   rcases q4 with⟨e1,e2⟩|⟨e1,e2⟩
   ·cases e1
   ·cases e1
    exact .nil (by simp[Gh.bY,Hn])
end
theorem fg.move{G:Gh}{w:World}{id:Nat}{p:List (Nat×Nat)}{t:T}{dp:Bool}(h:fg G w id dp p t)(gN:dp=true){G':Gh}{w':World}{Z2:Nat}{p':List (Nat×Nat)}
  (iA:∀c r,G.ω c=some (.o id (p++r))->G'.ω c=some (.o Z2 (p'++r))∧w'.heap[c]?=w.heap[c]?)(hH:∀r,G'.H Z2 (p'++r)=G.H id (p++r)):fg G' w' Z2 dp p' t:=by
 induction h generalizing p' with
 |nil h=>exact .nil (by have:=hH [];simp only[List.append_nil]at this;rw[this];exact h)
 | @l dp p xs b wd cap arr elem cv h1 h2 h3 h4 h5 h6 h7 h8 h9 pn yO ih=>
  have hb:=iA b [] (by simpa using h3)
  simp only[List.append_nil]at hb
  have h0:=hH []
  simp only[List.append_nil]at h0
  refine .l (by rw[h0];exact h1) h2 hb.1 (hb.2.trans h4) h5 h6 h7 h8 (λi j ys hy hd=>by rw[gN]at hd;cases hd) (λi j ys hy hd=>by rw[hH [(i,j)]];exact pn i j ys hy hd) λi j ys hy hd=>?_
  refine ih i j ys hy hd rfl (p':=p'++[(i,j)]) (λc r hc=>?_) λr=>?_
  ·have:=iA c ((i,j)::r) (by simpa using hc)
   simpa using this
  ·have:=hH ((i,j)::r)
   simpa using this
structure rR (G:Gh) (w:World) (id:Nat) (dp:Bool) (sz n0:Nat) (xs:List (List T)) (cv:Nat->Nat->Value):Prop where
 wd:∀r∈xs,r.length=sz
 sc:∀i j v,dP xs i j=some (.c v)->cv i j=v∧lr v=true
 pl:∀i j ys,dP xs i j=some (.l ys)->dp=false->eP G.q w (.l ys) (cv i j)
 hd:∀i j ys,dP xs i j=some (.l ys)->dp=true->cv i j=G.H id [(n0+i,j)]
 ow:∀i j ys,dP xs i j=some (.l ys)->dp=true->fg G w id true [(n0+i,j)] (.l ys)
theorem CQ{xs ys:List (List T)}{i j:Nat}{t:T}(h:dP (xs++ys) i j=some t):
  (i<xs.length∧dP xs i j=some t)∨(xs.length<=i∧dP ys (i-xs.length) j=some t):=by
 unfold dP at h⊢
 by_cases hi:i<xs.length
 ·rw[List.getElem?_append_left hi]at h;exact .inl ⟨hi,h⟩
 ·rw[List.getElem?_append_right (by omega)]at h;exact .inr ⟨by omega,h⟩
theorem rR.join{G:Gh}{w:World}{id:Nat}{dp:Bool}{sz:Nat}{xs ys:List (List T)}{cv ub:Nat->Nat->Value}(hx:rR G w id dp sz 0 xs cv)(hy:rR G w id dp sz xs.length ys ub)
  {b cap:Nat}{arr:Array Value}{elem:TypeId}(hH:G.H id []=.slice (some ⟨b,0,none⟩) (xs.length+ys.length) cap)(hc:xs.length+ys.length<=cap∧(xs++ys=[]->cap=0))(iA:G.ω b=some (.o id []))
  (hh:w.heap[b]?=some (.cells arr elem (0,0)))(hs:arr.size=cap*sz)(h1:∀i j,i<xs.length->j<sz->arr[i*sz+j]?=some (cv i j))
  (h2:∀i j,i<ys.length->j<sz->arr[(xs.length+i)*sz+j]?=some (ub i j)):fg G w id dp [] (.l (xs++ys)):=by
 have lx:∀{i j:Nat} {t:T},dP xs i j=some t->i<xs.length∧j<sz:=by
  intro i j t ht
  obtain⟨r,_,hm,_,q1,q2⟩:=yN ht
  exact⟨q1,by rw[<-hx.wd r hm];exact q2⟩
 have ly:∀{i j:Nat} {t:T},dP ys i j=some t->i<ys.length∧j<sz:=by
  intro i j t ht
  obtain⟨r,_,hm,_,q1,q2⟩:=yN ht
  exact⟨q1,by rw[<-hy.wd r hm];exact q2⟩
 let c:Nat->Nat->Value:=λi j=>if i<xs.length then cv i j else ub (i-xs.length) j
 refine .l (cv:=c) (by rw[List.length_append];exact hH) (by rw[List.length_append];exact hc) iA hh hs (λr hr=>?_) ?_ ?_ ?_ ?_ ?_
 ·rcases List.mem_append.1 hr with hr|hr
  ·exact hx.wd r hr
  ·exact hy.wd r hr
 ·intro i j t ht
  rcases CQ ht with⟨q,ht⟩|⟨q,ht⟩
  ·simp only[c,if_pos q];exact h1 i j q (lx ht).2
  ·have:=h2 (i-xs.length) j (ly ht).1 (ly ht).2
   rw[show xs.length+(i-xs.length)=i by omega]at this
   simp only[c,if_neg (show¬i<xs.length by omega)];exact this
 ·intro i j v ht
  rcases CQ ht with⟨q,ht⟩|⟨q,ht⟩
  ·simp only[c,if_pos q];exact hx.sc i j v ht
  ·simp only[c,if_neg (show¬i<xs.length by omega)];exact hy.sc _ j v ht
 ·intro i j zs ht hd
  rcases CQ ht with⟨q,ht⟩|⟨q,ht⟩
  ·simp only[c,if_pos q];exact hx.pl i j zs ht hd
  ·simp only[c,if_neg (show¬i<xs.length by omega)];exact hy.pl _ j zs ht hd
 ·intro i j zs ht hd
  rcases CQ ht with⟨q,ht⟩|⟨q,ht⟩
  ·simp only[c,if_pos q];have:=hx.hd i j zs ht hd;simpa using this
  ·have:=hy.hd _ j zs ht hd
   rw[show xs.length+(i-xs.length)=i by omega]at this
   simp only[c,if_neg (show¬i<xs.length by omega)];simpa using this
 ·intro i j zs ht hd
  rcases CQ ht with⟨q,ht⟩|⟨q,ht⟩
  ·have:=hx.ow i j zs ht hd;simpa using this
  ·have:=hy.ow _ j zs ht hd
   rw[show xs.length+(i-xs.length)=i by omega]at this
   simpa using this
def tq(cv:Nat->Nat->Value)(sz m:Nat):List Value:=(List.range (m*sz)).map λk=>cv (k/sz) (k%sz)
theorem Bt(cv:Nat->Nat->Value)(sz m:Nat):(tq cv sz m).length=m*sz:=by simp[tq]
theorem CR{cv:Nat->Nat->Value}{sz m i j:Nat}(hi:i<m)(hj:j<sz):(tq cv sz m)[i*sz+j]?=some (cv i j):=by
 have bE:i*sz+j<m*sz:=by
  have:(i+1)*sz<=m*sz:=Nat.mul_le_mul_right _ hi
  rw[Nat.add_mul]at this
  omega
 have h1:(i*sz+j)/sz=i:=by rw[Nat.add_comm,Nat.add_mul_div_right _ _ (by omega),Nat.div_eq_of_lt hj];omega
 have h2:(i*sz+j)%sz=j:=by rw[Nat.add_comm,Nat.add_mul_mod_self_right,Nat.mod_eq_of_lt hj]
 simp[tq,bE,h1,h2]
theorem ab7{cv:Nat->Nat->Value}{sz m:Nat}{v:Value}(iE:0<sz)(h:v∈tq cv sz m):∃i j,i<m∧j<sz∧v=cv i j:=by
 simp only[tq,List.mem_map,List.mem_range]at h
 obtain⟨k,hk,rfl⟩:=h
 exact⟨k/sz,k%sz,Nat.div_lt_of_lt_mul (by rw[Nat.mul_comm];exact hk),Nat.mod_lt _ iE,rfl⟩
section
variable {ρ:List T} {w:World} {P:Program}
theorem ab8{sz wd:Nat}{xs:List (List T)}(hw:∀r∈xs,r.length=wd)(ez:okW sz xs=true):∀r∈xs,r.length=sz:=by
 intro r hr
 cases xs with
 |nil=>cases hr
 |cons x xs=>
  have h1:=hw x (by simp)
  have h2:=dU ez
  rw[hw r hr,<-h1,h2]
theorem Kq{xs:List (List T)}{sz i j:Nat}(hw:∀r∈xs,r.length=sz)(hi:i<xs.length)(hj:j<sz):∃t,dP xs i j=some t:=by
 have hr:=List.getElem?_eq_getElem hi
 have hl:=hw xs[i] (List.getElem_mem hi)
 exact⟨xs[i][j],by simp[dP,hr,List.getElem?_eq_getElem (show j<xs[i].length by omega)]⟩
theorem z'{ω:Nat->Option Lb}{ys:List (List T)}{v:Value}(h:eP ω w (.l ys) v){sz:Nat}(iE:0<sz)(ez:okW sz ys=true){tx e':TypeId}(ht:P.underlying tx=some (.slice e')):
  ∃cv:Nat->Nat->Value,Src P sz tx v ys.length (tq cv sz ys.length) w∧(∀r∈ys,r.length=sz)∧(∀i j t,dP ys i j=some t->eP ω w t (cv i j))∧
   (∀b off n cap,v=.slice (some ⟨b,off,none⟩) n cap->∀i j t,dP ys i j=some t->w.cell? ⟨b,off+(i*sz+j),none⟩=some (cv i j)):=by
 cases h with
 |nil=>
  rename_i ao cap
  refine⟨λ_ _=>undef,?_,(λr hr=>by cases hr),(λi j t h=>by simp[dP]at h),λ_ _ _ _ _ i j t h=>by simp[dP]at h⟩
  have e0:tq (λ_ _=>undef) sz ([]:List (List T)).length=[]:=by simp[tq]
  rw[e0]
  cases ao with
  |none=>exact Src.ofNil w ht cap
  |some ad=>exact Src.ofSlice w ht ad 0 cap [] (by simp) (λj u hu=>by simp at hu) λu hu=>by cases hu
 | @l _ b off wd cap cv hw hc hb bE h1 h2=>
  have P2:=ab8 hw ez
  have vK:ys=[]∨wd=sz:=by
   cases ys with
   |nil=>exact .inl rfl
   |cons y ys=>exact .inr ((hw y (by simp)).symm.trans (P2 y (by simp)))
  have rP:∀i j t,dP ys i j=some t->w.cell? ⟨b,off+(i*sz+j),none⟩=some (cv i j):=by
   intro i j t bN
   rcases vK with rfl|rfl
   ·simp[dP]at bN
   ·exact h1 i j t bN
  refine⟨cv,Src.ofSlice w ht ⟨b,off,none⟩ ys.length cap _ (Bt _ _ _) (λk u hu=>?_) (λu hu=>?_),P2,h2,λb' abw n' zW he=>by cases he;exact rP⟩
  ·have hk:k<ys.length*sz:=by rw[<-Bt cv sz ys.length];exact(List.getElem?_eq_some_iff.1 hu).1
   have hi:k/sz<ys.length:=Nat.div_lt_of_lt_mul (by rw[Nat.mul_comm];exact hk)
   have hj:k%sz<sz:=Nat.mod_lt _ iE
   have nc:(k/sz)*sz+k%sz=k:=by rw[Nat.mul_comm];exact Nat.div_add_mod k sz
   obtain⟨t,bN⟩:=Kq P2 hi hj
   have:=CR (cv:=cv) hi hj
   rw[nc,hu]at this
   cases this
   have j3:=rP _ _ t bN
   rw[nc]at j3
   rw[Addr.add_lit]
   exact j3
  ·obtain⟨i,j,hi,hj,rfl⟩:=ab7 iE hu
   obtain⟨t,bN⟩:=Kq P2 hi hj
   exact(h2 i j t bN).one
end
section
variable {P:Program} {w:World}
theorem SE(b:Nat)(t:TypeId):∀(vs:List Value) (o:Nat) (w:World) (arr:Array Value),w.heap[b]?=some (.cells arr t (0,0))->
  (w.setCells b o vs).heap[b]?=some (.cells (z7 vs o arr) t (0,0))∧(∀c,c≠b->(w.setCells b o vs).heap[c]?=w.heap[c]?)∧(w.setCells b o vs).heap.size=w.heap.size∧
   jK w (w.setCells b o vs)
 | [],o,w,arr,h=>⟨h,λ_ _=>rfl,rfl,⟨rfl,rfl,rfl⟩⟩
 |v::vs,o,w,arr,h=>by
  have h1:=heap_setCell_same w b o arr t v h
  obtain⟨g1,g2,g3,g4⟩:=SE b t vs (o+1) _ _ h1
  refine⟨g1,λc hc=>(g2 c hc).trans (heap_setCell_other w ⟨b,o,none⟩ c v hc),?_,?_⟩
  ·rw[World.setCells,g3];simp
  ·exact⟨g4.os.trans rfl,g4.tape.trans rfl,g4.output.trans rfl⟩
def Kr(w:World)(sz:Nat)(v:Value)(n:Nat)(b0:Option Nat)(cv:Nat->Nat->Value):Prop:=
 (v=.slice none 0 0∧n=0∧b0=none)∨∃b cap arr elem,v=.slice (some ⟨b,0,none⟩) n cap∧b0=some b∧w.heap[b]?=some (.cells arr elem (0,0))∧arr.size=cap*sz∧n<=cap∧(n=0->cap=0)∧
  ∀i j,i<n->j<sz->arr[i*sz+j]?=some (cv i j)
structure SF (w w':World) (sz:Nat) (v':Value) (n m:Nat) (b0 nb:Option Nat) (cv ub:Nat->Nat->Value):Prop where
 so:jK w w'
 size:w.heap.size<=w'.heap.size
 oth:∀c,c<w.heap.size->nb≠some c->w'.heap[c]?=w.heap[c]?
 at_:∀c,nb=some c->(c=w.heap.size∨b0=some c)∧c<w'.heap.size
 row:(nb=none∧v'=.slice none 0 0∧n=0∧m=0)∨∃b cap arr elem,nb=some b∧v'=.slice (some ⟨b,0,none⟩) (n+m) cap∧w'.heap[b]?=some (.cells arr elem (0,0))∧arr.size=cap*sz∧n+m<=cap∧(n+m=0->cap=0)∧
  (∀i j,i<n->j<sz->arr[i*sz+j]?=some (cv i j))∧∀i j,i<m->j<sz->arr[(n+i)*sz+j]?=some (ub i j)
theorem CS{i n j sz:Nat}(hi:i<n)(hj:j<sz):i*sz+j<n*sz:=by
 have:(i+1)*sz<=n*sz:=Nat.mul_le_mul_right _ hi
 rw[Nat.add_mul]at this
 omega
theorem ab_{arr:Array Value}{sz n:Nat}{cv:Nat->Nat->Value}(iE:0<sz)(h:∀i j,i<n->j<sz->arr[i*sz+j]?=some (cv i j)){k:Nat}{u:Value}(hu:(tq cv sz n)[k]?=some u):arr[k]?=some u:=by
 have hk:k<n*sz:=by rw[<-Bt cv sz n];exact(List.getElem?_eq_some_iff.1 hu).1
 have hi:k/sz<n:=Nat.div_lt_of_lt_mul (by rw[Nat.mul_comm];exact hk)
 have hj:k%sz<sz:=Nat.mod_lt _ iE
 have nc:(k/sz)*sz+k%sz=k:=by rw[Nat.mul_comm];exact Nat.div_add_mod k sz
 have h1:=CR (cv:=cv) hi hj
 rw[nc,hu]at h1
 cases h1
 have h2:=h _ _ hi hj
 rw[nc]at h2
 exact h2
theorem ab'{t tx ty e:TypeId}{i:TypeInfo}{z:Value}(ht:P.underlying t=some (.slice e))(hi:P.info? e=some i)(hz:i.zero=some z){sz:Nat}(hs:i.size=sz)(CP:z.cells.size=sz)(iE:0<sz)
  (hby:i.bytes<=32768){va vb:Value}{n m:Nat}{b0:Option Nat}{cv ub:Nat->Nat->Value}(hr:Kr w sz va n b0 cv)(pK:Src P sz tx vb m (tq ub sz m) w)(qW:n+m<wJ):
  ∃v' w' nb,(Builtin.append_ #[t,tx] ty #[va,vb]).run P w=.ok v' w'∧SF w w' sz v' n m b0 nb cv ub:=by
 subst hs
 have arC:n+m<4294967296:=qW
 have grown:∀(base:Option Addr) (xL:Nat),(Builtin.firstCells i.size n (.slice base n xL)).run P w.drew=.ok (tq cv i.size n).toArray w.drew->xL<n+m->
   ∃v' w' nb,(Builtin.append_ #[t,tx] ty #[.slice base n xL,vb]).run P w=.ok v' w'∧SF w w' i.size v' n m b0 nb cv ub:=by
  intro base xL hold bE
  have lZ:Builtin.nextslicecap (n+m) xL*i.bytes<=281474976710656:=growslice_fits (by omega) (by
   calc (n+m)*i.bytes<=4294967296*32768:=Nat.mul_le_mul (by omega) hby
    _=140737488355328:=by rfl)
  have eV:=run_append_grow_src (P:=P) w t tx ty e i z ht hi hz base n xL _ hold vb m _ pK bE (by omega) lZ
  refine⟨_,_,some w.heap.size,eV,⟨⟨rfl,rfl,rfl⟩,by simp,λc hc _=>heap_alloc_old w.drew _ c hc,λc hc=>by cases hc;exact⟨.inl rfl,by simp⟩,.inr ⟨w.heap.size,_,_,e,rfl,rfl,heap_alloc_new w.drew _,?_,grownCap_ge w _ _ _,λh0=>by omega,?_,?_⟩⟩⟩
  ·have SG:=grownCap_ge w (n+m) xL e
   simp only[Array.size_append,List.size_toArray,List.length_append,Bt,size_zeroCells,CP,<-Nat.add_mul]
   congr 1
   omega
  ·intro ii j sO hj
   have oV:=CS sO hj
   rw[Array.getElem?_append_left (by simp only[List.size_toArray,List.length_append,Bt];omega),List.getElem?_toArray,List.getElem?_append_left (by rw[Bt];exact oV)]
   exact CR sO hj
  ·intro ii j sO hj
   have oV:=CS sO hj
   have e1:(n+ii)*i.size+j=n*i.size+(ii*i.size+j):=by rw[Nat.add_mul];omega
   rw[Array.getElem?_append_left (by simp only[List.size_toArray,List.length_append,Bt];omega),List.getElem?_toArray,List.getElem?_append_right (by rw[Bt];omega),Bt,
    show(n+ii)*i.size+j-n*i.size=ii*i.size+j by omega]
   exact CR sO hj
 rcases hr with⟨rfl,rfl,rfl⟩|⟨b,cap,arr,elem,rfl,rfl,hb,yW,hnc,zZ,tY⟩
 ·by_cases hm:m=0
  ·subst hm
   refine⟨.slice none 0 0,w,none,?_,⟨⟨rfl,rfl,rfl⟩,Nat.le_refl _,λ_ _ _=>rfl,(λc hc=>by cases hc),.inl ⟨rfl,rfl,rfl,rfl⟩⟩⟩
   rcases pK.kind with⟨e',hk⟩|hk<;>simp[Builtin.append_,run_underlying ht,run_underlying hk,sizeOf,typeInfo,hi,pK.len,pK.cells]
  ·refine grown none 0 ?_ (by omega)
   have:=run_firstCells_none (P:=P) w.drew i.size 0 0 0
   simpa[tq]using this
 ·by_cases vL:n+m<=cap
  ·have IX:n*i.size+(tq ub i.size m).length<=arr.size:=by rw[Bt,yW,<-Nat.add_mul];exact Nat.mul_le_mul_right _ vL
   have eV:=run_append_room_src (P:=P) w t tx ty e i ht hi b 0 n cap vb m _ pK vL (λj hj=>by
    rw[zP hb];simp only[Nat.zero_add];rw[Array.getElem?_eq_getElem (by omega)];rfl) (λj hj=>by simp[World.frozen?,hb])
   obtain⟨g1,g2,g3,g4⟩:=SE b elem (tq ub i.size m) (0+n*i.size) w arr hb
   have acb:b<w.heap.size:=PX hb
   refine⟨_,_,some b,eV,⟨g4,by rw[g3];exact Nat.le_refl _,λc _ hc=>g2 c λe=>hc (by rw[e]),λc hc=>by cases hc;exact⟨.inr rfl,by rw[g3];exact acb⟩,.inr ⟨b,cap,_,elem,rfl,rfl,g1,?_,vL,λh0=>zZ (by omega),?_,?_⟩⟩⟩
   ·rw[PZ];exact yW
   ·intro ii j sO hj
    have oV:=CS sO hj
    rw[P0 _ _ _ _ (by simpa using IX),if_neg (by omega)]
    exact tY ii j sO hj
   ·intro ii j sO hj
    have oV:=CS sO hj
    have e1:(n+ii)*i.size+j=n*i.size+(ii*i.size+j):=by rw[Nat.add_mul];omega
    rw[P0 _ _ _ _ (by simpa using IX),if_pos ⟨by omega,by rw[Bt];omega⟩,show(n+ii)*i.size+j-(0+n*i.size)=ii*i.size+j by omega]
    exact CR sO hj
  ·refine grown (some ⟨b,0,none⟩) cap ?_ (by omega)
   have:=run_firstCells_some (P:=P) w.drew i.size n ⟨b,0,none⟩ n cap (tq cv i.size n) (Bt _ _ _) (λj u hu=>by
    rw[Addr.add_lit]
    simp only[Nat.zero_add,World.cell?_drew]
    rw[zP hb]
    exact ab_ iE tY hu)
   exact this
end
section
variable {M:Nat->Prop} {B:eT} {d:Nat} {up:Nat->Nat->Value} {ρ:List T} {G:Gh} {a:Act} {w:World} {S:Nat->aB} {P:Program}
def lL(kA kx:Wk)(W:St):Prop:=kA.r=kx.r∧∀r,kA.w.look r=(W.look r).or (kx.w.look r)
theorem acd{k kA:Wk}{G1:Gh}{X:SV}{va:Value}{la:Lf}{IY lC:Bool}(hk:dy M B d up ρ G a w k G1)(hr:cL G1 w ρ X va)(hm:∀i∈dt X,M i)(h:JI k X=some (kA,la,IY))
  (gN:lC=true->IY=true):kA.ct=k.ct∧kA.is=k.is∧∃kx G2 WA xs,dy M B d up ρ G a w kx G2∧kx.ct=k.ct∧lL kA kx WA∧la.fN ρ=some (.l xs)∧
   ((va=.slice none 0 0∧xs=[]∧WA=[])∨∃lS,WA=[(.o lS,.un)]∧M lS∧lS%4≠2∧va=G2.H lS []∧fg G2 w lS lC [] (.l xs)):=by
 unfold JI at h
 split at h
 ·simp only[bF,Prod.mk.injEq]at h
  obtain⟨rfl,rfl,rfl⟩:=h
  obtain⟨e,he,sD,_⟩:=hr
  cases he
  exact⟨rfl,rfl,k,G1,[],[],hk,rfl,⟨rfl,λr=>by simp[St.look]⟩,rfl,.inl ⟨sD,rfl,rfl⟩⟩
 ·rename_i id
  split at h
  ·rename_i dp x hx
   cases ud:Nat.beq (id%4) 2 with
   |true=>simp[ud]at h
   |false=>
   have CT:id%4≠2:=λe=>by rw[e]at ud;cases ud
   simp only[ud,cond_false,bF,Prod.mk.injEq]at h
   obtain⟨rfl,rfl,rfl⟩:=h
   obtain⟨e,he,sD,_⟩:=hr
   cases he
   obtain⟨p,hp,hva⟩:=sD
   simp only[nz,bF]at hp
   subst hp
   have hM:M id:=hm id (by simp[dt,dN])
   refine⟨rfl,rfl,?_⟩
   by_cases hd:lC=dp
   ·subst hd
    have ej:=hk.obj id
    rw[hx]at ej
    obtain⟨t,ht,bQ⟩:=ej
    obtain⟨xs,rfl⟩:∃ys,t=.l ys:=by cases bQ<;>exact⟨_,rfl⟩
    exact⟨k,G1,[(.o id,.un)],xs,hk,rfl,⟨rfl,λr=>wT r⟩,ht,.inr ⟨id,rfl,hM,CT,hva,bQ⟩⟩
   ·have e1:lC=false:=by cases lC<;>cases dp<;>simp_all
    subst e1
    have wU:k.flat id=some (k.set (.o id) (.ob false x)):=by unfold Wk.flat;rw[hx]
    obtain⟨G2,w2,f1,f2,f3,f4,f5⟩:=hk.flat wU
    have ej:=w2.obj id
    rw[Wk.cq]at ej
    obtain⟨t,ht,bQ⟩:=ej
    obtain⟨xs,rfl⟩:∃ys,t=.l ys:=by cases bQ<;>exact⟨_,rfl⟩
    refine⟨_,G2,[(.o id,.un)],xs,w2,f4,⟨rfl,λr=>?_⟩,ht,.inr ⟨id,rfl,hM,CT,by rw[f2];exact hva,bQ⟩⟩
    rw[show(k.set (.o id) .un).w.look r=_ from wT r,wS]
    by_cases ua:bD.o id=r
    ·subst ua;simp
    ·simp only[ua,if_false,Option.none_or]
     exact(St.cG _ _ ua).symm
  ·cases h
 ·cases h
def FM(G:Gh)(w:World)(lC:Bool)(nJ:Option Nat)(ys:List (List T))(cv:Nat->Nat->Value):Prop:=
 (lC=false∧∀i j t,dP ys i j=some t->eP G.q w t (cv i j))∨
 ((∀i j t,dP ys i j=some t->dX t=true∧eP (er G.ω) w t (cv i j)))∨
 (∃id,lC=true∧nJ=some id∧(∀i j zs,dP ys i j=some (.l zs)->fg G w id true [(i,j)] (.l zs))∧(∀i j v,dP ys i j=some (.c v)->cv i j=v∧lr v=true)∧∀i j zs,dP ys i j=some (.l zs)->cv i j=G.H id [(i,j)])
theorem lL.get{kA kx:Wk}{W:St}(h:lL kA kx W){r:bD}(hr:W.look r=none):kA.get r=kx.get r:=by
 unfold Wk.get
 rw[h.2,hr,h.1]
 simp
theorem fg.rows{G1:Gh}{id:Nat}{ys:List (List T)}(h:fg G1 w id true [] (.l ys)):∀i j zs,dP ys i j=some (.l zs)->fg G1 w id true [(i,j)] (.l zs):=by
 intro i j zs bN
 have:=fg.kh [(i,j)] h (by simp[i_,bN]) ⟨zs,rfl⟩
 simpa using this
theorem SH{G1:Gh}{id:Nat}{dp:Bool}{ys:List (List T)}{v:Value}(h:fg G1 w id dp [] (.l ys))(hv:v=G1.H id []){sz:Nat}(iE:0<sz)(ez:okW sz ys=true){tx e':TypeId}(ht:P.underlying tx=some (.slice e')):
  ∃cv:Nat->Nat->Value,Src P sz tx v ys.length (tq cv sz ys.length) w∧(∀r∈ys,r.length=sz)∧(∀i j v,dP ys i j=some (.c v)->cv i j=v∧lr v=true)∧
   (dp=true->∀i j zs,dP ys i j=some (.l zs)->cv i j=G1.H id [(i,j)])∧(dp=false->∀i j t,dP ys i j=some t->eP G1.q w t (cv i j)):=by
 have eb:=h.den
 rw[<-hv]at eb
 obtain⟨cv,h1,h2,h3,h4⟩:=z' (P:=P) eb iE ez ht
 refine⟨cv,h1,h2,λi j u bN=>?_,λhd i j zs bN=>?_,λhd i j t bN=>?_⟩
 ·exact(h3 i j _ bN).scalar
 ·cases h with
  |nil=>simp[dP]at bN
  | @l _ _ _ b wd cap arr elem ub g1 g2 g3 g4 g5 g6 g7 g8 g9 g10 g11=>
   have hc:=h4 b 0 _ _ (by rw[hv];exact g1) i j _ bN
   have sA:wd=sz:=by
    obtain⟨r,_,hm,_⟩:=yN bN
    rw[<-g6 r hm,h2 r hm]
   subst sA
   rw[zP g4,Nat.zero_add,g7 i j _ bN]at hc
   rw[<-Option.some.inj hc]
   simpa using g10 i j zs bN hd
 ·cases h with
  |nil=>simp[dP]at bN
  | @l _ _ _ b wd cap arr elem ub g1 g2 g3 g4 g5 g6 g7 g8 g9 g10 g11=>
   have hc:=h4 b 0 _ _ (by rw[hv];exact g1) i j _ bN
   have sA:wd=sz:=by
    obtain⟨r,_,hm,_⟩:=yN bN
    rw[<-g6 r hm,h2 r hm]
   subst sA
   rw[zP g4,Nat.zero_add,g7 i j _ bN]at hc
   rw[<-Option.some.inj hc]
   cases t with
   |c u=>obtain⟨e1,e2⟩:=g8 i j u bN;rw[e1];exact .c e2
   |l zs=>exact g9 i j zs bN hd
theorem lL.same{kA kx kB:Wk}{W:St}(h:lL kA kx W)(hs:kA.e_ kB):lL kB kx W:=⟨hs.r.trans h.1,λr=>by rw[hs.w];exact h.2 r⟩
theorem ace{kA kB:Wk}{Y:SV}{lb:Lf}{sl fz EE:Bool}(h:Ch sl fz kA Y=some (kB,lb,EE))(hd:kB.bJ S ρ):kA.bJ S ρ:=by
 unfold Ch at h
 split at h
 ·simp only[bF,Prod.mk.injEq]at h;rw[h.1];exact hd
 ·simp only[bF,Prod.mk.injEq]at h;rw[h.1];exact hd
 ·cases wW:sl with
  |false=>
   simp only[wW,cond_false,cN,bF,Prod.mk.injEq]at h
   obtain⟨⟨k2,x2⟩,hv,rfl,_⟩:=h
   exact Wk.mZ hv hd
  |true=>
   simp only[wW,cond_true]at h
   split at h
   ·rename_i dp x hx
    cases hc:(dp&& !fz)with
    |true=>simp only[hc,cond_true,bF,Prod.mk.injEq]at h;rw[<-h.1]at hd;exact hd
    |false=>simp only[hc,cond_false,bF,Prod.mk.injEq]at h;rw[<-h.1]at hd;exact hd
   ·simp only[bF,Prod.mk.injEq]at h;rw[h.1];exact hd
   ·cases uT:fz with
    |true=>simp[uT]at h
    |false=>simp only[uT,cond_false,bF,Prod.mk.injEq]at h;rw[<-h.1]at hd;exact hd
   ·cases h
 ·cases h
theorem acf{kA kB kx:Wk}{G1:Gh}{WA:St}{Y:SV}{vb:Value}{lb:Lf}{sl fz EE lC:Bool}(hk:dy M B d up ρ G a w kx G1)(ho:lL kA kx WA)(vM:∀r u,WA.look r=some u->u=.un)
  (hr:cL G1 w ρ Y vb)(hm:∀i∈dt Y,M i)(h:Ch sl fz kA Y=some (kB,lb,EE))(hd:kB.bJ S ρ)(gN:lC=true->EE=true):
  kA.bJ S ρ∧kB.ct.i=kA.ct.i∧∃ky G3 WB t nJ,dy M B d up ρ G a w ky G3∧lL kB ky (WB++WA)∧((WB=[]∧nJ=none)∨∃i,nJ=some i∧WB=[(.o i,.un)]∧WA.look (.o i)=none∧M i)∧
   lb.fN ρ=some t∧G3.H=G1.H∧dA (λl=>∃i p,l=.o i p∧WA.look (.o i)=none) (λ_=>False) G1 w G3 w∧(∀i p,∀b,G3.ω b=some (.o i p)->G1.ω b=some (.o i p))∧
   ∀ys sz tx e',t=.l ys->0<sz->okW sz ys=true->(sl=false->ys.all (·.all dX)=true)->P.underlying tx=some (.slice e')->
    ∃cv,Src P sz tx vb ys.length (tq cv sz ys.length) w∧(∀r∈ys,r.length=sz)∧FM G3 w lC nJ ys cv:=by
 have stay:dA (λl=>∃i p,l=.o i p∧WA.look (.o i)=none) (λ_=>False) G1 w G1 w:=(dA.refl G1 w).mono (λ_ hf=>hf.elim) λ_ hf=>hf
 have vN:∀ys:List (List T),ys.all (·.all dX)=true->∀i j t,dP ys i j=some t->dX t=true:=by
  intro ys hs i j t bN
  obtain⟨r,_,je,IR,_⟩:=yN bN
  exact List.all_eq_true.1 (List.all_eq_true.1 hs r je) t (List.mem_of_getElem? IR)
 unfold Ch at h
 split at h
 ·
  simp only[bF,Prod.mk.injEq]at h
  obtain⟨rfl,rfl,rfl⟩:=h
  obtain⟨e,he,sD,_⟩:=hr
  cases he
  refine⟨hd,rfl,kx,G1,[],.l [],none,hk,ho,.inl ⟨rfl,rfl⟩,rfl,rfl,stay,λ_ _ _ h=>h,λys sz tx e' ht iE ez _ ug=>?_⟩
  cases ht
  rw[show vb=_ from sD]
  obtain⟨cv,h1,h2,_,_⟩:=z' (P:=P) (.nil:eP G1.q w (.l []) (.slice none 0 0)) iE ez ug
  exact⟨cv,h1,h2,.inr (.inl λi j t bN=>by simp[dP]at bN)⟩
 ·
  simp only[bF,Prod.mk.injEq]at h
  obtain⟨rfl,rfl,rfl⟩:=h
  obtain⟨e,he,sD,_⟩:=hr
  cases he
  obtain⟨t,ht,eb⟩:=sD
  refine⟨hd,rfl,kx,G1,[],t,none,hk,ho,.inl ⟨rfl,rfl⟩,ht,rfl,stay,λ_ _ _ h=>h,λys sz tx e' ht iE ez oM ug=>?_⟩
  subst ht
  obtain⟨cv,h1,h2,h3,_⟩:=z' (P:=P) eb iE ez ug
  refine⟨cv,h1,h2,?_⟩
  cases hb:lC with
  |false=>exact .inl ⟨rfl,h3⟩
  |true=>
   have:=gN hb
   have wW:sl=false:=by simpa using this
   exact .inr (.inl λi j t bN=>⟨vN ys (oM wW) i j t bN,(h3 i j t bN).er⟩)
 ·
  rename_i id q
  obtain⟨e,he,sD,_⟩:=hr
  cases he
  have hMi:M id:=hm id (by simp[dt,dN])
  cases wW:sl with
  |false=>
   simp only[wW,cond_false,cN,bF,Prod.mk.injEq]at h
   obtain⟨⟨k2,x2⟩,hv,rfl,rfl,rfl⟩:=h
   have dB:WA.look (.o id)=none:=by
    cases hl:WA.look (.o id)with
    |none=>rfl
    |some u=>
     exfalso
     have hu:=vM _ _ hl
     subst hu
     have:kA.get (.o id)=.un:=by unfold Wk.get;rw[ho.2,hl];simp
     simp[Wk.val,this]at hv
   obtain⟨t,ht,eb⟩:=Wk.lW hv hd sD λi hi=>by
    simp[dN]at hi
    subst hi
    rw[ho.get dB]
    exact hk.obj i
   refine⟨Wk.mZ hv hd,(Wk.dR hv).i,kx,G1,[],t,none,hk,ho.same (Wk.dR hv),.inl ⟨rfl,rfl⟩,ht,rfl,stay,λ_ _ _ h=>h,λys sz tx e' ht iE ez oM ug=>?_⟩
   subst ht
   obtain⟨cv,h1,h2,h3,_⟩:=z' (P:=P) eb iE ez ug
   exact⟨cv,h1,h2,.inr (.inl λi j t bN=>⟨vN ys (oM rfl) i j t bN,h3 i j t bN⟩)⟩
  |true=>
   simp only[wW,cond_true]at h
   have dB:kA.get (.o id)≠.un->WA.look (.o id)=none:=by
    intro dI
    cases hl:WA.look (.o id)with
    |none=>rfl
    |some u=>
     exfalso
     have hu:=vM _ _ hl
     subst hu
     exact dI (by unfold Wk.get;rw[ho.2,hl];simp)
   obtain⟨p,hp,SI⟩:=sD
   split at h
   ·rename_i dp x hx
    have hn:=dB (by rw[hx];simp)
    simp only[nz,bF]at hp
    subst hp
    have EF:kx.get (.o id)=.ob dp x:=by rw[<-ho.get hn];exact hx
    have vO:lC=false->∃ky G3,ky=kx.set (.o id) (.ob false x)∧dy M B d up ρ G a w ky G3∧G3.H=G1.H∧dA (λl=>∃i p,l=.o i p∧WA.look (.o i)=none) (λ_=>False) G1 w G3 w∧(∀i p,∀b,G3.ω b=some (.o i p)->G1.ω b=some (.o i p))∧
      ∃t,x.fN ρ=some t∧∀ys sz tx e',t=.l ys->0<sz->okW sz ys=true->P.underlying tx=some (.slice e')->∃cv,Src P sz tx vb ys.length (tq cv sz ys.length) w∧(∀r∈ys,r.length=sz)∧∀nJ,FM G3 w lC nJ ys cv:=by
     intro ach
     have hG:dy M B d up ρ G a w (kx.set (.o id) (.ob false x)) (G1.free id false):=by
      have hx3:=EF
      rw[Wk.a_]at hx3
      refine⟨(hk.rel.flat hx3).congr (IK _ _ _ _),(hk.bp.mono (λl hl=>IJ hl) λ_ hn=>hn).trans ((G1.fy id false w).mono ?_ λ_ hn=>hn)⟩
      rintro l ⟨p,rfl⟩
      show(kx.w.set _ _).look (.o id)≠none
      rw[St.bB];simp
     refine⟨_,G1.free id false,rfl,hG,rfl,(G1.fy id false w).mono (λl ⟨p,hp⟩=>⟨id,p,hp,hn⟩) (λ_ hf=>hf),λi p b hb=>?_,?_⟩
     ·simp only[Gh.free]at hb
      split at hb
      ·split at hb
       ·cases hb
       ·rename_i hw _;rw[hw];exact hb
      ·exact hb
     ·have ej:=hG.obj id
      rw[Wk.cq]at ej
      obtain⟨t,ht,bQ⟩:=ej
      refine⟨t,ht,λys sz tx e' rM iE ez ug=>?_⟩
      subst rM
      obtain⟨cv,h1,h2,_,_,h5⟩:=SH (P:=P) bQ SI iE ez ug
      exact⟨cv,h1,h2,λ_=>.inl ⟨ach,h5 rfl⟩⟩
    cases hc:(dp&& !fz)with
    |true=>
     simp only[hc,cond_true,bF,Prod.mk.injEq]at h
     obtain⟨rfl,rfl,rfl⟩:=h
     simp only[bI]at hc
     cases P3:lC with
     |false=>
      obtain⟨ky,G3,rfl,w3,e3,kp,e4,t,ht,pK⟩:=vO P3
      refine⟨hd,rfl,_,G3,[(.o id,.un)],t,some id,w3,⟨ho.1,λr=>?_⟩,.inr ⟨id,rfl,rfl,hn,hMi⟩,ht,e3,kp,e4,λys sz tx e' rM iE ez _ ug=>?_⟩
      ·rw[show(kA.set (.o id) .un).w.look r=_ from wT r,nC,wS,ho.2]
       by_cases ua:bD.o id=r
       ·subst ua;simp
       ·simp only[ua,if_false,Option.none_or]
        rw[show(kx.set (.o id) (.ob false x)).w.look r=_ from St.cG _ _ ua]
      ·obtain⟨cv,h1,h2,h3⟩:=pK ys sz tx e' rM iE ez ug
       rw[<-P3]
       exact⟨cv,h1,h2,h3 _⟩
     |true=>
      have ej:=hk.obj id
      rw[EF,hc.1]at ej
      obtain⟨t,ht,bQ⟩:=ej
      refine⟨hd,rfl,kx,G1,[(.o id,.un)],t,some id,hk,⟨ho.1,λr=>?_⟩,.inr ⟨id,rfl,rfl,hn,hMi⟩,ht,rfl,stay,λ_ _ _ h=>h,λys sz tx e' rM iE ez _ ug=>?_⟩
      ·rw[show(kA.set (.o id) .un).w.look r=_ from wT r,nC,ho.2,Option.or_assoc]
      ·subst rM
       obtain⟨cv,h1,h2,h3,h4,_⟩:=SH (P:=P) bQ SI iE ez ug
       exact⟨cv,h1,h2,.inr (.inr ⟨id,rfl,rfl,bQ.rows,h3,h4 rfl⟩)⟩
    |false=>
     simp only[hc,cond_false,bF,Prod.mk.injEq]at h
     obtain⟨rfl,rfl,rfl⟩:=h
     have P3:lC=false:=by cases lC with|false=>rfl|true=>exact absurd (gN rfl) (by simp)
     obtain⟨ky,G3,rfl,w3,e3,kp,e4,t,ht,pK⟩:=vO P3
     refine⟨hd,rfl,_,G3,[],t,none,w3,⟨ho.1,λr=>?_⟩,.inl ⟨rfl,rfl⟩,ht,e3,kp,e4,λys sz tx e' rM iE ez _ ug=>?_⟩
     ·by_cases ua:bD.o id=r
      ·subst ua
       rw[show(kA.set (.o id) (.ob false x)).w.look (.o id)=_ from St.bB _ _ _,List.nil_append,hn]
       simp only[Option.none_or]
       exact(St.bB _ _ _).symm
      ·rw[show(kA.set (.o id) (.ob false x)).w.look r=_ from St.cG _ _ ua,ho.2,List.nil_append,show(kx.set (.o id) (.ob false x)).w.look r=_ from St.cG _ _ ua]
     ·obtain⟨cv,h1,h2,h3⟩:=pK ys sz tx e' rM iE ez ug
      exact⟨cv,h1,h2,h3 _⟩
   ·rename_i x hx
    have hn:=dB (by rw[hx];simp)
    simp only[nz,bF]at hp
    subst hp
    simp only[bF,Prod.mk.injEq]at h
    obtain⟨rfl,rfl,rfl⟩:=h
    have P3:lC=false:=by cases lC with|false=>rfl|true=>exact absurd (gN rfl) (by simp)
    have ej:=hk.obj id
    rw[<-ho.get hn,hx]at ej
    obtain⟨t,ht,eb,_⟩:=ej
    refine⟨hd,rfl,kx,G1,[],t,none,hk,ho,.inl ⟨rfl,rfl⟩,ht,rfl,stay,λ_ _ _ h=>h,λys sz tx e' rM iE ez _ ug=>?_⟩
    subst rM
    rw[<-SI]at eb
    obtain⟨cv,h1,h2,h3,_⟩:=z' (P:=P) eb iE ez ug
    exact⟨cv,h1,h2,.inl ⟨P3,h3⟩⟩
   ·rename_i x hx
    have hn:=dB (by rw[hx];simp)
    simp only[nz,bF]at hp
    subst hp
    cases uT:fz with
    |true=>simp[uT]at h
    |false=>
     simp only[uT,cond_false,bF,Prod.mk.injEq]at h
     obtain⟨rfl,rfl,rfl⟩:=h
     have ej:=hk.obj id
     rw[<-ho.get hn,hx]at ej
     obtain⟨h40,ys,ht,eb,vF,bQ⟩:=ej
     refine⟨hd,rfl,kx,G1,[(.o id,.un)],_,some id,hk,⟨ho.1,λr=>?_⟩,.inr ⟨id,rfl,rfl,hn,hMi⟩,ht,rfl,stay,λ_ _ _ h=>h,λZY sz tx e' rM iE ez _ ug=>?_⟩
     ·rw[show(kA.set (.o id) .un).w.look r=_ from wT r,nC,ho.2,Option.or_assoc]
     ·cases rM
      have oX:=eb
      rw[<-SI]at oX
      obtain⟨cv,h1,h2,h3,h4⟩:=z' (P:=P) oX iE ez ug
      refine⟨cv,h1,h2,?_⟩
      cases hb:lC with
      |false=>exact .inl ⟨rfl,h3⟩
      |true=>
       refine .inr (.inr ⟨id,rfl,rfl,bQ,λi j v bN=>(h3 i j _ bN).scalar,λi j zs bN=>?_⟩)
       obtain⟨ad,cap,sP,_⟩:=oX.rows
       cases ad with
       |none=>
        rw[sP]at oX
        generalize uR:Value.slice none ys.length cap=vv at oX
        cases oX with
        |nil=>simp[dP]at bN
        |l=>cases uR
       |some ad=>
        obtain⟨b,off,r0⟩:=ad
        rw[sP]at oX
        generalize uR:Value.slice (some ⟨b,off,r0⟩) ys.length cap=vv at oX
        cases oX with
        |nil=>simp[dP]at bN
        | @l _ b2 asQ wd Kf cv2 g1 g2 g3 g4 g5 g6=>
         cases uR
         obtain⟨EB,w1,w2⟩:=vF b off _ _ (by rw[<-SI];exact sP)
         have e1:=h4 b off _ _ sP i j _ bN
         have e2:=w2 i j zs bN
         obtain⟨row,_,je,_⟩:=yN bN
         rw[<-w1 row je,h2 row je,e1]at e2
         simpa using e2
   ·cases h
 ·cases h
theorem aci{sc:Bool}{sz:Nat}{xs:List (List T)}{t r:T}(h:Prim.ev (.app sc sz) [.l xs,t]=some r):
  ∃ys,t=.l ys∧xs.length+ys.length<wJ∧(sc=true->ys.all (·.all dX)=true)∧okW sz xs=true∧okW sz ys=true∧r=.l (xs++ys):=by
 cases t with
 |c v=>simp[Prim.ev]at h
 |l ys=>
  simp only[Prim.ev]at h
  split at h
  ·rename_i h1
   split at h
   ·rename_i h2
    split at h
    ·rename_i h3
     split at h
     ·rename_i h4
      simp only[bF]at h
      exact⟨ys,rfl,h1,λhs=>by subst hs;simpa using h2,h3,h4,h.symm⟩
     ·cases h
    ·cases h
   ·cases h
  ·cases h
theorem acj{G1:Gh}{id:Nat}{dp:Bool}{xs:List (List T)}{v:Value}(h:fg G1 w id dp [] (.l xs))(hv:v=G1.H id []){sz:Nat}(ez:okW sz xs=true):
  ∃(cv:Nat->Nat->Value) (b0:Option Nat),Kr w sz v xs.length b0 cv∧(∀b,b0=some b->G1.ω b=some (.o id []))∧rR G1 w id dp sz 0 xs cv:=by
 cases h with
 |nil hH=>
  refine⟨λ_ _=>undef,none,.inl ⟨by rw[hv,hH],rfl,rfl⟩,λb hb=>(by cases hb),⟨λr hr=>(by cases hr),?_,?_,?_,?_⟩⟩<;>intro i j t bN<;>simp[dP]at bN
 | @l _ _ _ b wd cap arr elem cv g1 g2 g3 g4 g5 g6 g7 g8 g9 g10 g11=>
  by_cases hx:xs=[]
  ·subst hx
   have qW:=g2.2 rfl
   subst qW
   refine⟨cv,some b,.inr ⟨b,0,arr,elem,by rw[hv,g1],rfl,g4,by rw[g5];simp,Nat.le_refl _,λ_=>rfl,λi j hi _=>by simp at hi⟩,λc hc=>by cases hc;exact g3,⟨λr hr=>(by cases hr),?_,?_,?_,?_⟩⟩<;>intro i j t bN<;>simp[dP]at bN
  ·have sA:wd=sz:=by
    cases xs with
    |nil=>exact absurd rfl hx
    |cons r xs=>rw[<-g6 r (by simp)];exact dU ez
   subst sA
   refine⟨cv,some b,.inr ⟨b,cap,arr,elem,by rw[hv,g1],rfl,g4,g5,g2.1,λh0=>g2.2 (List.eq_nil_of_length_eq_zero h0),λi j hi hj=>?_⟩,λc hc=>by cases hc;exact g3,⟨g6,g8,g9,?_,?_⟩⟩
   ·obtain⟨t,bN⟩:=Kq g6 hi hj
    exact g7 i j t bN
   ·intro i j ys bN hd
    simpa using g10 i j ys bN hd
   ·intro i j ys bN hd
    simpa using g11 i j ys bN hd
end
def uU(ja jb:Option Nat)(i n:Nat):Lb->Option Lb
 | .f=>some .f
 | .x b=>some (.x b)
 | .o j p=>
  if ja=some j then(match p with| []=>some (.o j [])|x::p=>some (.o i (x::p)))
  else if jb=some j then(match p with| []=>some (.o j [])|(r,c)::p=>some (.o i ((n+r,c)::p)))
  else some (.o j p)
theorem SJ(i:Nat):fe i%2=0:=by unfold fe;omega
theorem Kt{ja jb:Option Nat}{i n:Nat}(hi:i%2=0)(l l':Lb)(hq:qt l=true)(h:uU ja jb i n l=some l'):qt l'=true:=by
 cases l with
 |o j p=>
  cases p with
  |nil=>
   simp only[uU]at h
   split at h
   ·cases h;exact hq
   ·split at h
    ·cases h;exact hq
    ·cases h;exact hq
  |cons x p=>
   obtain⟨r,c⟩:=x
   simp only[uU]at h
   split at h
   ·cases h;exact xE hi (by simp)
   ·split at h
    ·cases h;exact xE hi (by simp)
    ·cases h;exact hq
 |_=>simp[qt]at hq
def uh(G:Gh)(ja jb:Option Nat)(n:Nat)(v:Value):List (Nat×Nat)->Value
 | []=>v
 |(r,c)::p=>if r<n then(match ja with|some j=>G.H j ((r,c)::p)|none=>.slice none 0 0)else(match jb with|some j=>G.H j ((r-n,c)::p)|none=>.slice none 0 0)
theorem Ku{G:Gh}{ja jb:Option Nat}{n:Nat}{v:Value}(hv:∃a m c,v=.slice a m c)(p:List (Nat×Nat)):∃a m c,uh G ja jb n v p=.slice a m c:=by
 cases p with
 |nil=>exact hv
 |cons x p=>
  obtain⟨r,k⟩:=x
  by_cases hr:r<n
  ·simp only[uh,if_pos hr]
   cases ja with
   |none=>exact⟨_,_,_,rfl⟩
   |some j=>exact G.hs j _
  ·simp only[uh,if_neg hr]
   cases jb with
   |none=>exact⟨_,_,_,rfl⟩
   |some j=>exact G.hs j _
section
variable {M:Nat->Prop} {B:eT} {d:Nat} {up:Nat->Nat->Value} {ρ:List T} {G:Gh} {a:Act} {w:World} {S:Nat->aB} {P:Program}
variable {cx:Cx} {cV ft oi:Nat} {s:St} {R:List bD} {ct:Ct} {k':Wk} {o:Oper} {Q:Exit->Act->World->Prop}
theorem ack{G3:Gh}{w':World}{lS i n:Nat}{lC:Bool}{sz:Nat}{xs:List (List T)}{cv:Nat->Nat->Value}(h:rR G3 w lS lC sz 0 xs cv)(hn:xs.length<=n)
  {nb:Option Nat}{jb:Option Nat}{v:Value}{oU:∀p,∃a m c,uh G3 (some lS) jb n v p=.slice a m c}(xJ:∀c,nb=some c->c=w.heap.size∨G3.ω c=some (.o lS []))(P4:lS%4≠2)
  (hi:i%2=0)(nI:∀b l,G3.ω b=some l->b<w.heap.size)(iE:w.heap.size<=w'.heap.size)(hh:∀c,c<w.heap.size->nb≠some c->w'.heap[c]?=w.heap[c]?):
  rR (G3.bY nb i (uU (some lS) jb i n) (uh G3 (some lS) jb n v) oU) w' i lC sz 0 xs cv:=by
 have rO:∀b,b<w.heap.size->G3.q b=none->(G3.bY nb i (uU (some lS) jb i n) (uh G3 (some lS) jb n v) oU).q b=none∧w'.heap[b]?=w.heap[b]?:=by
  intro b hb h0
  have dI:nb≠some b:=by
   intro e
   rcases xJ b e with rfl|h1
   ·omega
   ·exact xB h1 (tR P4) h0
  exact⟨FK (Kt hi) dI h0,hh b hb dI⟩
 refine⟨h.wd,h.sc,λr c ys bN hd=>(h.pl r c ys bN hd).bp iE rO,λr c ys bN hd=>?_,λr c ys bN hd=>?_⟩
 ·have bE:r<n:=by obtain⟨_,_,_,_,q1,_⟩:=yN bN;omega
  have:=h.hd r c ys bN hd
  simp only[Nat.zero_add]at this⊢
  rw[this]
  simp[Gh.bY,uh,bE]
 ·have bE:r<n:=by obtain⟨_,_,_,_,q1,_⟩:=yN bN;omega
  have:=h.ow r c ys bN hd
  simp only[Nat.zero_add]at this⊢
  refine this.move rfl (λe q he=>?_) λq=>by simp[Gh.bY,uh,bE]
  have oV:=nI e _ he
  have dI:nb≠some e:=by
   intro e'
   rcases xJ e e' with rfl|h1
   ·omega
   ·rw[he]at h1;simp at h1
  refine⟨?_,hh e oV dI⟩
  simp only[Gh.bY,dI,if_false,he,Option.bind_some,uU,if_true]
  rfl
theorem acm{G3:Gh}{w':World}{i n:Nat}{ja:Option Nat}{lC:Bool}{sz:Nat}{ys:List (List T)}{cv:Nat->Nat->Value}{nJ:Option Nat}(h:FM G3 w lC nJ ys cv)(gN:∀id,nJ=some id->ja≠some id)
  (hw:∀r∈ys,r.length=sz){nb:Option Nat}{v:Value}{oU:∀p,∃a m c,uh G3 ja nJ n v p=.slice a m c}
  (xJ:∀c,nb=some c->c=w.heap.size∨∃j,ja=some j∧G3.ω c=some (.o j [])∧j%4≠2)
  (hi:i%2=0)(nI:∀b l,G3.ω b=some l->b<w.heap.size)(iE:w.heap.size<=w'.heap.size)(hh:∀c,c<w.heap.size->nb≠some c->w'.heap[c]?=w.heap[c]?):
  rR (G3.bY nb i (uU ja nJ i n) (uh G3 ja nJ n v) oU) w' i lC sz n ys cv:=by
 have rO:∀b,b<w.heap.size->G3.q b=none->(G3.bY nb i (uU ja nJ i n) (uh G3 ja nJ n v) oU).q b=none∧w'.heap[b]?=w.heap[b]?:=by
  intro b hb h0
  have dI:nb≠some b:=by
   intro e
   rcases xJ b e with rfl|⟨j,_,h1,zY⟩
   ·omega
   ·exact xB h1 (tR zY) h0
  exact⟨FK (Kt hi) dI h0,hh b hb dI⟩
 have plain:lC=false->(∀i j t,dP ys i j=some t->eP G3.q w t (cv i j))->rR (G3.bY nb i (uU ja nJ i n) (uh G3 ja nJ n v) oU) w' i lC sz n ys cv:=by
  intro hf eb
  exact⟨hw,λr c u bN=>(eb r c _ bN).scalar,λr c zs bN _=>(eb r c _ bN).bp iE rO,λr c zs _ hd=>(by rw[hf]at hd;cases hd),λr c zs _ hd=>(by rw[hf]at hd;cases hd)⟩
 rcases h with⟨hf,eb⟩|oM|⟨id,nA,hid,bQ,hs,hl⟩
 ·exact plain hf eb
 ·refine⟨hw,λr c u bN=>(oM r c _ bN).2.scalar,λr c zs bN _=>?_,λr c zs bN _=>?_,λr c zs bN _=>?_⟩<;>have:=(oM r c _ bN).1<;>simp[dX]at this
 ·subst hid
  refine⟨hw,hs,λr c zs bN hd=>?_,λr c zs bN hd=>?_,λr c zs bN hd=>?_⟩
  ·rw[nA]at hd;cases hd
  ·rw[hl r c zs bN]
   simp[Gh.bY,uh,show¬(n+r<n) by omega]
  ··have:=bQ r c zs bN
    refine this.move rfl (λe q he=>?_) λq=>by simp[Gh.bY,uh,show¬(n+r<n) by omega]
    have oV:=nI e _ he
    have dI:nb≠some e:=by
     intro e'
     rcases xJ e e' with rfl|⟨j,hj,h1,_⟩
     ·omega
     ·rw[he]at h1;simp at h1
    have hja:ja≠some id:=gN id rfl
    refine⟨?_,hh e oV dI⟩
    simp[Gh.bY,dI,he,uU,hja]
theorem acn{ja jb:Option Nat}{i n:Nat}{l l':Lb}(h:uU ja jb i n l=some l'):l'.id=l.id∨l'.id=i:=by
 cases l with
 |f=>simp only[uU,bF]at h;subst h;exact .inl rfl
 |x b=>simp only[uU,bF]at h;subst h;exact .inl rfl
 |o j p=>
  simp only[uU]at h
  split at h
  ·cases p with
   |nil=>simp only[bF]at h;subst h;exact .inl rfl
   |cons x p=>simp only[bF]at h;subst h;exact .inr rfl
  ·split at h
   ·cases p with
    |nil=>simp only[bF]at h;subst h;exact .inl rfl
    |cons x p=>simp only[bF]at h;subst h;exact .inr rfl
   ·simp only[bF]at h;subst h;exact .inl rfl
theorem aco{ti tj te:TI}{t tx:Nat}(dW:ew P cx)(fQ:cx.ty t=some ti)(htj:cx.ty tx=some tj)(tX:cx.ty ti.el=some te)(iC:ti.kd=3)(hj3:tj.kd=3)(hby:te.bytes<=32768)(iE:0<te.sz)
  (h:Rel M B d up s ρ G a w)(hn:∀n,o.dst=some n->n<a.tmps.size){c:Call}{x y:Operand}(ho:o.op=.call c)(hc:c.callee=.builtin .append)(fi:c.args.toList=[x,y])(bN:c.argTypes.toList=[t,tx])
  {k5 ky kw:Wk}{G3:Gh}{WA WB:St}{lS nJ:Option Nat}{xs ys:List (List T)}{lC:Bool}{r:Lf}(w3:dy M B d up ρ G a w ky G3)(arF:lL k5 ky (WB++WA))(jS:k5.ct.i%2=0)(hM:¬M k5.ct.i)
  (vM:(lS=none∧WA=[]∧a.eval x=.slice none 0 0∧xs=[])∨∃i,lS=some i∧WA=[(.o i,.un)]∧M i∧i%4≠2∧a.eval x=G3.H i []∧fg G3 w i lC [] (.l xs))
  (SK:(WB=[]∧nJ=none)∨∃i,nJ=some i∧WB=[(.o i,.un)]∧WA.look (.o i)=none∧M i)
  (acq:okW te.sz xs=true)(bE:xs.length+ys.length<wJ){cv:Nat->Nat->Value}{e':TypeId}(pK:Src P te.sz tx (a.eval y) ys.length (tq cv te.sz ys.length) w)(hwy:∀r∈ys,r.length=te.sz)
  (nD:FM G3 w lC nJ ys cv)(hr:r.fN ρ=some (.l (xs++ys)))(SC:∀r',kw.w.look r'=(St.look ((.o k5.ct.i,.ob lC r)::(WB++WA)) r').or (ky.w.look r')):
  bT P (Mn M k5.ct.i (k5.ct.i+1)) B d up ρ a w s o (b9 d o kw (.v false [.o k5.ct.i []])).w Q:=by
 have hT:=dW.ty _ _ fQ
 have hE:=dW.ty _ _ tX
 obtain⟨i,z,wV,l_,ED,IW,zR⟩:=hE.info
 have hu:=hT.sl iC
 have CP:z.cells.size=te.sz:=by
  have:=(J8 (G:=G) (w:=w) (ρ:=ρ) zR).1.length
  rw[hE.Fz]at this
  simpa using this.symm
 have nI:∀b l,G3.ω b=some l->b<w.heap.size:=λb l hb=>(w3.rel.iO b l hb).2
 obtain⟨P5,b0,vL,Kv,jL⟩:∃(P5:Nat->Nat->Value) (b0:Option Nat),Kr w te.sz (a.eval x) xs.length b0 P5∧(∀b,b0=some b->∃j,lS=some j∧G3.ω b=some (.o j [])∧j%4≠2)∧
   (xs=[]∨∃j,lS=some j∧rR G3 w j lC te.sz 0 xs P5):=by
  rcases vM with⟨rfl,_,hv,rfl⟩|⟨j,rfl,_,_,zY,hv,bQ⟩
  ·exact⟨λ_ _=>undef,none,.inl ⟨hv,rfl,rfl⟩,λb hb=>(by cases hb),.inl rfl⟩
  ·obtain⟨P5,b0,h1,h2,h3⟩:=acj bQ hv acq
   exact⟨P5,b0,h1,λb hb=>⟨j,rfl,h2 b hb,zY⟩,.inr ⟨j,rfl,h3⟩⟩
 obtain⟨v',w',nb,eV,oY⟩:=ab' (P:=P) (w:=w) (ty:=o.type) hu wV IW l_ CP iE (by rw[ED];exact hby) vL pK bE
 have iW:(execOp a.eval o).run P w=.ok (.value v') w':=by
  refine R9 ho hc ?_
  have hA:c.args=#[x,y]:=Array.ext' fi
  have hB:c.argTypes=#[t,tx]:=Array.ext' bN
  rw[hA,hB]
  show Sem.run P (do let v <-Builtin.append_ #[t,tx] o.type (#[x,y].map a.eval);pure (Next.value v)) w=_
  rw[Sem.run_bind]
  simp only[List.map_toArray,List.map_cons,List.map_nil]
  rw[eV];rfl
 have hv':∃a m c,v'=.slice a m c:=by
  rcases oY.row with⟨_,rfl,_⟩|⟨b,cap,_,_,_,rfl,_⟩<;>exact⟨_,_,_,rfl⟩
 have xJ:∀c,nb=some c->c=w.heap.size∨∃j,lS=some j∧G3.ω c=some (.o j [])∧j%4≠2:=by
  intro c hc
  rcases(oY.at_ c hc).1 with h1|h1
  ·exact .inl h1
  ·exact .inr (Kv c h1)
 have acs:∀j,nJ=some j->lS≠some j:=by
  intro j hj he
  rcases SK with⟨_,h1⟩|⟨j',h1,_,h2,_⟩
  ·rw[hj]at h1;cases h1
  ·rw[hj]at h1
   cases h1
   rcases vM with⟨h3,_⟩|⟨j'',h3,h4,_⟩
   ·rw[he]at h3;cases h3
   ·rw[he]at h3
    cases h3
    rw[h4,wS]at h2
    simp at h2
 have FN:∀r u,(WB++WA).look r=some u->∃j,r=.o j∧u=.un∧M j:=by
  intro r u xM
  rw[nC]at xM
  rcases SK with⟨rfl,_⟩|⟨j,_,rfl,_,hm⟩
  ·simp only[St.look,Option.none_or]at xM
   rcases vM with⟨_,rfl,_⟩|⟨j',_,rfl,Bo,_⟩
   ·cases xM
   ·rcases j8 xM with⟨e1,e2⟩|hl
    ·exact⟨j',e1,e2,Bo⟩
    ·cases hl
  ·cases hl:St.look [(bD.o j,SV.un)] r with
   |some u'=>
    rw[hl]at xM
    simp only[Option.some_or,bF]at xM
    subst xM
    rcases j8 hl with⟨e1,e2⟩|hl
    ·exact⟨j,e1,e2,hm⟩
    ·cases hl
   |none=>
    rw[hl]at xM
    simp only[Option.none_or]at xM
    rcases vM with⟨_,rfl,_⟩|⟨j',_,rfl,Bo,_⟩
    ·cases xM
    ·rcases j8 xM with⟨e1,e2⟩|hl
     ·exact⟨j',e1,e2,Bo⟩
     ·cases hl
 have CU:∀j,lS=some j->(WB++WA).look (.o j)≠none:=by
  intro j hj
  rcases vM with⟨h1,_⟩|⟨j',h1,rfl,_⟩
  ·rw[hj]at h1;cases h1
  ·rw[hj]at h1
   cases h1
   rw[nC,wS]
   intro e
   have:=(Option.or_eq_none_iff.1 e).2
   simp at this
 have Kw:∀j,nJ=some j->(WB++WA).look (.o j)≠none:=by
  intro j hj
  rcases SK with⟨_,h1⟩|⟨j',h1,rfl,_⟩
  ·rw[hj]at h1;cases h1
  ·rw[hj]at h1
   cases h1
   rw[nC,wS]
   intro e
   have:=(Option.or_eq_none_iff.1 e).1
   simp at this
 let kk:Wk:={ky with ct:=k5.ct}
 have wk:dy M B d up ρ G a w kk G3:=⟨w3.rel,w3.bp⟩
 refine FL (k:=kk) (nb:=nb) (f:=uU lS nJ k5.ct.i xs.length) (Hn:=uh G3 lS nJ xs.length v') (oU:=Ku hv') (W1:=WB++WA) (y:=r) (t:=.l (xs++ys)) (v:=v') (w':=w') (dp:=lC)
  h wk hn hM SC (λr u hu=>by obtain⟨j,e1,e2,e3⟩:=FN r u hu;subst e2;exact⟨j,e1,trivial,e3,λi hi=>by simp[dt]at hi⟩) (λl hl=>?_) (λl l' ⟨b,hb⟩ he=>?_) (Kt jS) (λc hc=>?_) oY.size (λc hc=>(oY.at_ c hc).2) (λb hb dI=>oY.oth b hb dI) oY.so rfl hr ?_ iW
 ·cases l with
  |f=>rfl
  |x b=>rfl
  |o j p=>
   have:=hl j p rfl
   have h1:lS≠some j:=λe=>CU j e this
   have h2:nJ≠some j:=λe=>Kw j e this
   simp[uU,h1,h2]
 ·rcases acn he with h1|h1
  ·rw[h1];exact .inl (w3.rel.iO b _ hb).1
  ·exact .inr h1
 ·rcases xJ c hc with h1|⟨j,h1,h2,h3⟩
  ·exact .inl h1
  ·exact .inr ⟨j,h2,CU j h1,h3⟩
 ·have qK:rR (G3.bY nb k5.ct.i (uU lS nJ k5.ct.i xs.length) (uh G3 lS nJ xs.length v') (Ku hv')) w' k5.ct.i lC te.sz xs.length ys cv:=
   acm (w:=w) nD (λj hj=>acs j hj) hwy xJ jS nI oY.size oY.oth
  have Z3:rR (G3.bY nb k5.ct.i (uU lS nJ k5.ct.i xs.length) (uh G3 lS nJ xs.length v') (Ku hv')) w' k5.ct.i lC te.sz 0 xs P5:=by
   rcases jL with rfl|⟨j,rfl,zS⟩
   ·exact⟨λr hr=>(by cases hr),λ_ _ _ h=>(by simp[dP]at h),λ_ _ _ h=>(by simp[dP]at h),λ_ _ _ h=>(by simp[dP]at h),λ_ _ _ h=>(by simp[dP]at h)⟩
   ·have zY:j%4≠2:=by
     rcases vM with⟨h1,_⟩|⟨i',h1,_,_,h2,_⟩
     ·cases h1
     ·cases h1;exact h2
    refine ack (w:=w) zS (Nat.le_refl _) (λc hc=>?_) zY jS nI oY.size oY.oth
    rcases xJ c hc with h1|⟨j',h1,h2,_⟩
    ·exact .inl h1
    ·cases h1;exact .inr h2
  rcases oY.row with⟨rfl,Z4,zZ,hm0⟩|⟨b,cap,arr,elem,rfl,Z4,SL,yW,hle,FE,g1,g2⟩
  ·have e1:xs++ys=[]:=by rw[List.eq_nil_of_length_eq_zero zZ,List.eq_nil_of_length_eq_zero hm0];rfl
   rw[e1]
   exact .nil (by simp[Gh.bY,uh,Z4,kk])
  ·refine Z3.join qK (by simp only[Gh.bY,if_true,uh];exact Z4) ⟨hle,λhe=>FE (by have:=congrArg List.length he;simpa using this)⟩ (by simp[Gh.bY]) SL yW g1 g2
end
theorem SM{us:List (List T)}{n k:Nat}(h:n+k<=us.length):(Bl us n k).length=us.length:=by
 simp only[Bl,List.length_append,List.length_take,List.length_replicate,List.length_drop];omega
theorem SN{us:List (List T)}{n k i:Nat}{r:List T}(h:n+k<=us.length)(hg:(Bl us n k)[i]?=some r)(hr:r≠[]):us[i]?=some r∧(i<n∨n+k<=i):=by
 unfold Bl at hg
 by_cases h1:i<n
 ·rw[List.append_assoc,List.getElem?_append_left (by rw[List.length_take];omega),List.getElem?_take,if_pos h1]at hg
  exact⟨hg,.inl h1⟩
 ·rw[List.append_assoc,List.getElem?_append_right (by rw[List.length_take];omega)]at hg
  have hl:(us.take n).length=n:=by rw[List.length_take];omega
  rw[hl]at hg
  by_cases h2:i<n+k
  ·rw[List.getElem?_append_left (by rw[List.length_replicate];omega),List.getElem?_replicate]at hg
   split at hg
   ·cases hg;exact absurd rfl hr
   ·cases hg
  ·rw[List.getElem?_append_right (by rw[List.length_replicate];omega),List.length_replicate,List.getElem?_drop]at hg
   rw[show n+k+(i-n-k)=i by omega]at hg
   exact⟨hg,.inr (by omega)⟩
theorem SO{us:List (List T)}{n k i:Nat}(h:n+k<=us.length)(hf:tL us n k=true)(hi:i<k):∃r,us[n+i]?=some r∧r≠[]:=by
 have bE:n+i<us.length:=by omega
 refine⟨us[n+i],List.getElem?_eq_getElem bE,λhe=>?_⟩
 have hm:us[n+i]∈(us.drop n).take k:=by
  refine List.mem_of_getElem? (i:=i) ?_
  rw[List.getElem?_take,if_pos hi,List.getElem?_drop]
  exact List.getElem?_eq_getElem bE
 have:=List.all_eq_true.1 hf _ hm
 rw[he]at this
 cases this
theorem acu{m lo y r:T}(h:Prim.ev .gy [m,lo,y]=some r):∃us kk n ys,m=.l us∧lo=.c (.int kk n)∧0<=n∧y=.l ys∧n.toNat+ys.length<=us.length∧tL us n.toNat ys.length=true∧r=.l (Bl us n.toNat ys.length):=by
 cases m with
 |c v=>simp[Prim.ev]at h
 |l us=>
  cases lo with
  |l _=>simp[Prim.ev]at h
  |c v=>
   cases v with
   |int kk n=>
    cases y with
    |c _=>simp[Prim.ev]at h
    |l ys=>
     simp only[Prim.ev]at h
     split at h
     ·split at h
      ·split at h
       ·cases h
        exact⟨us,kk,n,ys,rfl,rfl,by assumption,rfl,by assumption,by assumption,rfl⟩
       ·cases h
      ·cases h
     ·cases h
   |_=>cases y<;>simp[Prim.ev]at h
section
variable {M M':Nat->Prop} {B:eT} {d:Nat} {up:Nat->Nat->Value} {ρ:List T} {G:Gh} {a:Act} {w:World} {S:Nat->aB} {P:Program} {s:St}
theorem Rel.SP(h:Rel M B d up s ρ G a w){G':Gh}{W:St}{N:Nat->Prop}(k:dA (qC W) N G w G' w)(hN:∀i,N i->¬M i)(hM:∀i,M i->M' i)
  (hW:∀r u,W.look r=some u->∃i,r=.o i∧cM G' w ρ i u∧M' i∧∀j∈dt u,M' j)(iO:∀b l,G'.ω b=some l->M' l.id∧b<w.heap.size):Rel M' B d up (s.fw W) ρ G' a w:=by
 have ha:a.put none undef=a:=rfl
 rw[<-ha]
 refine h.step (v:=undef) k hN hM (λn hn=>by cases hn) ⟨rfl,rfl,rfl⟩ ⟨λe n u _ hl=>?_,λb u hl=>?_,λi u hl=>?_,λr u hl j hj=>?_,λi hi=>?_,iO⟩
 ·obtain⟨i,e1,_⟩:=hW _ _ hl;cases e1
 ·obtain⟨i,e1,_⟩:=hW _ _ hl;cases e1
 ·obtain⟨j,e1,e2,_⟩:=hW _ _ hl;cases e1;exact e2
 ·obtain⟨i,_,_,_,e4⟩:=hW _ _ hl;exact e4 j hj
 ·rcases hi with hi|hi
  ·obtain⟨u,hu⟩:=Option.ne_none_iff_exists'.1 hi
   obtain⟨j,e1,_⟩:=hW _ _ hu;cases e1
  ·obtain⟨u,hu⟩:=Option.ne_none_iff_exists'.1 hi
   obtain⟨j,e1,_,e3,_⟩:=hW _ _ hu;cases e1;exact e3
def Gh.gC(G:Gh)(tk j n k:Nat):Gh where
 ω:=λb=>match G.ω b with
  |some (.o i ((r,c)::p))=>if i=tk∧n<=r∧r<n+k then some (.o j ((r-n,c)::p))else some (.o i ((r,c)::p))
  |l=>l
 β:=G.β
 H:=λi p=>if i=j then(match p with| []=>G.H j []|(r,c)::p=>G.H tk ((n+r,c)::p))else G.H i p
 hs:=λi p=>by
  by_cases h:i=j
  ·subst h
   cases p with
   |nil=>simp only[if_true];exact G.hs i []
   |cons x p=>obtain⟨r,c⟩:=x;simp only[if_true];exact G.hs tk _
  ·simp only[h,if_false];exact G.hs i p
theorem acv{tk j n k:Nat}(h4:j%4=0){I:Lb->Prop}(hI:∀p,I (.o tk p))(hJ:∀p,I (.o j p)):dA I (λ_=>False) G w (G.gC tk j n k) w:=by
 refine⟨Nat.le_refl _,λb _ hb=>⟨vA hb (λh0=>by simp[Gh.gC,h0]) λl hl hq=>?_,rfl⟩,λb _ hb=>by simp[Gh.gC,hb],λb l hl hn=>⟨?_,rfl⟩,λi _=>⟨rfl,λp hp=>?_⟩⟩
 ·cases l with
  |o i p=>
   cases p with
   |nil=>exact .inr ⟨_,by simp[Gh.gC,hl],hq⟩
   |cons x p=>
    obtain⟨r,c⟩:=x
    simp only[Gh.gC,hl]
    split
    ·exact .inr ⟨_,rfl,xE (by omega) (by simp)⟩
    ·exact .inr ⟨_,rfl,hq⟩
  |_=>simp[qt]at hq
 ·cases l with
  |o i p=>
   cases p with
   |nil=>simp[Gh.gC,hl]
   |cons x p=>
    obtain⟨r,c⟩:=x
    have:i≠tk:=λe=>hn (e▸hI _)
    simp[Gh.gC,hl,this]
  |_=>simp[Gh.gC,hl]
 ·by_cases hi:i=j
  ·subst hi
   rcases hp with rfl|hp|hp
   ·simp[Gh.gC]
   ·exact absurd h4 hp
   ·exact absurd (hJ []) (hp [])
  ·simp[Gh.gC,hi]
theorem acw{kA EG kx:Wk}{G1:Gh}{WA:St}{Y:SV}(hk:dy M B d up ρ G a w kx G1)(ho:lL kA kx WA)(vM:∀r u,WA.look r=some u->u=.un)
  (h:kA.gC Y=some EG)(hd:EG.bJ S ρ):
  kA.bJ S ρ∧EG.ct.i=kA.ct.i∧∃EH G2,dy M B d up ρ G a w EH G2∧lL EG EH WA∧dA (λl=>∃i p,l=.o i p∧WA.look (.o i)=none) (λ_=>False) G1 w G2 w∧∀i,G2.H i []=G1.H i []:=by
 unfold Wk.gC at h
 split at h
 ·rename_i j
  split at h
  ·rename_i tk x0 lo y hj
   split at h
   ·rename_i y0 m EI
    cases hc:(x0.beq y0&&Nat.beq (j%4) 0)with
    |false=>simp[hc]at h
    |true=>
     simp only[hc,cond_true,bF]at h
     simp only[bI]at hc
     have Kx:=Lf.beq_eq hc.1
     subst Kx
     have hj4:j%4=0:=dU hc.2
     subst h
     have dB:∀{i:Nat} {u:SV},kA.get (.o i)=u->u≠.un->WA.look (.o i)=none:=by
      intro i u hu dI
      cases hl:WA.look (.o i)with
      |none=>rfl
      |some u'=>
       exfalso
       have:=vM _ _ hl
       subst this
       refine dI ?_
       rw[<-hu]
       unfold Wk.get
       rw[ho.2,hl];simp
     have Z5:=dB hj (by simp)
     have rl:=dB EI (by simp)
     have fI:(kA.em .gy [m,lo,y]).1.bJ S ρ:=hd
     obtain⟨FO,r,hr,m_⟩:=Wk.bV fI
     have obj:=hk.obj j
     have SQ:=hk.obj tk
     rw[<-ho.get Z5,hj]at obj
     rw[<-ho.get rl,EI]at SQ
     obtain⟨t,ht,eb,h2,F,n,zs,hF,pJ,rfl,CP,vF,_⟩:=obj
     obtain⟨_,F',u,SR,hu,hlen,nD⟩:=SQ
     rw[hF]at SR
     cases SR
     simp only[List.map_cons,List.map_nil,Lf.bU ht,Lf.bU hu]at hr
     obtain⟨us,kk,n',ys,e1,e2,h0,e3,hle,sE,rfl⟩:=acu hr
     cases e1
     cases e3
     have gO:n'.toNat=n:=by
      unfold mY at pJ
      split at pJ
      ·rename_i k2 n2 tc
       have:=Lf.bU tc
       rw[this]at e2
       cases e2
       rw[if_pos h0]at pJ
       exact Option.some.inj pJ
      ·cases pJ
     rw[gO]at hle sE m_
     have hjt:j≠tk:=by omega
     let EH:Wk:={kx with w:=(kx.w.set (.o tk) (.tk x0 (kA.em .gy [m,lo,y]).2)).set (.o j) (.fr y)}
     let G2:=G1.gC tk j n zs.length
     have key:∀i p,(i=tk∨i=j)->qC [(bD.o j,SV.fr y),(bD.o tk,SV.tk x0 (kA.em .gy [m,lo,y]).2)] (.o i p):=by
      intro i p hi
      show St.look _ (bD.o i)≠none
      rcases hi with rfl|rfl
      ·simp only[St.look]
       cases(bD.o j).beq (.o i)<;>simp[(bD.beq_iff (r:=bD.o i)).2 rfl]
      ·simp[St.look,(bD.beq_iff (r:=bD.o i)).2 rfl]
     have K:dA (qC [(bD.o j,SV.fr y),(bD.o tk,SV.tk x0 (kA.em .gy [m,lo,y]).2)]) (λ_=>False) G1 w G2 w:=
      acv hj4 (λp=>key tk p (.inl rfl)) λp=>key j p (.inr rfl)
     have Mj:M j:=hk.rel.key j (.inr (by rw[<-Wk.a_,<-ho.get Z5,hj];simp))
     have Mt:M tk:=hk.rel.key tk (.inr (by rw[<-Wk.a_,<-ho.get rl,EI];simp))
     have rel:=hk.rel.SP (M':=M) K (λi hf=>hf.elim) (λi hi=>hi) (λr u' hl=>by
      rcases j8 hl with⟨e1,e2⟩|hl
      ·subst e1 e2
       refine⟨j,rfl,?_,Mj,λi hi=>by simp[dt]at hi⟩
       refine⟨hj4,zs,ht,?_,?_,λi c l' bN=>?_⟩
       ·have:G2.H j []=G1.H j []:=by simp[G2,Gh.gC]
        rw[this];exact eb.bp K.size K.free
       ·have:G2.H j []=G1.H j []:=by simp[G2,Gh.gC]
        rw[this]
        intro b off k2 c2 hv
        obtain⟨wd,w1,w2⟩:=vF b off k2 c2 hv
        refine⟨wd,w1,λi c l' bN=>?_⟩
        rw[w2 i c l' bN]
        simp[G2,Gh.gC]
       ·obtain⟨row,gR,_,tv,Sn,_⟩:=yN bN
        obtain⟨r',qF,sC⟩:=SO hle sE Sn
        obtain⟨g1,g2⟩:=nD _ _ qF sC
        rw[CP i row gR]at g1
        cases g1
        refine(g2 c l' tv).move rfl (λb q hb=>⟨?_,rfl⟩) λq=>?_
        ·simp only[List.cons_append,List.nil_append]at hb⊢
         simp only[G2,Gh.gC,hb]
         rw[if_pos (by refine⟨?_,?_,?_⟩<;>first|trivial|omega),show n+i-n=i by omega]
        ·simp[G2,Gh.gC]
      ·rcases j8 hl with⟨e1,e2⟩|hl
       ·subst e1 e2
        refine⟨tk,rfl,⟨h2,F,_,hF,m_,by rw[SM hle];exact hlen,λi r hg dI=>?_⟩,Mt,λi hi=>by simp[dt]at hi⟩
        obtain⟨g1,g2⟩:=SN hle hg dI
        obtain⟨g3,g4⟩:=nD i r g1 dI
        refine⟨g3,λc l' tv=>(g4 c l' tv).move rfl (λb q hb=>⟨?_,rfl⟩) λq=>?_⟩
        ·simp only[List.cons_append,List.nil_append]at hb⊢
         simp only[G2,Gh.gC,hb]
         rw[if_neg (by omega)]
        ·simp[G2,Gh.gC,Ne.symm hjt]
       ·cases hl) λb l hb=>by
      cases hg:G1.ω b with
      |none=>simp[G2,Gh.gC,hg]at hb
      |some l0=>
       have vP:=hk.rel.iO b l0 hg
       refine⟨?_,vP.2⟩
       cases l0 with
       |o i p=>
        cases p with
        |nil=>simp[G2,Gh.gC,hg]at hb;subst hb;exact vP.1
        |cons x p=>
         obtain⟨r,c⟩:=x
         simp only[G2,Gh.gC,hg]at hb
         split at hb
         ·cases hb;exact Mj
         ·cases hb;exact vP.1
       |_=>simp[G2,Gh.gC,hg]at hb;subst hb;exact vP.1
     have hgx:∀r,(kx.r.fw EH.w).get r=((kx.r.fw kx.w).fw [(bD.o j,SV.fr y),(bD.o tk,SV.tk x0 (kA.em .gy [m,lo,y]).2)]).get r:=by
      intro r
      show(kx.r.fw ((kx.w.set (.o tk) _).set (.o j) _)).get r=_
      rw[IK]
      simp only[St.fw]
      by_cases h1:bD.o j=r
      ·subst h1;rw[St.cq,St.cq]
      ·rw[St.ei _ _ h1,St.ei _ _ h1,IK]
     have look:∀(K0:Wk) (v1 v2:SV) (r:bD),((K0.w.set (.o tk) v1).set (.o j) v2).look r=if bD.o j=r then some v2 else if bD.o tk=r then some v1 else K0.w.look r:=by
      intro K0 v1 v2 r
      by_cases h1:bD.o j=r
      ·subst h1;rw[if_pos rfl,St.bB]
      ·rw[if_neg h1,St.cG _ _ h1]
       by_cases h2:bD.o tk=r
       ·subst h2;rw[if_pos rfl,St.bB]
       ·rw[if_neg h2,St.cG _ _ h2]
     refine⟨FO,rfl,EH,G2,⟨rel.congr hgx,?_⟩,⟨ho.1,λr=>?_⟩,K.mono ?_ λ_ hf=>hf,λi=>?_⟩
     ·refine(hk.bp.mono (λl hl=>?_) λ_ hf=>hf).trans (K.mono (λl hl=>?_) λ_ hf=>hf)
      ·exact IJ (IJ hl)
      ·cases l with
       |o i p=>
        show((kx.w.set (.o tk) _).set (.o j) _).look (.o i)≠none
        rw[look]
        split
        ·simp
        ·split
         ·simp
         ·rename_i h1 h2
          exfalso
          refine hl ?_
          simp only[St.look]
          have b1:(bD.o j).beq (.o i)=false:=by
           cases hb:(bD.o j).beq (.o i)with
           |false=>rfl
           |true=>exact absurd (bD.beq_iff.1 hb) h1
          have b2:(bD.o tk).beq (.o i)=false:=by
           cases hb:(bD.o tk).beq (.o i)with
           |false=>rfl
           |true=>exact absurd (bD.beq_iff.1 hb) h2
          simp[b1,b2]
       |f=>exact hl.elim
       |x b=>exact absurd rfl (by exact hl)
     ·show(((kA.em .gy [m,lo,y]).1.w.set (.o tk) _).set (.o j) _).look r=(WA.look r).or (((kx.w.set (.o tk) _).set (.o j) _).look r)
      rw[look (kA.em .gy [m,lo,y]).1,look kx]
      by_cases h1:bD.o j=r
      ·subst h1;simp[Z5]
      ·rw[if_neg h1,if_neg h1]
       by_cases h2:bD.o tk=r
       ·subst h2;simp[rl]
       ·rw[if_neg h2,if_neg h2];exact ho.2 r
     ·intro l hl
      cases l with
      |o i p=>
       refine⟨i,p,rfl,?_⟩
       have hh:i=j∨i=tk:=by
        by_cases h1:i=j
        ·exact .inl h1
        ·by_cases h2:i=tk
         ·exact .inr h2
         ·exfalso
          refine hl ?_
          have b1:(bD.o j).beq (.o i)=false:=by
           cases hb:(bD.o j).beq (.o i)with
           |false=>rfl
           |true=>have:=bD.beq_iff.1 hb;cases this;exact absurd rfl h1
          have b2:(bD.o tk).beq (.o i)=false:=by
           cases hb:(bD.o tk).beq (.o i)with
           |false=>rfl
           |true=>have:=bD.beq_iff.1 hb;cases this;exact absurd rfl h2
          simp[St.look,b1,b2]
       rcases hh with rfl|rfl
       ·exact Z5
       ·exact rl
      |f=>exact hl.elim
      |x b=>exact absurd rfl hl
     ·by_cases hi:i=j
      ·subst hi;simp[G2,Gh.gC]
      ·simp[G2,Gh.gC,hi]
   ·cases h
  ·cases h
 ·cases h
end
section
variable {M:Nat->Prop} {B:eT} {d:Nat} {up:Nat->Nat->Value} {ρ:List T} {G:Gh} {a:Act} {w:World} {S:Nat->aB} {P:Program}
variable {cx:Cx} {cV ft oi:Nat} {s:St} {R:List bD} {ct:Ct} {k':Wk} {o:Oper} {Q:Exit->Act->World->Prop}
theorem acx(dW:ew P cx)(h:Rel M B d up s ρ G a w)(hn:∀n,o.dst=some n->n<a.tmps.size){c:Call}{x y:Operand}(ho:o.op=.call c)(hc:c.callee=.builtin .append)(fi:c.args.toList=[x,y])
  (hk:jm cx cV ft d o oi ⟨s.only R,[],ct,[]⟩=some k')(hd:k'.bJ S ρ)(hM:∀i,ct.i<=i->i<k'.ct.i->¬M i):bT P (Mn M ct.i k'.ct.i) B d up ρ a w s o k'.w Q:=by
 have hw:=dy.start h R ct
 simp only[jm,ho,hc,fi]at hk
 split at hk
 ·rename_i t tx bN
  simp only[cN]at hk
  obtain⟨ti,fQ,tj,htj,te,tX,hk⟩:=hk
  cases IZ:(Nat.beq ti.kd 3&&Nat.beq tj.kd 3&&Nat.ble te.bytes 32768&&Nat.blt 0 te.sz)with
  |false=>simp[IZ]at hk
  |true=>
   simp only[IZ,cond_true,cN,bF]at hk
   simp only[bI]at IZ
   obtain⟨⟨⟨c1,c2⟩,c3⟩,c4⟩:=IZ
   obtain⟨⟨kA,la,IY⟩,hA,⟨kB,lb,EE⟩,hB,hk⟩:=hk
   simp only at hB hk
   have iE:0<te.sz:=Nat.lt_of_succ_le (by simpa[Nat.blt]using c4)
   have cO:b9 d o {(kB.em (.app (!te.zero.any fJ) te.sz) [la,lb]).1.set (.o (fe kB.ct.i)) (.ob (IY&&EE) (kB.em (.app (!te.zero.any fJ) te.sz) [la,lb]).2)with
     ct:=⟨(kB.em (.app (!te.zero.any fJ) te.sz) [la,lb]).1.ct.a,fe kB.ct.i+1⟩} (.v false [.o (fe kB.ct.i) []])=k':=hk
   have fI:(kB.em (.app (!te.zero.any fJ) te.sz) [la,lb]).1.bJ S ρ:=by
    rw[<-cO]at hd
    have h2:=cX.1 hd
    exact h2
   obtain⟨hdB,r,hr,m_⟩:=Wk.bV fI
   obtain⟨q1,q2,kx,G2,WA,xs,wA,arI,Ky,hla,vM⟩:=acd (lC:=IY&&EE) hw (hw.jc x).1 (hw.jc x).2 hA (λhe=>by simp at he;exact he.1)
   have SS:∀r u,WA.look r=some u->u=.un:=by
    intro r u hu
    rcases vM with⟨_,_,rfl⟩|⟨j,rfl,_⟩
    ·cases hu
    ·rcases j8 hu with⟨_,e2⟩|hl
     ·exact e2
     ·cases hl
   have hB0:∃EG,kA.xl (te.zero.any fJ&& !cx.fz cV ft oi) (cz d (Wk.get ⟨s.only R,[],ct,[]⟩) y)=EG:=⟨_,rfl⟩
   obtain⟨EG,CV⟩:=hB0
   rw[CV]at hB
   have acy:EG.bJ S ρ:=ace hB hdB
   obtain⟨q1',kx,G2,wA,Ky,vM⟩:EG.ct.i=kA.ct.i∧∃EH P1,dy M B d up ρ G a w EH P1∧lL EG EH WA∧
     ((a.eval x=.slice none 0 0∧xs=[]∧WA=[])∨∃lS,WA=[(.o lS,.un)]∧M lS∧lS%4≠2∧a.eval x=P1.H lS []∧fg P1 w lS (IY&&EE) [] (.l xs)):=by
    unfold Wk.xl at CV
    split at CV
    ·rename_i kz hz
     subst CV
     have SU:kA.gC (cz d (Wk.get ⟨s.only R,[],ct,[]⟩) y)=some kz:=by
      cases hb:(te.zero.any fJ&& !cx.fz cV ft oi)with
      |true=>rw[hb]at hz;exact hz
      |false=>rw[hb]at hz;cases hz
     obtain⟨_,g2,EH,P1,g3,g4,g5,g6⟩:=acw wA Ky SS SU acy
     refine⟨g2,EH,P1,g3,g4,vM.imp_right ?_⟩
     rintro⟨j,e1,e2,e3,e4,e5⟩
     subst e1
     refine⟨j,rfl,e2,e3,by rw[g6];exact e4,e5.bp g5 (λp hp=>?_) λhf=>hf⟩
     obtain⟨i',p',f1,f2⟩:=hp
     cases f1
     rw[wS]at f2
     simp at f2
    ·subst CV
     exact⟨rfl,kx,G2,wA,Ky,vM⟩
   have hy:cL G2 w ρ (cz d (Wk.get ⟨s.only R,[],ct,[]⟩) y) (a.eval y):=(hw.jc y).1.bp wA.bp λ_ _ hf=>hf
   obtain⟨_,p2,ky,G3,WB,t2,nJ,wB,Kz,SK,hlb,Ss,kp,_,pK⟩:=acf (lC:=IY&&EE) (P:=P) wA Ky SS hy (hw.jc y).2 hB hdB (λhe=>by simp at he;exact he.2)
   simp only[List.map_cons,List.map_nil,Lf.bU hla,Lf.bU hlb]at hr
   obtain⟨ys,rfl,bE,oM,KA,acz,rfl⟩:=aci hr
   have ug:=(dW.ty _ _ htj).sl (dU c2)
   obtain⟨cv,s1,s2,s3⟩:=pK ys te.sz tx tj.el rfl iE acz (λhf=>oM (by rw[hf];rfl)) ug
   have lA:kB.ct.i=ct.i:=by rw[p2,q1',q1]
   have qU:k'.ct.i=fe ct.i+1:=by rw[<-cO,oL,<-lA]
   have jS:=Cg ct.i
   rw[qU,<-cO,<-lA]
   refine bT.mono (M:=Mn M (fe kB.ct.i) (fe kB.ct.i+1)) ?_ (λi hi=>hi.imp_right λhi=>by rw[lA]at hi⊢;exact⟨by omega,hi.2⟩)
   refine aco (k5:={(kB.em (.app (!te.zero.any fJ) te.sz) [la,lb]).1 with ct:=⟨(kB.em (.app (!te.zero.any fJ) te.sz) [la,lb]).1.ct.a,fe kB.ct.i⟩}) (lS:=WA.head?.bind λz=>match z.1 with| .o j=>some j|_=>none) (WA:=WA) (WB:=WB) (G3:=G3) dW fQ htj tX (dU c1) (dU c2) (Nat.le_of_ble_eq_true c3) iE
    h hn ho hc fi bN wB ⟨(Kz.same (Wk.bM kB (.app (!te.zero.any fJ) te.sz) [la,lb])).1,(Kz.same (Wk.bM kB (.app (!te.zero.any fJ) te.sz) [la,lb])).2⟩ (SJ _) (hM _ (by show ct.i<=fe kB.ct.i;rw[lA];exact jS) (by rw[qU];show fe kB.ct.i<_;rw[lA];omega)) ?_ SK KA bE (e':=tj.el) s1 s2 s3 m_ (λr'=>?_)
   ·rcases vM with⟨e1,e2,e3⟩|⟨j,e1,e2,e22,e3,e4⟩
    ·left
     subst e3
     exact⟨rfl,rfl,e1,e2⟩
    ·right
     subst e1
     refine⟨j,rfl,rfl,e2,e22,by rw[Ss];exact e3,e4.bp kp (λp hp=>?_) λhf=>hf⟩
     obtain⟨i',p',e5,e6⟩:=hp
     cases e5
     rw[wS]at e6
     simp at e6
   ·show((kB.em (.app (!te.zero.any fJ) te.sz) [la,lb]).1.w.set (.o (fe kB.ct.i)) _).look r'=_
    rw[show((kB.em (.app (!te.zero.any fJ) te.sz) [la,lb]).1.w.set (.o (fe kB.ct.i)) (.ob (IY&&EE) (kB.em (.app (!te.zero.any fJ) te.sz) [la,lb]).2)).look r'=_ from wT (k:=(kB.em (.app (!te.zero.any fJ) te.sz) [la,lb]).1) r']
    rw[show(Wk.w (kB.em (.app (!te.zero.any fJ) te.sz) [la,lb]).1).look r'=kB.w.look r' from rfl,Kz.2 r',<-Option.or_assoc]
    congr 1
    show _=St.look ((bD.o (fe kB.ct.i),_)::(WB++WA)) r'
    simp only[St.look]
    cases(bD.o (fe kB.ct.i)).beq r'<;>simp
 ·cases hk
def ui(ω:Nat->Option Lb)(w:World)(ρ:List T)(dp:Bool):List Ce->List Lf->List Value->Prop
 | [],[],[]=>True
 |z::zs,x::xs,v::vs=>(∃t,x.fN ρ=some t∧eP ω w t v∧(dp=true->fJ z=true->t=.l []∧v=.slice none 0 0))∧ui ω w ρ dp zs xs vs
 |_,_,_=>False
theorem ui.bp{ω xC:Nat->Option Lb}{w':World}(hs:w.heap.size<=w'.heap.size)(hf:∀b,b<w.heap.size->ω b=none->xC b=none∧w'.heap[b]?=w.heap[b]?){dp wL:Bool}(hd:wL=true->dp=true):
  ∀{zs:List Ce} {xs:List Lf} {vs:List Value},ui ω w ρ dp zs xs vs->ui xC w' ρ wL zs xs vs
 | [],[],[],_=>trivial
 |_::_,_::_,_::_,h=>by
  obtain⟨⟨t,h1,h2,h3⟩,h4⟩:=h
  exact⟨⟨t,h1,h2.bp hs hf,λe=>h3 (hd e)⟩,ui.bp hs hf hd h4⟩
 | [],[],_::_,h=>h.elim
 | [],_::_,_,h=>h.elim
 |_::_,[],_,h=>h.elim
 |_::_,_::_,[],h=>h.elim
theorem CW:∀{zs cs:List Ce} {vs:List Value} {k k1:Wk} {xs:List Lf} {dp:Bool} {G1:Gh},dy M B d up ρ G a w k G1->bn G1 w ρ cs vs->k.fK true zs cs=some (k1,xs,dp)->
  k1.ct=k.ct∧k1.is=k.is∧xs.length=zs.length∧∃G2,dy M B d up ρ G a w k1 G2∧G2.H=G1.H∧(∀b,G1.q b=none->G2.q b=none)∧ui G2.q w ρ dp zs xs vs
 | [],[],vs,k,k1,xs,dp,G1,hk,hr,h=>by
  simp only[Wk.fK,bF,Prod.mk.injEq]at h
  obtain⟨rfl,rfl,rfl⟩:=h
  cases vs with
  |nil=>exact⟨rfl,rfl,rfl,G1,hk,rfl,λ_ h=>h,trivial⟩
  |cons _ _=>exact hr.elim
 |z::zs,.p x::cs,vs,k,k1,xs,dp,G1,hk,hr,h=>by
  cases vs with
  |nil=>exact hr.elim
  |cons v vs=>
   simp only[Wk.fK,cN,bF,Prod.mk.injEq]at h
   obtain⟨⟨k2,ys,dp2⟩,h2,rfl,rfl,rfl⟩:=h
   obtain⟨e1,e2,e3,G2,w2,e4,e5,e6⟩:=CW hk hr.2 h2
   obtain⟨t,ht,hd⟩:=hr.1
   refine⟨e1,e2,by simp[e3],G2,w2,e4,e5,⟨t,ht,hd.bp (Nat.le_refl _) λb _ hb=>⟨e5 b hb,rfl⟩,λgN hz=>by simp[hz]at gN⟩,e6.bp (Nat.le_refl _) (λb _ hb=>⟨hb,rfl⟩) λgN=>by simp at gN;exact gN.1⟩
 |z::zs,.n::cs,vs,k,k1,xs,dp,G1,hk,hr,h=>by
  cases vs with
  |nil=>exact hr.elim
  |cons v vs=>
   simp only[Wk.fK,cN,bF,Prod.mk.injEq]at h
   obtain⟨⟨k2,ys,dp2⟩,h2,rfl,rfl,rfl⟩:=h
   obtain⟨e1,e2,e3,G2,w2,e4,e5,e6⟩:=CW hk hr.2 h2
   have hv:v=.slice none 0 0:=hr.1
   subst hv
   exact⟨e1,e2,by simp[e3],G2,w2,e4,e5,⟨.l [],rfl,.nil,λ_ _=>⟨rfl,rfl⟩⟩,e6⟩
 |z::zs,.o id []::cs,vs,k,k1,xs,dp,G1,hk,hr,h=>by
  cases vs with
  |nil=>exact hr.elim
  |cons v vs=>
   obtain⟨⟨p,hp,hv⟩,sC⟩:=hr
   simp only[nz,bF]at hp
   subst hp
   have ej:=hk.obj id
   simp only[Wk.fK]at h
   split at h
   ·rename_i pv x hx
    simp only[cN,bF,Prod.mk.injEq]at h
    obtain⟨⟨k2,ys,dp2⟩,h2,rfl,rfl,rfl⟩:=h
    obtain⟨e1,e2,e3,G2,w2,e4,e5,e6⟩:=CW hk sC h2
    rw[hx]at ej
    obtain⟨t,ht,hd,_⟩:=ej
    rw[<-hv]at hd
    exact⟨e1,e2,by simp[e3],G2,w2,e4,e5,⟨t,ht,hd.bp (Nat.le_refl _) λb _ hb=>⟨e5 b hb,rfl⟩,λgN=>by cases gN⟩,e6.bp (Nat.le_refl _) (λb _ hb=>⟨hb,rfl⟩) λgN=>by cases gN⟩
   ·rename_i dd x hx
    simp only[cond_true,cN,bF,Prod.mk.injEq]at h
    obtain⟨⟨k2,ys,dp2⟩,h2,rfl,rfl,rfl⟩:=h
    have EF:=hx
    rw[Wk.a_]at EF
    have wt:dy M B d up ρ G a w (k.set (.o id) (.fz .z x)) (G1.free id true):=by
     refine⟨(hk.rel.nl EF).congr (IK _ _ _ _),(hk.bp.mono (λl hl=>IJ hl) λ_ hn=>hn).trans ((G1.fy id true w).mono ?_ λ_ hn=>hn)⟩
     rintro l ⟨p,rfl⟩
     show(k.w.set _ _).look (.o id)≠none
     rw[St.bB];simp
    rw[hx]at ej
    obtain⟨t,ht,bQ⟩:=ej
    have hd:eP (G1.free id true).q w t v:=by rw[hv];exact bQ.yP
    have EA:bn (G1.free id true) w ρ cs vs:=sC.bp (G1.fy id true w) λ_ _ hf=>hf
    obtain⟨e1,e2,e3,G2,w2,e4,e5,e6⟩:=CW wt EA h2
    exact⟨e1,e2,by simp[e3],G2,w2,e4,λb hb=>e5 b (Gh.tU hb),⟨t,ht,hd.bp (Nat.le_refl _) λb _ hb=>⟨e5 b hb,rfl⟩,λgN=>by cases gN⟩,e6.bp (Nat.le_refl _) (λb _ hb=>⟨hb,rfl⟩) λgN=>by cases gN⟩
   ·cases h
 | [],_::_,vs,k,k1,xs,dp,G1,hk,hr,h=>by simp[Wk.fK]at h
 |_::_,[],vs,k,k1,xs,dp,G1,hk,hr,h=>by simp[Wk.fK]at h
 |z::zs,.o id (_::_)::cs,vs,k,k1,xs,dp,G1,hk,hr,h=>by simp[Wk.fK]at h
 |z::zs,.d::cs,vs,k,k1,xs,dp,G1,hk,hr,h=>by simp[Wk.fK]at h
theorem ui.at:∀{ω:Nat->Option Lb} {dp:Bool} {zs:List Ce} {xs:List Lf} {vs:List Value},ui ω w ρ dp zs xs vs->xs.length=vs.length∧zs.length=vs.length∧
  ∀(j:Nat) (t:T),(xs.map (Lf.ev ρ))[j]?=some t->∃z v,zs[j]?=some z∧vs[j]?=some v∧eP ω w t v∧(dp=true->fJ z=true->t=.l []∧v=.slice none 0 0)
 |_,_,[],[],[],_=>⟨rfl,rfl,λj t h=>by simp at h⟩
 |ω,dp,z::zs,x::xs,v::vs,h=>by
  obtain⟨⟨t,h1,h2,h3⟩,h4⟩:=h
  obtain⟨e1,e2,e3⟩:=ui.at h4
  refine⟨by simp[e1],by simp[e2],λj t' hj=>?_⟩
  cases j with
  |zero=>
   simp only[List.map_cons,List.getElem?_cons_zero,bF]at hj
   rw[Lf.bU h1]at hj
   subst hj
   exact⟨z,v,rfl,rfl,h2,h3⟩
  |succ j=>simpa using e3 j t' (by simpa using hj)
 |_,_,[],[],_::_,h=>h.elim
 |_,_,[],_::_,_,h=>h.elim
 |_,_,_::_,[],_,h=>h.elim
 |_,_,_::_,_::_,[],h=>h.elim
theorem bn.CX{G1:Gh}:∀{cs:List Ce} {vs:List Value},cs.length=vs.length->(∀(j:Nat) (c:Ce) (v:Value),cs[j]?=some c->vs[j]?=some v->gf G1 w ρ c v)->bn G1 w ρ cs vs
 | [],[],_,_=>trivial
 | [],_::_,h,_=>by simp at h
 |_::_,[],h,_=>by simp at h
 |c::cs,v::vs,h,hf=>⟨hf 0 c v rfl rfl,bn.CX (by simpa using h) λj c v h1 h2=>hf (j+1) c v (by simpa using h1) (by simpa using h2)⟩
theorem bn.get{G1:Gh}:∀{cs:List Ce} {vs:List Value},bn G1 w ρ cs vs->∀(j:Nat) (c:Ce) (v:Value),cs[j]?=some c->vs[j]?=some v->gf G1 w ρ c v
 | [],[],_,j,c,v,h,_=>by simp at h
 | [],_::_,h,_,_,_,_,_=>h.elim
 |_::_,[],h,_,_,_,_,_=>h.elim
 |c::cs,v::vs,h,j,_,_,h1,h2=>by
  cases j with
  |zero=>simp at h1 h2;subst h1 h2;exact h.1
  |succ j=>exact bn.get h.2 j _ _ (by simpa using h1) (by simpa using h2)
theorem FP(zs:List Ce):∀n,(oQ zs n).length=n*zs.length
 |0=>by simp[oQ]
 |n+1=>by simp[oQ,FP zs n,Nat.add_mul];omega
theorem SW(zs:List Ce):∀(n i j:Nat),i<n->j<zs.length->(oQ zs n)[i*zs.length+j]?=zs[j]?
 |0,i,j,h,_=>by omega
 |n+1,0,j,_,hj=>by simp only[oQ,Nat.zero_mul,Nat.zero_add];rw[List.getElem?_append_left hj]
 |n+1,i+1,j,h,hj=>by
  simp only[oQ]
  rw[List.getElem?_append_right (by rw[Nat.add_mul];omega),show(i+1)*zs.length+j-zs.length=i*zs.length+j by rw[Nat.add_mul];omega]
  exact SW zs n i j (by omega) hj
theorem SX{zs:List Ce}(h:dN zs=[]):∀n,dN (oQ zs n)=[]
 |0=>rfl
 |n+1=>by rw[oQ,J7,h,SX h n];rfl
theorem acB{k n sz:Nat}(h:k<n*sz):k/sz<n∧k%sz<sz∧(k/sz)*sz+k%sz=k:=by
 have iE:0<sz:=by
  rcases Nat.eq_zero_or_pos sz with h0|h0
  ·rw[h0]at h;omega
  ·exact h0
 exact⟨Nat.div_lt_of_lt_mul (by rw[Nat.mul_comm];exact h),Nat.mod_lt _ iE,by rw[Nat.mul_comm];exact Nat.div_add_mod k sz⟩
theorem acC{zs:List Ce}{z:Array Value}{G1:Gh}(h:bn G1 w ρ zs z.toList)(n:Nat):bn G1 w ρ (oQ zs n) (madeCells z (n*z.size)).toList:=by
 have hl:=h.length
 simp only[Array.length_toList]at hl
 refine bn.CX (by rw[FP,hl,Array.length_toList,size_madeCells]) λk c v hc hv=>?_
 have hk:k<n*z.size:=by have:=(List.getElem?_eq_some_iff.1 hc).1;rw[FP,hl]at this;exact this
 obtain⟨q1,q2,q3⟩:=acB hk
 have h1:=SW zs n _ _ q1 (by rw[hl];exact q2)
 rw[hl,q3,hc]at h1
 have h2:=SD q2 q1
 rw[q3,<-Array.getElem?_toList,hv]at h2
 have hc:=h1.symm
 have hv:=h2.symm
 exact h.get _ c v hc (by simpa using hv)
theorem KB(w:Nat):∀(n:Nat) (ts:List T) (i j:Nat),ts.length=n*w->i<n->j<w->dP (pF w n ts) i j=ts[i*w+j]?
 |0,_,_,_,_,h,_=>by omega
 |n+1,ts,0,j,hl,_,hj=>by
  simp only[pF,dP,List.getElem?_cons_zero,Option.bind_some,Nat.zero_mul,Nat.zero_add,List.getElem?_take,hj,if_true]
 |n+1,ts,i+1,j,hl,h,hj=>by
  have:=KB w n (ts.drop w) i j (by simp[hl,Nat.add_mul]) (by omega) hj
  simp only[dP,pF,List.getElem?_cons_succ]at this⊢
  rw[this,List.getElem?_drop]
  congr 1
  rw[Nat.add_mul];omega
theorem KC(w:Nat):∀(n:Nat) (ts:List T),(pF w n ts).length=n
 |0,_=>rfl
 |n+1,ts=>by simp[pF,KC w n]
theorem CY(w:Nat):∀(n:Nat) (ts:List T),ts.length=n*w->∀r∈pF w n ts,r.length=w
 |0,_,_,r,h=>by cases h
 |n+1,ts,hl,r,h=>by
  simp only[pF,List.mem_cons]at h
  rcases h with rfl|h
  ·rw[List.length_take,hl,Nat.add_mul];omega
  ·exact CY w n (ts.drop w) (by simp[hl,Nat.add_mul]) r h
theorem CZ:∀(ms:List Bool) (ts:List T),sM ms ts=true->∀(j:Nat) (t:T),ms[j]?=some true->ts[j]?=some t->dX t=true
 | [],_,_,j,t,h,_=>by simp at h
 |true::ms,[],h,_,_,_,h2=>by simp at h2
 |false::ms,[],h,_,_,_,h2=>by simp at h2
 |true::ms,t::ts,h,j,u,h1,h2=>by
  simp only[sM,bI]at h
  cases j with
  |zero=>simp at h2;subst h2;exact h.1
  |succ j=>exact CZ ms ts h.2 j u (by simpa using h1) (by simpa using h2)
 |false::ms,t::ts,h,j,u,h1,h2=>by
  simp only[sM]at h
  cases j with
  |zero=>simp at h1
  |succ j=>exact CZ ms ts h j u (by simpa using h1) (by simpa using h2)
theorem SY{t e n:Nat}{i:TypeInfo}{z:Value}(hu:P.underlying t=some (.slice e))(hi:P.info? e=some i)(hz:i.zero=some z)(hs:z.cells.size=i.size)(hb:n*i.size<=65536)
  {parts:Array (Nat×Value)}{arr:Array Value}(g:Instr.fill (λf=>some (f*i.size,i.size)) (madeCells z.cells (n*i.size)) parts.toList=some arr):
  (Instr.buildSlice t n parts).run P w=.ok (.slice (some ⟨w.heap.size,0,none⟩) n n) (w.alloc (.cells arr e)):=by
 have acD:¬(n*i.size>2^24):=by omega
 unfold madeCells at g
 by_cases h0:n*i.size=0
 ·simp only[h0,Array.range_zero',List.map_toArray,List.map_nil]at g
  simp[Instr.buildSlice,run_underlying hu,sizeOf,typeInfo,hi,h0,g,newRow,Array.range_zero']
 ·simp[Instr.buildSlice,run_underlying hu,sizeOf,typeInfo,hi,h0,acD,zeroValue,hz,g,newRow]
abbrev Mv:=List (Nat×Nat)
def hZ:Mv->Nat->Option Nat
 | [],_=>none
 |(p,i)::mv,q=>bif Nat.beq p q then some i else hZ mv q
def lM:Mv->Nat->Option Nat
 | [],_=>none
 |(p,i)::mv,j=>bif Nat.beq i j then some p else lM mv j
theorem C0:∀{mv:Mv} {q i:Nat},hZ mv q=some i->(q,i)∈mv
 | [],q,i,h=>by simp[hZ]at h
 |(p,j)::mv,q,i,h=>by
  simp only[hZ]at h
  cases hb:Nat.beq p q with
  |true=>simp[hb]at h;subst h;rw[dU hb];exact List.mem_cons_self
  |false=>simp[hb]at h;exact List.mem_cons_of_mem _ (C0 h)
theorem FQ:∀{mv:Mv} {q i:Nat},lM mv i=some q->(q,i)∈mv
 | [],q,i,h=>by simp[lM]at h
 |(p,j)::mv,q,i,h=>by
  simp only[lM]at h
  cases hb:Nat.beq j i with
  |true=>simp[hb]at h;subst h;rw[dU hb];exact List.mem_cons_self
  |false=>simp[hb]at h;exact List.mem_cons_of_mem _ (FQ h)
def SZ(G:Gh)(w:World)(ρ:List T)(mv:Mv):Nat->List Lf->List Value->Prop
 |_,[],[]=>True
 |q,x::xs,v::vs=>(∃t,x.fN ρ=some t∧((∃u,t=.c u∧v=u∧lr u=true)∨(t=.l []∧v=.slice none 0 0∧hZ mv q=none)∨∃i,hZ mv q=some i∧v=G.H i []∧fg G w i true [] t))∧SZ G w ρ mv (q+1) xs vs
 |_,_,_=>False
theorem P6{G1:Gh}:∀{zs cs:List Ce} {vs:List Value} {k k1:Wk} {xs:List Lf} {k0:Wk} {W0:St},dy M B d up ρ G a w k0 G1->lL k k0 W0->(∀r u,W0.look r=some u->∃j,r=.o j∧u=.un)->bn G1 w ρ cs vs->(∀i∈dN cs,M i)->
  k.d_ zs cs=some (k1,xs)->∀q,k1.ct=k.ct∧k1.is=k.is∧xs.length=zs.length∧zs.length=cs.length∧∃mv W1,lL k1 k0 (W1++W0)∧(∀p i,(p,i)∈mv->q<=p∧M i∧W1.look (.o i)=some .un∧W0.look (.o i)=none)∧(∀r u,W1.look r=some u->∃p j,r=.o j∧u=.un∧M j∧(p,j)∈mv)∧
   (∀p i,(p,i)∈mv->hZ mv p=some i∧lM mv i=some p)∧
   (∀(EJ:Mv),(∀p,q<=p->hZ EJ p=hZ mv p)->(∀(j:Nat) (t:T),(∃x,xs[j]?=some x∧x.fN ρ=some t)->zs[j]?.map fJ=some false->dX t=true)->SZ G1 w ρ EJ q xs vs)
 | [],[],vs,k,k1,xs,k0,W0,hk,ho,hW,hr,hm,h,q=>by
  simp only[Wk.d_,bF,Prod.mk.injEq]at h
  obtain⟨rfl,rfl⟩:=h
  cases vs with
  |nil=>exact⟨rfl,rfl,rfl,rfl,[],[],ho,(λp i h=>by cases h),(λr u h=>by cases h),(λp i h=>by cases h),λ_ _ _=>trivial⟩
  |cons _ _=>exact hr.elim
 |z::zs,.p x::cs,vs,k,k1,xs,k0,W0,hk,ho,hW,hr,hm,h,q=>by
  cases vs with
  |nil=>exact hr.elim
  |cons v vs=>
   simp only[Wk.d_]at h
   cases hz:fJ z with
   |true=>simp[hz]at h
   |false=>
    simp only[hz,cond_false,cN,bF,Prod.mk.injEq]at h
    obtain⟨⟨k2,ys⟩,h2,rfl,rfl⟩:=h
    obtain⟨e1,e2,e3,e4,mv,W1,e5,e6,e7,e8,e9⟩:=P6 hk ho hW hr.2 (λi hi=>hm i (by simpa[dN]using hi)) h2 (q+1)
    refine⟨e1,e2,by simp[e3],by simp[e4],mv,W1,e5,λp i hp=>by have:=e6 p i hp;exact⟨by omega,this.2⟩,e7,e8,λEJ yX oM=>?_⟩
    obtain⟨t,ht,hd⟩:=hr.1
    have cC:=oM 0 t ⟨x,rfl,ht⟩ (by simp[hz])
    obtain⟨u,rfl⟩:=zX cC
    obtain⟨rfl,hu⟩:=hd.scalar
    exact⟨⟨.c v,ht,.inl ⟨v,rfl,rfl,hu⟩⟩,e9 EJ (λp hp=>yX p (by omega)) λj t hj uj=>oM (j+1) t (by simpa using hj) (by simpa using uj)⟩
 |z::zs,.n::cs,vs,k,k1,xs,k0,W0,hk,ho,hW,hr,hm,h,q=>by
  cases vs with
  |nil=>exact hr.elim
  |cons v vs=>
   simp only[Wk.d_,cN,bF,Prod.mk.injEq]at h
   obtain⟨⟨k2,ys⟩,h2,rfl,rfl⟩:=h
   obtain⟨e1,e2,e3,e4,mv,W1,e5,e6,e7,e8,e9⟩:=P6 hk ho hW hr.2 (λi hi=>hm i (by simpa[dN]using hi)) h2 (q+1)
   refine⟨e1,e2,by simp[e3],by simp[e4],mv,W1,e5,λp i hp=>by have:=e6 p i hp;exact⟨by omega,this.2⟩,e7,e8,λEJ yX oM=>?_⟩
   have hv:v=.slice none 0 0:=hr.1
   have dB:hZ mv q=none:=by
    cases hm:hZ mv q with
    |none=>rfl
    |some i=>
     have:=C0 hm
     have:=(e6 q i this).1
     omega
   exact⟨⟨.l [],rfl,.inr (.inl ⟨rfl,hv,by rw[yX q (Nat.le_refl _)];exact dB⟩)⟩,e9 EJ (λp hp=>yX p (by omega)) λj t hj uj=>oM (j+1) t (by simpa using hj) (by simpa using uj)⟩
 |z::zs,.o id []::cs,vs,k,k1,xs,k0,W0,hk,ho,hW,hr,hm,h,q=>by
  cases vs with
  |nil=>exact hr.elim
  |cons v vs=>
   simp only[Wk.d_]at h
   split at h
   ·rename_i x hx
    simp only[cN,bF,Prod.mk.injEq]at h
    obtain⟨⟨k2,ys⟩,h2,rfl,rfl⟩:=h
    have dB:W0.look (.o id)=none:=by
     cases hl:W0.look (.o id)with
     |none=>rfl
     |some u=>
      exfalso
      obtain⟨j,_,rfl⟩:=hW _ _ hl
      have:k.get (.o id)=.un:=by unfold Wk.get;rw[ho.2,hl];simp
      rw[this]at hx;cases hx
    have I0:lL (k.set (.o id) .un) k0 ([(.o id,.un)]++W0):=⟨ho.1,λr=>by rw[show(k.set (.o id) .un).w.look r=_ from wT r,nC,ho.2,Option.or_assoc]⟩
    obtain⟨e1,e2,e3,e4,mv,W1,e5,e6,e7,e8,e9⟩:=P6 hk I0 (λr u hl=>by
     rw[nC]at hl
     cases h1:St.look [(bD.o id,SV.un)] r with
     |some u'=>rw[h1]at hl;simp at hl;subst hl;rcases j8 h1 with⟨q1,q2⟩|q1;exact⟨id,q1,q2⟩;cases q1
     |none=>rw[h1]at hl;exact hW r u (by simpa using hl)) hr.2 (λi hi=>hm i (by simp[dN,hi])) h2 (q+1)
    have hid:∀p i,(p,i)∈mv->i≠id:=by
     intro p i hp he
     subst he
     have:=(e6 p i hp).2.2.2
     rw[nC,wS]at this
     simp at this
    refine⟨e1,e2,by simp[e3],by simp[e4],(q,id)::mv,W1++[(.o id,.un)],by rw[List.append_assoc];exact e5,λp i hp=>?_,λr u hl=>?_,λp i hp=>?_,λEJ yX oM=>?_⟩
    ·rcases List.mem_cons.1 hp with hp|hp
     ·cases hp
      have:W1.look (.o id)=none:=by
       cases hl:W1.look (.o id)with
       |none=>rfl
       |some u=>obtain⟨p,j,q1,_,_,q2⟩:=e7 _ _ hl;cases q1;exact absurd rfl (hid p _ q2)
      exact⟨Nat.le_refl _,hm id (by simp[dN]),by rw[nC,this,wS];simp,dB⟩
     ·obtain⟨q1,q2,q3,q4⟩:=e6 p i hp
      refine⟨by omega,q2,by rw[nC,q3];rfl,?_⟩
      rw[nC]at q4
      exact(Option.or_eq_none_iff.1 q4).2
    ·rw[nC]at hl
     cases h1:W1.look r with
     |some u'=>
      rw[h1]at hl
      simp at hl
      subst hl
      obtain⟨p,j,q1,q2,q3,q4⟩:=e7 r u' h1
      exact⟨p,j,q1,q2,q3,by simp[q4]⟩
     |none=>
      rw[h1]at hl
      simp only[Option.none_or]at hl
      rcases j8 hl with⟨q1,q2⟩|q1
      ·exact⟨q,id,q1,q2,hm id (by simp[dN]),by simp⟩
      ·cases q1
    ·rcases List.mem_cons.1 hp with hp|hp
     ·cases hp;simp[hZ,lM]
     ·have h1:=(e6 p i hp).1
      have h2:=hid p i hp
      have b1:Nat.beq q p=false:=by
       cases hb:Nat.beq q p with
       |false=>rfl
       |true=>have:=dU hb;omega
      have b2:Nat.beq id i=false:=by
       cases hb:Nat.beq id i with
       |false=>rfl
       |true=>exact absurd (dU hb).symm h2
      simp only[hZ,lM,b1,b2,cond_false]
      exact e8 p i hp
    ·have ej:=hk.obj id
     have EC:k0.get (.o id)=.ob true x:=by rw[<-ho.get dB];exact hx
     rw[EC]at ej
     obtain⟨t,ht,bQ⟩:=ej
     obtain⟨p,hp,hv⟩:=hr.1
     simp only[nz,bF]at hp
     subst hp
     refine⟨⟨t,ht,.inr (.inr ⟨id,by rw[yX q (Nat.le_refl _)];simp[hZ],hv,bQ⟩)⟩,e9 EJ (λp hp=>?_) λj t hj uj=>oM (j+1) t (by simpa using hj) (by simpa using uj)⟩
     rw[yX p (by omega)]
     have b1:Nat.beq q p=false:=by
      cases hb:Nat.beq q p with
      |false=>rfl
      |true=>have:=dU hb;omega
     simp only[hZ,b1,cond_false]
   ·rename_i x hx
    simp only[cN,bF,Prod.mk.injEq]at h
    obtain⟨⟨k2,ys⟩,h2,rfl,rfl⟩:=h
    have dB:W0.look (.o id)=none:=by
     cases hl:W0.look (.o id)with
     |none=>rfl
     |some u=>
      exfalso
      obtain⟨j,_,rfl⟩:=hW _ _ hl
      have:k.get (.o id)=.un:=by unfold Wk.get;rw[ho.2,hl];simp
      rw[this]at hx;cases hx
    have I0:lL (k.set (.o id) .un) k0 ([(.o id,.un)]++W0):=⟨ho.1,λr=>by rw[show(k.set (.o id) .un).w.look r=_ from wT r,nC,ho.2,Option.or_assoc]⟩
    obtain⟨e1,e2,e3,e4,mv,W1,e5,e6,e7,e8,e9⟩:=P6 hk I0 (λr u hl=>by
     rw[nC]at hl
     cases h1:St.look [(bD.o id,SV.un)] r with
     |some u'=>rw[h1]at hl;simp at hl;subst hl;rcases j8 h1 with⟨q1,q2⟩|q1;exact⟨id,q1,q2⟩;cases q1
     |none=>rw[h1]at hl;exact hW r u (by simpa using hl)) hr.2 (λi hi=>hm i (by simp[dN,hi])) h2 (q+1)
    have hid:∀p i,(p,i)∈mv->i≠id:=by
     intro p i hp he
     subst he
     have:=(e6 p i hp).2.2.2
     rw[nC,wS]at this
     simp at this
    refine⟨e1,e2,by simp[e3],by simp[e4],(q,id)::mv,W1++[(.o id,.un)],by rw[List.append_assoc];exact e5,λp i hp=>?_,λr u hl=>?_,λp i hp=>?_,λEJ yX oM=>?_⟩
    ·rcases List.mem_cons.1 hp with hp|hp
     ·cases hp
      have:W1.look (.o id)=none:=by
       cases hl:W1.look (.o id)with
       |none=>rfl
       |some u=>obtain⟨p,j,q1,_,_,q2⟩:=e7 _ _ hl;cases q1;exact absurd rfl (hid p _ q2)
      exact⟨Nat.le_refl _,hm id (by simp[dN]),by rw[nC,this,wS];simp,dB⟩
     ·obtain⟨q1,q2,q3,q4⟩:=e6 p i hp
      refine⟨by omega,q2,by rw[nC,q3];rfl,?_⟩
      rw[nC]at q4
      exact(Option.or_eq_none_iff.1 q4).2
    ·rw[nC]at hl
     cases h1:W1.look r with
     |some u'=>
      rw[h1]at hl
      simp at hl
      subst hl
      obtain⟨p,j,q1,q2,q3,q4⟩:=e7 r u' h1
      exact⟨p,j,q1,q2,q3,by simp[q4]⟩
     |none=>
      rw[h1]at hl
      simp only[Option.none_or]at hl
      rcases j8 hl with⟨q1,q2⟩|q1
      ·exact⟨q,id,q1,q2,hm id (by simp[dN]),by simp⟩
      ·cases q1
    ·rcases List.mem_cons.1 hp with hp|hp
     ·cases hp;simp[hZ,lM]
     ·have h1:=(e6 p i hp).1
      have h2:=hid p i hp
      have b1:Nat.beq q p=false:=by
       cases hb:Nat.beq q p with
       |false=>rfl
       |true=>have:=dU hb;omega
      have b2:Nat.beq id i=false:=by
       cases hb:Nat.beq id i with
       |false=>rfl
       |true=>exact absurd (dU hb).symm h2
      simp only[hZ,lM,b1,b2,cond_false]
      exact e8 p i hp
    ·have ej:=hk.obj id
     have EC:k0.get (.o id)=.fl x:=by rw[<-ho.get dB];exact hx
     rw[EC]at ej
     obtain⟨_,t,ht,bQ⟩:=ej
     obtain⟨p,hp,hv⟩:=hr.1
     simp only[nz,bF]at hp
     subst hp
     refine⟨⟨t,ht,.inr (.inr ⟨id,by rw[yX q (Nat.le_refl _)];simp[hZ],hv,bQ⟩)⟩,e9 EJ (λp hp=>?_) λj t hj uj=>oM (j+1) t (by simpa using hj) (by simpa using uj)⟩
     rw[yX p (by omega)]
     have b1:Nat.beq q p=false:=by
      cases hb:Nat.beq q p with
      |false=>rfl
      |true=>have:=dU hb;omega
     simp only[hZ,b1,cond_false]
   ·cases h
 | [],_::_,vs,k,k1,xs,k0,W0,_,_,_,_,_,h,_=>by simp[Wk.d_]at h
 |_::_,[],vs,k,k1,xs,k0,W0,_,_,_,_,_,h,_=>by simp[Wk.d_]at h
 |_::_,.d::_,vs,k,k1,xs,k0,W0,_,_,_,_,_,h,_=>by simp[Wk.d_]at h
 |_::_,.o _ (_::_)::_,vs,k,k1,xs,k0,W0,_,_,_,_,_,h,_=>by simp[Wk.d_]at h
theorem SZ.at{G1:Gh}{mv:Mv}:∀{xs:List Lf} {vs:List Value} {q:Nat},SZ G1 w ρ mv q xs vs->xs.length=vs.length∧∀(j:Nat) (t:T),(xs.map (Lf.ev ρ))[j]?=some t->∃v,vs[j]?=some v∧
  ((∃u,t=.c u∧v=u∧lr u=true)∨(t=.l []∧v=.slice none 0 0∧hZ mv (q+j)=none)∨∃i,hZ mv (q+j)=some i∧v=G1.H i []∧fg G1 w i true [] t)
 | [],[],q,_=>⟨rfl,λj t h=>by simp at h⟩
 |x::xs,v::vs,q,h=>by
  obtain⟨⟨t,h1,h2⟩,h3⟩:=h
  obtain⟨e1,e2⟩:=SZ.at h3
  refine⟨by simp[e1],λj t' hj=>?_⟩
  cases j with
  |zero=>
   simp only[List.map_cons,List.getElem?_cons_zero,bF]at hj
   rw[Lf.bU h1]at hj
   subst hj
   exact⟨v,rfl,h2⟩
  |succ j=>
   have:=e2 j t' (by simpa using hj)
   rw[show q+1+j=q+(j+1) by omega]at this
   simpa using this
 | [],_::_,q,h=>h.elim
 |_::_,[],q,h=>h.elim
def P7(mv:Mv)(sz i:Nat):Lb->Option Lb
 | .o j p=>match lM mv j with
  |some q=>some (.o i ((q/sz,q%sz)::p))
  |none=>some (.o j p)
 |l=>some l
theorem acE{mv:Mv}{sz i:Nat}(hi:i%2=0)(l l':Lb)(hq:qt l=true)(h:P7 mv sz i l=some l'):qt l'=true:=by
 cases l with
 |o j p=>
  simp only[P7]at h
  split at h
  ·cases h;exact xE hi (by simp)
  ·cases h;exact hq
 |_=>simp[qt]at hq
def I1(G:Gh)(mv:Mv)(sz:Nat)(v:Value):List (Nat×Nat)->Value
 | []=>v
 |(r,c)::p=>match hZ mv (r*sz+c)with
  |some j=>G.H j p
  |none=>.slice none 0 0
theorem acF(dW:ew P cx)(h:Rel M B d up s ρ G a w)(hn:∀n,o.dst=some n->n<a.tmps.size){t n:Nat}{ps:Array (Nat×Operand)}(ho:o.op=.buildSlice t n ps){ti te:TI}(fQ:cx.ty t=some ti)(tX:cx.ty ti.el=some te)
  {i:TypeInfo}{z:Value}(hu:P.underlying t=some (.slice ti.el))(wV:P.info? ti.el=some i)(l_:i.size=te.sz)(IW:i.zero=some z)(uk:z.cells.size=te.sz)(iE:0<te.sz)(hb:n*te.sz<=65536)
  (wR:bn G w ρ te.zero z.cells.toList)(qG:dN te.zero=[]){cs:List Ce}{arr:Array Value}(g1:Instr.fill (λi=>some (i*te.sz,te.sz)) (madeCells z.cells (n*z.cells.size)) (ps.toList.map λp=>(p.1,a.eval p.2))=some arr)(g2:bn G w ρ cs arr.toList∧∀i∈dN cs,M i)
  (zV:arr.size=n*te.sz){k1:Wk}{xs:List Lf}(hD:Wk.d_ ⟨s.only R,[],ct,[]⟩ (oQ te.zero n) cs=some (k1,xs))
  (hk:(let r:=k1.em (.lit te.sz (bif true then(oQ te.zero n).map (λz=>!fJ z)else [])) xs;b9 d o {r.1.set (.o (fe r.1.ct.i)) (.ob true r.2)with ct:=⟨r.1.ct.a,fe r.1.ct.i+1⟩} (.v false [.o (fe r.1.ct.i) []]))=k')(hd:k'.bJ S ρ)(hM:∀i,ct.i<=i->i<k'.ct.i->¬M i):
  bT P (Mn M ct.i k'.ct.i) B d up ρ a w s o k'.w Q:=by
 have hw:=dy.start h R ct
 obtain⟨a1,a2,a3,a4,mv,W1,a5,a6,a7,a8,a9⟩:=P6 hw (show lL ⟨s.only R,[],ct,[]⟩ ⟨s.only R,[],ct,[]⟩ [] from⟨rfl,λr=>by simp[St.look]⟩) (λr u h=>by cases h) g2.1 g2.2 hD 0
 rw[List.append_nil]at a5
 generalize hy:k1.em (.lit te.sz (bif true then(oQ te.zero n).map (λz=>!fJ z)else [])) xs=ky at hk
 obtain⟨k2,y⟩:=ky
 have C1:k2=(k1.em (.lit te.sz (bif true then(oQ te.zero n).map (λz=>!fJ z)else [])) xs).1:=by rw[hy]
 have hye:y=(k1.em (.lit te.sz (bif true then(oQ te.zero n).map (λz=>!fJ z)else [])) xs).2:=by rw[hy]
 have nr:k1.e_ k2:=by rw[C1];exact Wk.bM _ _ _
 have iC:b9 d o {k2.set (.o (fe k2.ct.i)) (.ob true y)with ct:=⟨k2.ct.a,fe k2.ct.i+1⟩} (.v false [.o (fe k2.ct.i) []])=k':=hk
 have lA:k2.ct.i=ct.i:=by rw[nr.i,a1]
 have fI:(k1.em (.lit te.sz (bif true then(oQ te.zero n).map (λz=>!fJ z)else [])) xs).1.bJ S ρ:=by
  rw[<-C1]
  rw[<-iC]at hd
  have h2:=cX.1 hd
  exact h2
 obtain⟨FO,r,hr,m_⟩:=Wk.bV fI
 rw[<-hye]at m_
 have t_:te.zero.length=te.sz:=by have:=wR.length;rw[this];simpa using uk
 have C2:(xs.map (Lf.ev ρ)).length=n*te.sz:=by rw[List.length_map,a3,FP,t_]
 have oZ:r=.l (pF te.sz n (xs.map (Lf.ev ρ)))∧sM ((oQ te.zero n).map (λz=>!fJ z)) (xs.map (Lf.ev ρ))=true:=by
  simp only[Prim.ev,C2,Nat.mul_div_cancel _ iE,if_pos iE,cond_true]at hr
  split at hr
  ·rename_i hm
   exact⟨(Option.some.inj hr).symm,hm⟩
  ·cases hr
 obtain⟨rfl,vQ⟩:=oZ
 have yX:=a9 mv (λ_ _=>rfl) λj t ⟨x,hx,ht⟩ uj=>by
  refine CZ _ _ vQ j t ?_ ?_
  ·cases KD:(oQ te.zero n)[j]? with
   |none=>rw[KD]at uj;cases uj
   |some zc=>rw[KD]at uj;simp at uj;simp[KD,uj]
  ·rw[List.getElem?_map,hx];simp[Lf.bU ht]
 obtain⟨b1,b3⟩:=yX.at
 have qU:k'.ct.i=fe ct.i+1:=by rw[<-iC,oL,<-lA]
 have jS:=Cg ct.i
 let Hn:=I1 G mv te.sz (.slice (some ⟨w.heap.size,0,none⟩) n n)
 have oU:∀p,∃a n c,Hn p=.slice a n c:=λp=>by
  cases p with
  |nil=>exact⟨_,_,_,rfl⟩
  |cons x p=>
   obtain⟨r0,c0⟩:=x
   cases hm:hZ mv (r0*te.sz+c0)with
   |none=>exact⟨none,0,0,by simp only[Hn,I1,hm]⟩
   |some j=>obtain⟨a0,n0,c1,h0⟩:=G.hs j p;exact⟨a0,n0,c1,by simp only[Hn,I1,hm];exact h0⟩
 have eV:(Instr.buildSlice t n (ps.map λ(i,x)=>(i,a.eval x))).run P w=.ok (.slice (some ⟨w.heap.size,0,none⟩) n n) (w.alloc (.cells arr ti.el)):=by
  have Br:(ps.map λ(x:Nat×Operand)=>(x.1,a.eval x.2)).toList=ps.toList.map λp=>(p.1,a.eval p.2):=by simp
  rw[<-Br,<-l_]at g1
  exact SY hu wV IW (by rw[uk,l_]) (by rw[l_];exact hb) (by rw[l_]at g1⊢;rw[<-uk]at g1⊢;exact g1)
 have iW:(execOp a.eval o).run P w=.ok (.value (Hn [])) (w.alloc (.cells arr ti.el)):=by
  unfold execOp
  simp only[ho]
  rw[Sem.run_bind,eV]
  rfl
 rw[qU,<-iC,<-lA]
 have KF:¬M (fe k2.ct.i):=hM _ (by rw[lA];exact jS) (by rw[qU,lA];omega)
 refine bT.mono (M:=Mn M (fe k2.ct.i) (fe k2.ct.i+1)) ?_ (λi hi=>hi.imp_right λhi=>by rw[lA]at hi⊢;exact⟨by omega,hi.2⟩)
 refine FL (nb:=some w.heap.size) (f:=P7 mv te.sz (fe k2.ct.i)) (Hn:=Hn) (oU:=oU) (w':=w.alloc (.cells arr ti.el)) (k:={(⟨s.only R,[],ct,[]⟩:Wk)with ct:=⟨k2.ct.a,fe k2.ct.i⟩}) (W1:=W1) (dp:=true) (y:=y) (t:=.l (pF te.sz n (xs.map (Lf.ev ρ))))
  h (show dy M B d up ρ G a w {(⟨s.only R,[],ct,[]⟩:Wk)with ct:=⟨k2.ct.a,fe k2.ct.i⟩} G from⟨hw.rel,hw.bp⟩) hn KF (λr=>?_) (λr u hu=>by obtain⟨p,j,q1,q2,q3,_⟩:=a7 r u hu;subst q2;exact⟨j,q1,trivial,q3,λi hi=>by simp[dt]at hi⟩) (λl hl=>?_) (λl l' ⟨b,hb⟩ he=>?_)
  (acE (SJ _)) (λc hc=>by cases hc;exact .inl rfl) (by simp) (λc hc=>by cases hc;simp) (λb hb _=>heap_alloc_old w _ b hb) (FF _ _) rfl m_ ?_ iW
 ·show((k2.w.set (.o (fe k2.ct.i)) _)).look r=_
  rw[show(k2.w.set (.o (fe k2.ct.i)) (.ob true y)).look r=_ from wT (k:=k2) r]
  rw[show k2.w.look r=k1.w.look r by rw[nr.w],a5.2 r,<-Option.or_assoc]
  congr 1
  show _=St.look ((bD.o (fe k2.ct.i),_)::W1) r
  simp only[St.look]
  cases(bD.o (fe k2.ct.i)).beq r<;>simp
 ·cases l with
  |f=>rfl
  |x b=>rfl
  |o j p=>
   have h0:=hl j p rfl
   have:lM mv j=none:=by
    cases hm:lM mv j with
    |none=>rfl
    |some q=>have:=(a6 q j (FQ hm)).2.2.1;rw[h0]at this;cases this
   simp[P7,this]
 ·have nI:=hw.rel.iO b _ hb
  cases l with
  |f=>cases he;exact .inl nI.1
  |x b=>cases he;exact .inl nI.1
  |o j p=>
   simp only[P7]at he
   split at he
   ·cases he;exact .inr rfl
   ·cases he;exact .inl nI.1
 ·have hlen:(pF te.sz n (xs.map (Lf.ev ρ))).length=n:=KC _ _ _
  have xK:∀(ii j:Nat) (t:T),dP (pF te.sz n (xs.map (Lf.ev ρ))) ii j=some t->ii<n∧j<te.sz∧∃v,arr[ii*te.sz+j]?=some v∧
    ((∃u,t=.c u∧v=u∧lr u=true)∨(t=.l []∧v=.slice none 0 0∧hZ mv (ii*te.sz+j)=none)∨∃i,hZ mv (ii*te.sz+j)=some i∧v=G.H i []∧fg G w i true [] t):=by
   intro ii j t ht
   obtain⟨rr,_,hm,IR,q1,q2⟩:=yN ht
   rw[hlen]at q1
   rw[CY _ _ _ C2 rr hm]at q2
   rw[KB _ _ _ _ _ C2 q1 q2]at ht
   obtain⟨v,c2,c3⟩:=b3 _ t ht
   rw[Nat.zero_add]at c3
   exact⟨q1,q2,v,by simpa using c2,c3⟩
  refine .l (wd:=te.sz) (cv:=λii j=>arr.getD (ii*te.sz+j) undef) (by rw[hlen];simp[Gh.bY,Hn,I1]) ⟨by rw[hlen];exact Nat.le_refl _,λhe=>by have:=congrArg List.length he;rw[hlen]at this;simpa using this⟩ (by simp[Gh.bY]) (heap_alloc_new w _) zV (CY _ _ _ C2) ?_ ?_ (λ_ _ _ _ hf=>by cases hf) ?_ ?_
  ·intro ii j t ht
   obtain⟨q1,q2,v,q3,_⟩:=xK ii j t ht
   simp[Array.getD_eq_getD_getElem?,q3]
  ·intro ii j v ht
   obtain⟨q1,q2,u,q3,q4⟩:=xK ii j _ ht
   rcases q4 with⟨u',e1,e2,e3⟩|⟨e1,_⟩|⟨i',_,_,e1⟩
   ·cases e1;subst e2;exact⟨by simp[Array.getD_eq_getD_getElem?,q3],e3⟩
   ·cases e1
   ·cases e1
  ·intro ii j ys ht _
   obtain⟨q1,q2,u,q3,q4⟩:=xK ii j _ ht
   rcases q4 with⟨u',e1,e2,e3⟩|⟨e1,e2,e3⟩|⟨i',e1,e2,e3⟩
   ·cases e1
   ·simp[Array.getD_eq_getD_getElem?,q3,e2,Gh.bY,Hn,I1,e3]
   ·simp[Array.getD_eq_getD_getElem?,q3,e2,Gh.bY,Hn,I1,e1]
  ·intro ii j ys ht _
   obtain⟨q1,q2,u,q3,q4⟩:=xK ii j _ ht
   rcases q4 with⟨u',e1,e2,e3⟩|⟨e1,e2,e3⟩|⟨i',e1,e2,e3⟩
   ·cases e1
   ·cases e1;exact .nil (by simp[Gh.bY,Hn,I1,e3])
   ·have nK:=(a8 _ i' (C0 e1)).2
    refine e3.move rfl (λc p hc=>?_) λp=>?_
    ·have bE:=(hw.rel.iO c _ hc).2
     have dI:¬(w.heap.size=c):=by omega
     simp only[List.nil_append]at hc
     refine⟨?_,heap_alloc_old w _ c bE⟩
     have hdiv:(ii*te.sz+j)/te.sz=ii:=by rw[Nat.add_comm,Nat.add_mul_div_right _ _ iE,Nat.div_eq_of_lt q2];omega
     have acH:(ii*te.sz+j)%te.sz=j:=by rw[Nat.add_comm,Nat.add_mul_mod_self_right,Nat.mod_eq_of_lt q2]
     simp[Gh.bY,dI,hc,P7,nK,hdiv,acH]
    ·simp[Gh.bY,Hn,I1,e1]
theorem acI(dW:ew P cx)(h:Rel M B d up s ρ G a w)(hn:∀n,o.dst=some n->n<a.tmps.size){t n:Nat}{ps:Array (Nat×Operand)}(ho:o.op=.buildSlice t n ps)
  (hk:jm cx cV ft d o oi ⟨s.only R,[],ct,[]⟩=some k')(hd:k'.bJ S ρ)(hM:∀i,ct.i<=i->i<k'.ct.i->¬M i):bT P (Mn M ct.i k'.ct.i) B d up ρ a w s o k'.w Q:=by
 have hw:=dy.start h R ct
 simp only[jm,ho,cN]at hk
 obtain⟨ti,fQ,te,tX,hk⟩:=hk
 cases hc:(Nat.beq ti.kd 3&&Nat.ble (n*te.sz) 65536&&Nat.blt 0 te.sz)with
 |false=>simp[hc]at hk
 |true=>
  simp only[hc,cond_true,cN,bF]at hk
  simp only[bI]at hc
  obtain⟨⟨qE,j3⟩,hc3⟩:=hc
  obtain⟨l,hl,cs,lB,⟨k1,xs,dp⟩,nE,hk⟩:=hk
  simp only at hk
  have hT:=dW.ty _ _ fQ
  have hE:=dW.ty _ _ tX
  obtain⟨i,z,wV,l_,ED,IW,zR⟩:=hE.info
  have hu:=hT.sl (dU qE)
  obtain⟨wR,qG⟩:=J8 (G:=G) (w:=w) (ρ:=ρ) zR
  have uk:z.cells.size=te.sz:=by
   have:=wR.length
   rw[hE.Fz]at this
   simpa using this.symm
  have iE:0<te.sz:=Nat.lt_of_succ_le (by simpa[Nat.blt]using hc3)
  obtain⟨arr,g1,g2,g3,g4⟩:=J9 (a:=a) hw (fs:=(List.range n).map λi=>(i*te.sz,te.sz)) (place:=λi=>some (i*te.sz,te.sz)) (λf o hf=>by
   rw[List.getElem?_map]at hf
   cases hr:(List.range n)[f]? with
   |none=>simp[hr]at hf
   |some f'=>
    have bE:=(List.getElem?_eq_some_iff.1 hr).1
    rw[List.getElem?_eq_getElem bE,List.getElem_range,bF]at hr
    subst hr
    rw[List.getElem?_eq_getElem bE]at hf
    simpa using hf) ps.toList l (oQ te.zero n) cs (madeCells z.cells (n*z.cells.size)) hl lB (acC wR n) (λi hi=>by rw[SX qG]at hi;cases hi)
  cases hD:(bif cx.fz cV ft oi then none else Wk.d_ ⟨s.only R,[],ct,[]⟩ (oQ te.zero n) cs)with
  |some r=>
   obtain⟨kD,xsD⟩:=r
   simp only[Wk.tO,hD,bF,Prod.mk.injEq]at nE
   obtain⟨rfl,rfl,rfl⟩:=nE
   have hD':Wk.d_ ⟨s.only R,[],ct,[]⟩ (oQ te.zero n) cs=some (kD,xsD):=by
    cases uT:cx.fz cV ft oi with
    |true=>rw[uT]at hD;cases hD
    |false=>rw[uT]at hD;exact hD
   exact acF dW h hn ho fQ tX hu wV l_ IW uk iE (Nat.le_of_ble_eq_true j3) wR qG g1 ⟨g2,g3⟩ (by rw[g4,size_madeCells,uk]) hD' hk hd hM
  |none=>
  simp only[Wk.tO,hD]at nE
  obtain⟨a1,a2,a3,G2,w2,a4,a5,a6⟩:=CW hw g2 nE
  generalize hy:k1.em (.lit te.sz (bif dp then(oQ te.zero n).map (λz=>!fJ z)else [])) xs=ky at hk
  obtain⟨k2,y⟩:=ky
  have C1:k2=(k1.em (.lit te.sz (bif dp then(oQ te.zero n).map (λz=>!fJ z)else [])) xs).1:=by rw[hy]
  have hye:y=(k1.em (.lit te.sz (bif dp then(oQ te.zero n).map (λz=>!fJ z)else [])) xs).2:=by rw[hy]
  have nr:k1.e_ k2:=by rw[C1];exact Wk.bM _ _ _
  have iC:b9 d o {k2.set (.o (fe k2.ct.i)) (.ob dp y)with ct:=⟨k2.ct.a,fe k2.ct.i+1⟩} (.v false [.o (fe k2.ct.i) []])=k':=hk
  have lA:k2.ct.i=ct.i:=by rw[nr.i,a1]
  have fI:(k1.em (.lit te.sz (bif dp then(oQ te.zero n).map (λz=>!fJ z)else [])) xs).1.bJ S ρ:=by
   rw[<-C1]
   rw[<-iC]at hd
   have h2:=cX.1 hd
   exact h2
  obtain⟨FO,r,hr,m_⟩:=Wk.bV fI
  rw[<-hye]at m_
  obtain⟨b1,b2,b3⟩:=a6.at
  have zV:arr.size=n*te.sz:=by rw[g4,size_madeCells,uk]
  have C2:(xs.map (Lf.ev ρ)).length=n*te.sz:=by rw[List.length_map,b1,Array.length_toList,zV]
  have oZ:r=.l (pF te.sz n (xs.map (Lf.ev ρ)))∧sM (bif dp then(oQ te.zero n).map (λz=>!fJ z)else []) (xs.map (Lf.ev ρ))=true:=by
   simp only[Prim.ev,C2,Nat.mul_div_cancel _ iE,if_pos iE]at hr
   split at hr
   ·rename_i hm
    exact⟨(Option.some.inj hr).symm,hm⟩
   ·cases hr
  obtain⟨rfl,vQ⟩:=oZ
  have qU:k'.ct.i=fe ct.i+1:=by rw[<-iC,oL,<-lA]
  have jS:=Cg ct.i
  let Hn:List (Nat×Nat)->Value:=λp=>match p with| []=>.slice (some ⟨w.heap.size,0,none⟩) n n|_=>.slice none 0 0
  have oU:∀p,∃a n c,Hn p=.slice a n c:=λp=>by cases p<;>exact⟨_,_,_,rfl⟩
  have eV:(Instr.buildSlice t n (ps.map λ(i,x)=>(i,a.eval x))).run P w=.ok (.slice (some ⟨w.heap.size,0,none⟩) n n) (w.alloc (.cells arr ti.el)):=by
   have Br:(ps.map λ(x:Nat×Operand)=>(x.1,a.eval x.2)).toList=ps.toList.map λp=>(p.1,a.eval p.2):=by simp
   rw[<-Br,<-l_]at g1
   have:=Nat.le_of_ble_eq_true j3
   exact SY hu wV IW (by rw[uk,l_]) (by rw[l_];omega) (by rw[l_]at g1⊢;rw[<-uk]at g1⊢;exact g1)
  have iW:(execOp a.eval o).run P w=.ok (.value (Hn [])) (w.alloc (.cells arr ti.el)):=
   by
   unfold execOp
   simp only[ho]
   rw[Sem.run_bind,eV]
   rfl
  rw[qU,<-iC,<-lA]
  refine bT.mono (M:=Mn M (fe k2.ct.i) (fe k2.ct.i+1)) ?_ (λi hi=>hi.imp_right λhi=>by rw[lA]at hi⊢;exact⟨by omega,hi.2⟩)
  have w3:=w2.same nr
  refine FL (nb:=some w.heap.size) (f:=some) (Hn:=Hn) (oU:=oU) (w':=w.alloc (.cells arr ti.el)) (k:={k2 with ct:=⟨k2.ct.a,fe k2.ct.i⟩}) (W1:=[]) (t:=.l (pF te.sz n (xs.map (Lf.ev ρ))))
   h (show dy M B d up ρ G a w {k2 with ct:=⟨k2.ct.a,fe k2.ct.i⟩} G2 from⟨w3.rel,w3.bp⟩) hn (hM _ (by show ct.i<=fe k2.ct.i;rw[lA];exact jS) (by rw[qU];show fe k2.ct.i<_;rw[lA];omega)) (λr=>by exact wT (k:=k2) r) (λr u hu=>by cases hu) (λl _=>rfl) (λl l' ⟨b,hb⟩ he=>by cases he;exact .inl (w2.rel.iO b _ hb).1)
   (λl l' hq he=>by cases he;exact hq) (λc hc=>by cases hc;exact .inl rfl) (by simp) (λc hc=>by cases hc;simp) (λb hb _=>heap_alloc_old w _ b hb) (FF _ _) rfl m_ ?_ iW
  have hlen:(pF te.sz n (xs.map (Lf.ev ρ))).length=n:=KC _ _ _
  have rO:∀b,b<w.heap.size->G2.q b=none->(G2.bY (some w.heap.size) (fe k2.ct.i) some Hn oU).q b=none∧(w.alloc (.cells arr ti.el)).heap[b]?=w.heap[b]?:=by
   intro b hb h0
   have dI:some w.heap.size≠some b:=by simp;omega
   exact⟨FK (λl l' hq he=>by cases he;exact hq) dI h0,heap_alloc_old w _ b hb⟩
  have xK:∀(ii j:Nat) (t:T),dP (pF te.sz n (xs.map (Lf.ev ρ))) ii j=some t->ii<n∧j<te.sz∧∃v,arr[ii*te.sz+j]?=some v∧eP G2.q w t v∧(dp=true->∀ys,t=.l ys->t=.l []∧v=.slice none 0 0):=by
   intro ii j t ht
   obtain⟨rr,_,hm,IR,q1,q2⟩:=yN ht
   rw[hlen]at q1
   rw[CY _ _ _ C2 rr hm]at q2
   rw[KB _ _ _ _ _ C2 q1 q2]at ht
   obtain⟨zc,v,c1,c2,c3,c4⟩:=b3 _ t ht
   refine⟨q1,q2,v,by simpa using c2,c3,λgN ys S0=>?_⟩
   subst gN
   cases hzn:fJ zc with
   |true=>exact c4 rfl hzn
   |false=>
    have:=CZ _ _ vQ (ii*te.sz+j) t (by simp[c1,hzn]) ht
    subst S0
    simp[dX]at this
  refine .l (wd:=te.sz) (cv:=λii j=>arr.getD (ii*te.sz+j) undef) (by rw[hlen];simp[Gh.bY,Hn]) ⟨by rw[hlen];exact Nat.le_refl _,λhe=>by have:=congrArg List.length he;rw[hlen]at this;simpa using this⟩ (by simp[Gh.bY]) (heap_alloc_new w _) zV (CY _ _ _ C2) ?_ ?_ ?_ ?_ ?_
  ·intro ii j t ht
   obtain⟨q1,q2,v,q3,_⟩:=xK ii j t ht
   simp[Array.getD_eq_getD_getElem?,q3]
  ·intro ii j v ht
   obtain⟨q1,q2,u,q3,q4,_⟩:=xK ii j _ ht
   obtain⟨rfl,hs⟩:=q4.scalar
   exact⟨by simp[Array.getD_eq_getD_getElem?,q3],hs⟩
  ·intro ii j ys ht gN
   obtain⟨q1,q2,u,q3,q4,_⟩:=xK ii j _ ht
   have:=q4.bp (by simp) rO
   simpa[Array.getD_eq_getD_getElem?,q3]using this
  ·intro ii j ys ht gN
   obtain⟨q1,q2,u,q3,q4,q5⟩:=xK ii j _ ht
   obtain⟨_,rfl⟩:=q5 gN ys rfl
   simp[Array.getD_eq_getD_getElem?,q3,Gh.bY,Hn]
  ·intro ii j ys ht gN
   obtain⟨q1,q2,u,q3,q4,q5⟩:=xK ii j _ ht
   obtain⟨e1,rfl⟩:=q5 gN ys rfl
   cases e1
   exact .nil (by simp[Gh.bY,Hn])
theorem S1{t:TypeId}{cs:Array Value}{off:Nat}{v:Value}(ht:(∃k,P.underlying t=some (.int k))∨P.underlying t=some .bool∨P.underlying t=some .string)(hv:cs[off]?=some v):
  (part t cs off).run P w=.ok v w:=by
 have pu:(isAgg t).run P w=.ok false w:=by
  rcases ht with⟨k,ht⟩|ht|ht<;>simp[isAgg,run_underlying ht]
 simp[part,pu,hv]
def FTy(P:Program)(t:TypeId)(k:Nat):Prop:=(k=1∧∃i,P.underlying t=some (.int i))∨(k=4∧P.underlying t=some .bool)∨(k=2∧P.underlying t=some .string)
theorem acJ{d:Nat}{t:TypeId}{k:Nat}{x y:Value}{b:Bool}(ht:FTy P t k)(h:PW k x y=some b):(Op.equalIn (d+1) t x y).run P w=.ok b w:=by
 unfold PW at h
 split at h
 ·rename_i k a k' b'
  obtain⟨_,i,hu⟩:=ht.resolve_right (by simp)
  split at h
  ·rename_i hk;subst hk;cases h
   exact run_equalIn_int w d t _ _ _ _ hu
  ·cases h
 ·cases h
  have hu:P.underlying t=some .bool:=by rcases ht with⟨h,_⟩|⟨_,h⟩|⟨h,_⟩<;>simp_all
  exact run_equalIn_bool' w d t _ _ hu
 ·cases h
  have hu:P.underlying t=some .string:=by rcases ht with⟨h,_⟩|⟨h,_⟩|⟨_,h⟩<;>simp_all
  rw[run_equalIn_string w d t _ _ hu,<-beq_toListBytes]
 ·cases h
theorem acK{i:Nat}{z:Ce}{zs:List Ce}{f:Field}{fs:List Field}(h:tV P i (z::zs) (f::fs)=true):f.offset=i∧f.name≠"_"∧FTy P f.type (np z)∧tV P (i+1) zs fs=true:=by
 simp only[tV,bI,decide_eq_true_eq]at h
 obtain⟨⟨⟨h1,h2⟩,h3⟩,h4⟩:=h
 refine⟨dU h1,h2,?_,h4⟩
 split at h3
 ·rename_i k hu;exact .inl ⟨dU h3,k,hu⟩
 ·rename_i hu;exact .inr (.inl ⟨dU h3,hu⟩)
 ·rename_i hu;exact .inr (.inr ⟨dU h3,hu⟩)
 ·cases h3
theorem S2{d:Nat}{xs ys:Array Value}:∀{fs:List Field} {zs:List Ce} {i:Nat} {us vs:List T} {b:Bool},tV P i zs fs=true->yJ (zs.map np) us vs=some b->
  (∀(j:Nat) (v:Value),us[j]?=some (.c v)->xs[i+j]?=some v)->(∀(j:Nat) (v:Value),vs[j]?=some (.c v)->ys[i+j]?=some v)->(Op.eqFields (d+1) xs ys fs).run P w=.ok b w
 | [],[],i,[],[],b,_,h,_,_=>by simp[yJ]at h;subst h;rfl
 | [],[],i,[],_::_,b,_,h,_,_=>by simp[yJ]at h
 | [],[],i,_::_,vs,b,_,h,_,_=>by simp[yJ]at h
 | [],_::_,i,us,vs,b,hf,h,_,_=>by simp[tV]at hf
 |_::_,[],i,us,vs,b,hf,h,_,_=>by simp[tV]at hf
 |f::fs,z::zs,i,[],vs,b,hf,h,_,_=>by simp[yJ]at h
 |f::fs,z::zs,i,.l _::us,vs,b,hf,h,_,_=>by simp[yJ]at h
 |f::fs,z::zs,i,.c x::us,[],b,hf,h,_,_=>by simp[yJ]at h
 |f::fs,z::zs,i,.c x::us,.l _::vs,b,hf,h,_,_=>by simp[yJ]at h
 |f::fs,z::zs,i,.c x::us,.c y::vs,b,hf,h,hx,hy=>by
  obtain⟨h1,h2,h3,h4⟩:=acK hf
  simp only[List.map_cons,yJ,cN,bF]at h
  obtain⟨b1,lR,b2,qS,rfl⟩:=h
  have ht:(∃k,P.underlying f.type=some (.int k))∨P.underlying f.type=some .bool∨P.underlying f.type=some .string:=by
   rcases h3 with⟨_,h⟩|⟨_,h⟩|⟨_,h⟩
   ·exact .inl h
   ·exact .inr (.inl h)
   ·exact .inr (.inr h)
  have p1:=S1 (P:=P) (w:=w) ht (show xs[f.offset]?=some x by rw[h1];exact hx 0 x rfl)
  have p2:=S1 (P:=P) (w:=w) ht (show ys[f.offset]?=some y by rw[h1];exact hy 0 y rfl)
  have ih:=S2 (d:=d) (xs:=xs) (ys:=ys) h4 qS (λj v hj=>by have:=hx (j+1) v (by simpa using hj);rw[<-this];congr 1;omega) (λj v hj=>by have:=hy (j+1) v (by simpa using hj);rw[<-this];congr 1;omega)
  simp only[Op.eqFields,h2,ne_eq,not_false_iff,if_true,Sem.run_bind]
  rw[p1]
  simp only[Result.andThen_ok]
  rw[p2]
  simp only[Result.andThen_ok,acJ h3 lR]
  cases b1
  ·rfl
  ·exact ih
theorem S3{cs:List Ce}{k k1:Wk}{xs:List Lf}{G1:Gh}{vs:List Value}(h:k.jJ cs=some (k1,xs))(hd:k1.bJ S ρ)(hr:bn G1 w ρ cs vs)(hk:dy M B d up ρ G a w k G1):
  (xs.map (Lf.ev ρ)).length=cs.length∧∀(j:Nat) (v:Value),(xs.map (Lf.ev ρ))[j]?=some (.c v)->vs[j]?=some v:=by
 obtain⟨ts,e1,e2,_,e4⟩:=Wk.hY h hd hr hk
 refine⟨by rw[List.length_map,e4,hr.length],λj v hj=>?_⟩
 rw[e1]at hj
 have bE:j<vs.length:=by rw[<-e2.length];exact(List.getElem?_eq_some_iff.1 hj).1
 have:=(e2.get j _ vs[j] hj (List.getElem?_eq_getElem bE)).scalar
 rw[List.getElem?_eq_getElem bE,this.1]
theorem acL(dW:ew P cx)(h:Rel M B d up s ρ G a w)(hn:∀n,o.dst=some n->n<a.tmps.size){op:BinOp}{t yt:TypeId}{x y:Operand}(ho:o.op=.binOp op t x y yt)
  {es bs:List Ce}(zS:cz d (Wk.get ⟨s.only R,[],ct,[]⟩) x=.v true es)(FB:cz d (Wk.get ⟨s.only R,[],ct,[]⟩) y=.v true bs)
  (hk:jm cx cV ft d o oi ⟨s.only R,[],ct,[]⟩=some k')(hd:k'.bJ S ρ):bT P M B d up ρ a w s o k'.w Q∧k'.ct.i=ct.i:=by
 have hw:=dy.start h R ct
 simp only[jm,ho,zS,FB,cN]at hk
 obtain⟨ti,fQ,hk⟩:=hk
 cases hc:(Nat.beq ti.kd 5&&Nat.beq es.length ti.sz)with
 |false=>simp[hc]at hk
 |true=>
  simp only[hc,cond_true,cN]at hk
  simp only[bI]at hc
  have hT:=dW.ty _ _ fQ
  obtain⟨fs,hu,wO,hp,hg,hef⟩:=hT.eq (dU hc.1)
  have yU:=dU hc.2
  obtain⟨yQ,yY⟩:=hw.jc x
  obtain⟨JY,hmy⟩:=hw.jc y
  rw[zS]at yQ
  rw[FB]at JY
  obtain⟨us,S4,sF⟩:=yQ
  obtain⟨vs,qT,m_⟩:=JY
  obtain⟨⟨k1,r1⟩,P8,lK⟩:=hk
  simp only[RQ,cN]at P8
  obtain⟨⟨k2,xs⟩,h1,⟨k3,ys⟩,h2,P8⟩:=P8
  simp only at P8
  have nB:=Wk.hX h1
  have nr:=Wk.hX h2
  have hfo:P.fieldsOf t=fs:=by simp[Program.fieldsOf,hu]
  have KG:∀op,(eqGuard op t x y (.agg us.toArray) (.agg vs.toArray)).run P w=.ok () w:=λop=>run_eqGuard_agg w op t x y _ _ hg
  have key:(k3.em (.eqs (ti.zero.map np)) (xs++ys)).1.bJ S ρ->∃b,(k3.em (.eqs (ti.zero.map np)) (xs++ys)).2.fN ρ=some (.c (.bool b))∧(Op.equalIn 10000 t (.agg us.toArray) (.agg vs.toArray)).run P w=.ok b w:=by
   intro Bq
   obtain⟨FO,r,hr,KH⟩:=Wk.bV Bq
   obtain⟨l2,g2⟩:=S3 h2 FO m_ (hw.same nB)
   obtain⟨l1,g1⟩:=S3 h1 (Wk.l9 h2 FO) sF hw
   simp only[Prim.ev,List.map_append,List.length_map]at hr
   have hz:ti.zero.length=(xs.map (Lf.ev ρ)).length:=by rw[l1,yU,hT.Fz]
   rw[hz,List.take_left,List.drop_left]at hr
   obtain⟨b,hb,hr⟩:=Option.bind_eq_some_iff.1 hr
   cases hr
   refine⟨b,KH,?_⟩
   rw[run_equalIn_struct w 9999 t _ _ (by rw[hfo];exact hu) hp,hfo]
   exact S2 (d:=9998) hef hb (λj v hj=>by simpa using g1 j v hj) (λj v hj=>by simpa using g2 j v hj)
  have fin:∀(kk:Wk) (y1:Lf) (b:Bool),b9 d o kk (.v false [.p y1])=k'->dy M B d up ρ G a w kk G->kk.ct.i=ct.i->y1.fN ρ=some (.c (.bool b))->
    ((do eqGuard op t x y (a.eval x) (a.eval y);binOp op t (a.eval x) (a.eval y):Sem Value)).run P w=.ok (.bool b) w->bT P M B d up ρ a w s o k'.w Q∧k'.ct.i=ct.i:=by
   intro kk y1 b hp wP hi hv hr
   subst hp
   refine⟨tW h wP hn ?_ (FA (v:=.bool b) hv rfl) (λi hi=>by simp[dt,dN]at hi) Q,by rw[oL];exact hi⟩
   unfold execOp
   rw[ho]
   show Sem.run P (do let v <-(do eqGuard op t x y (a.eval x) (a.eval y);binOp op t (a.eval x) (a.eval y):Sem Value);pure (Next.value v)) w=_
   rw[Sem.run_bind,hr];rfl
  have wP:=((hw.same nB).same nr).same (Wk.bM k3 (.eqs (ti.zero.map np)) (xs++ys))
  have lA:(k3.em (.eqs (ti.zero.map np)) (xs++ys)).1.ct.i=ct.i:=by rw[(Wk.bM _ _ _).i,nr.i,nB.i]
  have hpd:∀{kk:Wk} {y1:Lf},b9 d o kk (.v false [.p y1])=k'->kk.bJ S ρ:=λhp=>by rw[<-hp]at hd;exact cX.1 hd
  cases op<;>simp only at P8<;>try cases P8
  ·have hp:b9 d o (k3.em (.eqs (ti.zero.map np)) (xs++ys)).1 (.v false [.p (k3.em (.eqs (ti.zero.map np)) (xs++ys)).2])=k':=Option.some.inj lK
   obtain⟨b,hb,eV⟩:=key (hpd hp)
   refine fin _ _ b hp wP lA hb ?_
   rw[S4,qT,Sem.run_bind,KG]
   simp only[Result.andThen_ok]
   rw[run_eql_struct,eV];rfl
  ·have hp:b9 d o ((k3.em (.eqs (ti.zero.map np)) (xs++ys)).1.em (.un .not) [(k3.em (.eqs (ti.zero.map np)) (xs++ys)).2]).1 (.v false [.p ((k3.em (.eqs (ti.zero.map np)) (xs++ys)).1.em (.un .not) [(k3.em (.eqs (ti.zero.map np)) (xs++ys)).2]).2])=k':=Option.some.inj lK
   obtain⟨Bq,r,hr,KH⟩:=Wk.bV (hpd hp)
   obtain⟨b,hb,eV⟩:=key Bq
   simp only[List.map_cons,List.map_nil,Lf.bU hb,Prim.ev,T.val,Option.bind_some,ZR,bF]at hr
   subst hr
   refine fin _ _ (!b) hp (wP.same (Wk.bM _ _ _)) (by rw[(Wk.bM _ _ _).i];exact lA) KH ?_
   rw[S4,qT,Sem.run_bind,KG]
   simp only[Result.andThen_ok]
   rw[run_neq_struct,eV];rfl
end
def Gh.stored(G:Gh)(id i off n:Nat)(mv:Mv):Gh where
 ω:=λc=>match G.ω c with
  |some (.o j p)=>if j=id then(match p with
    | []=>some (.o id [])
    |(r,k)::p=>if r=i∧off<=k∧k<off+n then none else some (.o id ((r,k)::p)))
   else(match lM mv j with
    |some q=>some (.o id ((i,off+q)::p))
    |none=>some (.o j p))
  |l=>l
 β:=G.β
 H:=λj p=>if j=id then(match p with
   | []=>G.H id []
   |(r,k)::p=>if r=i∧off<=k∧k<off+n then(match hZ mv (k-off)with
     |some j2=>G.H j2 p
     |none=>.slice none 0 0)
    else G.H id ((r,k)::p))
  else G.H j p
 hs:=λj p=>by
  by_cases hj:j=id
  ·simp only[hj,if_true]
   cases p with
   |nil=>exact G.hs id []
   |cons x p=>
    obtain⟨r,k⟩:=x
    by_cases hc:r=i∧off<=k∧k<off+n
    ·simp only[if_pos hc]
     cases hZ mv (k-off)with
     |none=>exact⟨_,_,_,rfl⟩
     |some j2=>exact G.hs j2 p
    ·simp only[if_neg hc];exact G.hs id _
  ·simp only[hj,if_false];exact G.hs j p
section
variable {M:Nat->Prop} {B:eT} {d:Nat} {up:Nat->Nat->Value} {ρ:List T} {G:Gh} {a:Act} {w:World} {S:Nat->aB} {P:Program}
variable {cx:Cx} {cV ft oi:Nat} {s:St} {R:List bD} {ct:Ct} {k':Wk} {o:Oper} {Q:Exit->Act->World->Prop}
theorem Gh.Aa{G:Gh}{id i off n:Nat}{mv:Mv}(jS:id%4=0){c:Nat}{l:Lb}(hl:G.ω c=some l)(hq:qt l=true):
  (G.stored id i off n mv).ω c=none∨∃l',(G.stored id i off n mv).ω c=some l'∧qt l'=true:=by
 cases l with
 |o j p=>
  simp only[Gh.stored,hl]
  by_cases hj:j=id
  ·subst hj
   rw[if_pos rfl]
   cases p with
   |nil=>exact absurd hq (by rw[tR (by omega)];simp)
   |cons x p=>
    obtain⟨r,k⟩:=x
    simp only
    split
    ·exact .inl rfl
    ·exact .inr ⟨_,rfl,hq⟩
  ·rw[if_neg hj]
   cases lM mv j with
   |some q=>exact .inr ⟨_,rfl,xE (by omega) (by simp)⟩
   |none=>exact .inr ⟨_,rfl,hq⟩
 |_=>simp[qt]at hq
theorem acM{x ix:Lf}{ms:List Bool}{wd off i:Nat}{xs:List (List T)}{ts:List T}{t:T}(hx:x.fN ρ=some (.l xs))(hi:mY ρ ix=some i)
  (h:Prim.ev (.fv ms wd off) (x.ev ρ::ix.ev ρ::ts)=some t):∃r,xs[i]?=some r∧r.length=wd∧off+ts.length<=r.length∧sM ms ts=true∧t=.l (setRow xs i off ts):=by
 obtain⟨k,hk⟩:=zO hi
 rw[Lf.bU hx,hk]at h
 simp only[Prim.ev,Cv,T.rows,T.int,Option.bind_some,Int.toNat_natCast]at h
 cases hr:xs[i]? with
 |none=>simp[hr]at h
 |some r=>
  simp only[hr,Option.bind_some]at h
  split at h
  ·rename_i g1
   split at h
   ·rename_i g2
    split at h
    ·rename_i g3
     simp only[bF]at h
     exact⟨r,rfl,g1,by omega,g3,h.symm⟩
    ·cases h
   ·cases h
  ·cases h
theorem acN(dW:ew P cx)(h:Rel M B d up s ρ G a w)(hn:∀n,o.dst=some n->n<a.tmps.size){t:Nat}{x y:Operand}(ho:o.op=.store t x y)
  (hk:∃k1,JF cx ⟨s.only R,[],ct,[]⟩ t (cz d (Wk.get ⟨s.only R,[],ct,[]⟩) x) (cz d (Wk.get ⟨s.only R,[],ct,[]⟩) y)=some k1∧b9 d o k1 .un=k')(hd:k'.bJ S ρ):bT P M B d up ρ a w s o k'.w Q∧k'.ct.i=ct.i:=by
 have hw:=dy.start h R ct
 obtain⟨k1,cC,rfl⟩:=hk
 have fI:=cX.1 hd
 unfold JF at cC
 split at cC
 ·rename_i id ix wd off hx
  simp only[cN]at cC
  obtain⟨ti,fQ,cs,lB,cC⟩:=cC
  cases hl:(Nat.beq cs.length ti.sz&&ti.zero.any fJ&&Nat.beq (id%4) 0)with
  |false=>simp[hl]at cC
  |true=>
   simp only[hl,cond_true]at cC
   simp only[bI]at hl
   have hlen:=dU hl.1.1
   have jS:id%4=0:=dU hl.2
   split at cC
   ·rename_i x0 EC
    simp only[cN]at cC
    obtain⟨⟨k2,xs⟩,nE,cC⟩:=cC
    simp only at cC
    split at cC
    ·rename_i x1 S5
     simp only[bF]at cC
     subst cC
     obtain⟨hr,hm⟩:=hw.jc y
     obtain⟨yQ,_⟩:=hw.jc x
     rw[hx]at yQ
     obtain⟨p,b,n,cap,i,hp,hH,hi,jH,acO⟩:=yQ
     simp only[nz,bF]at hp
     subst hp
     unfold cellsOf at lB
     split at lB
     ·rename_i ag es0 eD
      cases lB
      rw[eD]at hr hm
      have uS:=Sh hr
      have qI:=uS.length
      have hvl:(a.eval y).cells.toList.length=ti.sz:=by rw[<-qI,hlen]
      obtain⟨a1,a2,a3,a4,mv,W1,a5,a6,a7,a8,a9⟩:=P6 hw (show lL ⟨s.only R,[],ct,[]⟩ ⟨s.only R,[],ct,[]⟩ [] from⟨rfl,λr=>by simp[St.look]⟩) (λr u h=>by cases h) uS hm nE 0
      rw[List.append_nil]at a5
      have ej:=hw.obj id
      rw[EC]at ej
      obtain⟨tt,Bp,bQ⟩:=ej
      have yV:W1.look (.o id)=none:=by
       cases hl:W1.look (.o id)with
       |none=>rfl
       |some u=>
        obtain⟨_,j,_,rfl,_,_⟩:=a7 _ _ hl
        have:k2.get (.o id)=.un:=by unfold Wk.get;rw[a5.2,hl];simp
        rw[this]at S5;cases S5
      have S6:∀q j,(q,j)∈mv->j≠id:=by
       intro q j hq he
       subst he
       have:=(a6 q j hq).2.2.1
       rw[yV]at this;cases this
      have as6:lM mv id=none:=by
       cases hm:lM mv id with
       |none=>rfl
       |some q=>exact absurd rfl (S6 q id (FQ hm))
      obtain⟨as7,t',nu,Ez⟩:=Wk.bV fI
      cases bQ with
      |nil uf=>rw[hH]at uf;cases uf
      | @l _ _ rows b' FD zW arr elem cv g1 g2 g3 g4 g5 g6 g7 g8 g9 g10 g11=>
       rw[hH]at g1
       cases g1
       simp only[List.map_cons]at nu
       obtain⟨r,qF,sC,EA,vQ,rfl⟩:=acM Bp hi nu
       have yX:=a9 mv (λ_ _=>rfl) λj t ⟨xx,hxx,ht⟩ uj=>by
        refine CZ _ _ vQ j t ?_ ?_
        ·cases KD:ti.zero[j]? with
         |none=>rw[KD]at uj;cases uj
         |some zc=>rw[KD]at uj;simp at uj;simp[KD,uj]
        ·rw[List.getElem?_map,hxx];simp[Lf.bU ht]
       obtain⟨b1,b3⟩:=yX.at
       have hrw:r.length=FD:=g6 r (List.mem_of_getElem? qF)
       have sA:wd=FD:=by rw[<-sC,hrw]
       subst sA
       have rM:(xs.map (Lf.ev ρ)).length=(a.eval y).cells.toList.length:=by rw[List.length_map,b1]
       have hT:=dW.ty _ _ fQ
       have hib:i<rows.length:=(List.getElem?_eq_some_iff.1 qF).1
       have lZ:i*wd+off+(a.eval y).cells.toList.length<=arr.size:=by
        rw[g5]
        have:(i+1)*wd<=cap*wd:=Nat.mul_le_mul_right _ (by omega)
        rw[Nat.add_mul]at this
        omega
       have eV:=ZZ (P:=P) (t:=t) hT (b:=b) (off:=i*wd+off) (v:=a.eval y) (by rw[<-hvl];simp) g4 (by simpa using lZ) (λu hu=>uS.one u hu)
       rw[<-acO]at eV
       have iW:=FH (P:=P) ho eV
       generalize S7:(arr.toList.take (i*wd+off)++(a.eval y).cells.toList++arr.toList.drop (i*wd+off+(a.eval y).cells.toList.length)).toArray=lJ at iW
       have C3:lJ=z7 (a.eval y).cells.toList (i*wd+off) arr:=by
        rw[<-S7]
        exact Array.ext' (by rw[ZV _ _ _ lZ])
       have vH:∀k,lJ[k]?=if i*wd+off<=k∧k<i*wd+off+(a.eval y).cells.toList.length then(a.eval y).cells.toList[k-(i*wd+off)]? else arr[k]?:=λk=>by rw[C3];exact P0 _ _ _ _ lZ
       have vR:M id:=(hw.rel.iO b _ g3).1
       have FR:∀i' j' ,i'<rows.length->j'<wd->((i*wd+off<=i'*wd+j'∧i'*wd+j'<i*wd+off+(a.eval y).cells.toList.length)↔(i'=i∧off<=j'∧j'<off+(a.eval y).cells.toList.length)):=by
        intro i' j' aO sR
        rw[rM]at EA
        constructor
        ·rintro⟨h1,h2⟩
         have sO:i'=i:=by
          rcases Nat.lt_trichotomy i' i with bE|heq|So
          ·have:(i'+1)*wd<=i*wd:=Nat.mul_le_mul_right _ bE
           rw[Nat.add_mul]at this;omega
          ·exact heq
          ·have:(i+1)*wd<=i'*wd:=Nat.mul_le_mul_right _ So
           rw[Nat.add_mul]at this;omega
         subst sO
         exact⟨rfl,by omega,by omega⟩
        ·rintro⟨rfl,h1,h2⟩
         omega
       let ts:=xs.map (Lf.ev ρ)
       let G':=G.stored id i off (a.eval y).cells.toList.length mv
       have hK:dA (qC (fA d o .un++((bD.o id,SV.ob true (k2.em (.fv (ti.zero.map λz=>!fJ z) wd off) (x0::ix::xs)).2)::W1))) (λ_=>False) G w G' (w.setRow b lJ):=by
        have jT:∀j p,¬qC (fA d o .un++((bD.o id,SV.ob true (k2.em (.fv (ti.zero.map λz=>!fJ z) wd off) (x0::ix::xs)).2)::W1)) (.o j p)->j≠id∧lM mv j=none:=by
         intro j p hj
         constructor
         ·intro e
          subst e
          refine hj ?_
          show St.look _ (bD.o j)≠none
          rw[nC]
          intro e
          have:=(Option.or_eq_none_iff.1 e).2
          simp[St.look,bD.beq]at this
         ·cases hm:lM mv j with
          |none=>rfl
          |some q=>
           exfalso
           refine hj ?_
           show St.look _ (bD.o j)≠none
           rw[nC]
           intro e
           have h1:=(Option.or_eq_none_iff.1 e).2
           have h2:=(a6 q j (FQ hm)).2.2.1
           simp only[St.look]at h1
           cases hb:(bD.o id).beq (.o j)with
           |true=>rw[hb]at h1;cases h1
           |false=>rw[hb]at h1;simp only[cond_false]at h1;rw[h2]at h1;cases h1
        refine⟨by rw[IU];exact Nat.le_refl _,λc hc h0=>⟨vA h0 (λh1=>by simp[G',Gh.stored,h1]) λl hl hq=>?_,setRow_other _ _ _ _ λe=>?_⟩,λc hc h0=>by simp[G',Gh.stored,h0],λc l hc hn=>⟨?_,setRow_other _ _ _ _ λe=>?_⟩,λj _=>⟨rfl,λp hp=>?_⟩⟩
        ·exact Gh.Aa (by omega) hl hq
        ·subst e;exact xB g3 (tR (by omega)) h0
        ·cases l with
         |f=>simp[G',Gh.stored,hc]
         |x j=>simp[G',Gh.stored,hc]
         |o j p=>obtain⟨h1,h2⟩:=jT j p hn;simp[G',Gh.stored,hc,h1,h2]
        ·subst e
         rw[g3]at hc
         cases hc
         exact(jT id [] hn).1 rfl
        ·by_cases hj:j=id
         ·subst hj
          rcases hp with rfl|hp|hp
          ·simp[G',Gh.stored]
          ·omega
          ·exact absurd rfl (jT j [] (hp [])).1
         ·simp[G',Gh.stored,hj]
       refine⟨?_,by rw[oL];show k2.ct.i=ct.i;rw[a1]⟩
       simp only[bT,Oper.wp,iW,Oper.upon]
       have hWk:∀r',(b9 d o ((k2.em (.fv (ti.zero.map λz=>!fJ z) wd off) (x0::ix::xs)).1.set (.o id) (.ob true (k2.em (.fv (ti.zero.map λz=>!fJ z) wd off) (x0::ix::xs)).2)) .un).w.look r'=
         (St.look (fA d o .un++((bD.o id,SV.ob true (k2.em (.fv (ti.zero.map λz=>!fJ z) wd off) (x0::ix::xs)).2)::W1)) r').or (St.look (Wk.w ⟨s.only R,[],ct,[]⟩) r'):=by
        refine z8 (W2:=(bD.o id,SV.ob true (k2.em (.fv (ti.zero.map λz=>!fJ z) wd off) (x0::ix::xs)).2)::W1) (λr'=>?_)
        rw[show((k2.em (.fv (ti.zero.map λz=>!fJ z) wd off) (x0::ix::xs)).1.set (.o id) (.ob true (k2.em (.fv (ti.zero.map λz=>!fJ z) wd off) (x0::ix::xs)).2)).w.look r'=_ from wT r']
        rw[show(k2.em (.fv (ti.zero.map λz=>!fJ z) wd off) (x0::ix::xs)).1.w.look r'=k2.w.look r' from rfl,a5.2 r',<-Option.or_assoc]
        congr 1
        simp only[St.look]
        cases(bD.o id).beq r'<;>simp
       refine⟨G',J' h hw (W2:=fA d o .un++((bD.o id,SV.ob true (k2.em (.fv (ti.zero.map λz=>!fJ z) wd off) (x0::ix::xs)).2)::W1)) hWk hK (λi hi=>hi.elim) (λi hi=>hi) (λn qH=>Kb qH) (Ki _ _ _) ?_,Cz _ _ _⟩
       have C4:∀c,c≠b->(w.setRow b lJ).heap[c]?=w.heap[c]?:=λc hc=>setRow_other _ _ _ _ hc
       have S8:(w.setRow b lJ).heap[b]?=some (.cells lJ elem (0,0)):=setRow_heap _ _ _ _ _ _ g4
       have S9:fg G' (w.setRow b lJ) id true [] (.l (setRow rows i off ts)):=by
        have KI:=λi' j'=>Kd (xs:=rows) (ts:=ts) qF EA i' j'
        have P9:ts.length=(a.eval y).cells.toList.length:=rM
        refine .l (wd:=wd) (cv:=λi' j'=>lJ.getD (i'*wd+j') undef) (by rw[Ey];simpa[G',Gh.stored]using hH) ⟨by rw[Ey];exact g2.1,λhe=>g2.2 (by have:=congrArg List.length he;rw[Ey]at this;exact List.eq_nil_of_length_eq_zero this)⟩ (by simp[G',Gh.stored,g3]) S8
         (by rw[C3,PZ];exact g5) (Sm g6 qF EA) ?_ ?_ (λ_ _ _ _ hf=>by cases hf) ?_ ?_
        all_goals
         intro i' j'
         have FT:∀t,dP (setRow rows i off ts) i' j'=some t->i'<rows.length∧j'<wd:=by
          intro t ht
          obtain⟨rr,_,je,_,q1,q2⟩:=yN ht
          rw[Ey]at q1
          exact⟨q1,by rw[<-Sm g6 qF EA rr je];exact q2⟩
        ·intro t ht
         obtain⟨q1,q2⟩:=FT t ht
         have bE:i'*wd+j'<lJ.size:=by
          rw[C3,PZ,g5]
          exact Nat.lt_of_lt_of_le (CS q1 q2) (Nat.mul_le_mul_right _ g2.1)
         simp[Array.getD_eq_getD_getElem?,bE]
        ·intro v ht
         obtain⟨q1,q2⟩:=FT _ ht
         rw[KI]at ht
         rw[Array.getD_eq_getD_getElem?,vH]
         split at ht
         ·rename_i hc
          rw[P9]at hc
          rw[if_pos ((FR i' j' q1 q2).2 hc)]
          obtain⟨u,hu,o3⟩:=b3 (j'-off) _ ht
          rw[show i'*wd+j'-(i*wd+off)=j'-off by rw[hc.1];omega,hu]
          rcases o3 with⟨u',e1,e2,e3⟩|⟨e1,_⟩|⟨_,_,_,e1⟩
          ·cases e1;subst e2;exact⟨rfl,e3⟩
          ·cases e1
          ·cases e1
         ·rename_i hc
          rw[P9]at hc
          rw[if_neg (λhh=>hc ((FR i' j' q1 q2).1 hh)),g7 i' j' _ ht]
          exact g8 i' j' v ht
        ·intro ys ht _
         obtain⟨q1,q2⟩:=FT _ ht
         rw[KI]at ht
         rw[Array.getD_eq_getD_getElem?,vH]
         split at ht
         ·rename_i hc
          rw[P9]at hc
          rw[if_pos ((FR i' j' q1 q2).2 hc)]
          obtain⟨u,hu,o3⟩:=b3 (j'-off) _ ht
          rw[show i'*wd+j'-(i*wd+off)=j'-off by rw[hc.1];omega,hu]
          rw[Nat.zero_add]at o3
          rcases o3 with⟨u',e1,_⟩|⟨e1,e2,e3⟩|⟨i2,e1,e2,_⟩
          ·cases e1
          ·have tw:i'=i∧off<=j'∧j'<off+(a.eval y).cells.size:=by simpa using hc
           simp[G',Gh.stored,tw,e2,e3]
          ·have tw:i'=i∧off<=j'∧j'<off+(a.eval y).cells.size:=by simpa using hc
           simp[G',Gh.stored,tw,e2,e1]
         ·rename_i hc
          rw[P9]at hc
          rw[if_neg (λhh=>hc ((FR i' j' q1 q2).1 hh)),g7 i' j' _ ht]
          have:=g10 i' j' ys ht rfl
          simp only[List.nil_append]at this
          simp only[Option.getD_some,this,List.nil_append]
          show _=(if id=id then _ else _)
          rw[if_pos rfl]
          simp only[if_neg hc]
        ·intro ys ht _
         obtain⟨q1,q2⟩:=FT _ ht
         rw[KI]at ht
         split at ht
         ·rename_i hc
          rw[P9]at hc
          obtain⟨u,hu,o3⟩:=b3 (j'-off) _ ht
          rw[Nat.zero_add]at o3
          rcases o3 with⟨u',e1,_⟩|⟨e1,e2,e3⟩|⟨i2,e1,e2,e3⟩
          ·cases e1
          ·cases e1
           have tw:i'=i∧off<=j'∧j'<off+(a.eval y).cells.size:=by simpa using hc
           exact .nil (by simp[G',Gh.stored,tw,e3])
          ·have nK:=(a8 _ i2 (C0 e1)).2
           have dI:=S6 _ i2 (C0 e1)
           refine e3.move rfl (λc q j3=>?_) λq=>?_
           ·simp only[List.nil_append]at j3
            refine⟨?_,C4 c λe=>?_⟩
            ·simp only[G',Gh.stored,j3,if_neg dI,nK]
             rw[hc.1,show off+(j'-off)=j' by omega]
             rfl
            ·subst e;rw[g3]at j3;cases j3;exact dI rfl
           ·simp only[G',Gh.stored,List.nil_append,List.cons_append,if_true,if_pos hc,e1]
         ·rename_i hc
          rw[P9]at hc
          have:=g11 i' j' ys ht rfl
          simp only[List.nil_append]at this⊢
          refine this.move rfl (λc q j3=>?_) λq=>?_
          ·refine⟨?_,C4 c λe=>?_⟩
           ·simp only[List.cons_append,List.nil_append]at j3⊢
            simp only[G',Gh.stored,j3,if_true,if_neg hc]
           ·subst e;rw[g3]at j3;cases j3
          ·simp only[G',Gh.stored,List.cons_append,List.nil_append,if_true,if_neg hc]
       refine⟨λe n u he hl=>?_,λb u hl=>?_,λj u hl=>?_,λr u hl j hj=>?_,λj hj=>?_,λc l hc=>?_⟩
       ·rcases l7 hl with⟨n',gO,e1,rfl⟩|hl
        ·trivial
        ·rcases j8 hl with⟨e1,_⟩|hl
         ·cases e1
         ·obtain⟨_,j,e1,_⟩:=a7 _ _ hl;cases e1
       ·rcases l7 hl with⟨n',gO,e1,rfl⟩|hl
        ·cases e1
        ·rcases j8 hl with⟨e1,_⟩|hl
         ·cases e1
         ·obtain⟨_,j,e1,_⟩:=a7 _ _ hl;cases e1
       ·rcases l7 hl with⟨n',gO,e1,rfl⟩|hl
        ·cases e1
        ·rcases j8 hl with⟨e1,rfl⟩|hl
         ·cases e1;exact⟨_,Ez,S9⟩
         ·obtain⟨_,j',e1,rfl,_⟩:=a7 _ _ hl;trivial
       ·rcases l7 hl with⟨n',gO,e1,rfl⟩|hl
        ·simp[dt]at hj
        ·rcases j8 hl with⟨e1,rfl⟩|hl
         ·simp[dt]at hj
         ·obtain⟨_,j',e1,rfl,_⟩:=a7 _ _ hl;simp[dt]at hj
       ·have:∀r:bD,(r=.x j∨r=.o j)->St.look (fA d o .un++((bD.o id,SV.ob true (k2.em (.fv (ti.zero.map λz=>!fJ z) wd off) (x0::ix::xs)).2)::W1)) r≠none->M j:=by
         intro r hr hl
         obtain⟨u,hu⟩:=Option.ne_none_iff_exists'.1 hl
         rcases l7 hu with⟨n',gO,e1,rfl⟩|hl
         ·rcases hr with rfl|rfl<;>cases e1
         ·rcases j8 hl with⟨e1,_⟩|hl
          ·rcases hr with rfl|rfl
           ·cases e1
           ·cases e1;exact vR
          ·obtain⟨_,j',e1,_,hm,_⟩:=a7 _ _ hl
           rcases hr with rfl|rfl
           ·cases e1
           ·cases e1;exact hm
        rcases hj with hj|hj
        ·exact this _ (.inl rfl) hj
        ·exact this _ (.inr rfl) hj
       ·rw[IU]
        cases S_:G.ω c with
        |none=>simp[G',Gh.stored,S_]at hc
        |some l'=>
         have lu:=hw.rel.iO c l' S_
         refine⟨?_,lu.2⟩
         cases l' with
         |f=>simp[G',Gh.stored,S_]at hc;subst hc;exact lu.1
         |x j=>simp[G',Gh.stored,S_]at hc;subst hc;exact lu.1
         |o j p=>
          simp only[G',Gh.stored,S_]at hc
          split at hc
          ·rename_i hj
           subst hj
           split at hc
           ·cases hc;exact vR
           ·split at hc
            ·cases hc
            ·cases hc;exact vR
          ·split at hc
           ·cases hc;exact vR
           ·cases hc;exact lu.1
     ·cases lB
    ·cases cC
   ·cases cC
 ·cases cC
end
end Go.Proofs.YtjimmglpkndemaaGreatC

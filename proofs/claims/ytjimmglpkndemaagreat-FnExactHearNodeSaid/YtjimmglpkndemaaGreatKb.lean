/- The walk by reflection: a part of its laws, for any function. Conditions: none. -/
import Derived.Test.YtjimmglpkndemaaGreatKa
import Derived.Laws.Slices
import Derived.Deep.AppendSrc
namespace Go.Proofs.YtjimmglpkndemaaGreatC
set_option linter.unusedVariables false
theorem Le{xs:List (List T)}{i off:Nat}{r ts:List T}(hr:xs[i]?=some r)(hf:off+ts.length<=r.length)(i' j':Nat):
  d_ (setRow xs i off ts) i' j'=if i'=i∧off<=j'∧j'<off+ts.length then ts[j'-off]? else d_ xs i' j':=by
 unfold d_ setRow
 rw[List.getElem?_modify]
 by_cases hi:i=i'
 ·subst hi
  simp only[hr,if_true,Option.map_eq_map,Option.map_some,Option.bind_some,true_and]
  have hl:(r.take off).length=off:=by simp;omega
  by_cases h1:j'<off
  ·rw[if_neg (by omega),List.append_assoc,List.getElem?_append_left (by omega),List.getElem?_take,if_pos h1]
  ·rw[List.append_assoc,List.getElem?_append_right (by omega),hl]
   by_cases h2:j'<off+ts.length
   ·rw[if_pos ⟨by omega,h2⟩,List.getElem?_append_left (by omega)]
   ·rw[if_neg (by omega),List.getElem?_append_right (by omega),List.getElem?_drop]
    congr 1
    omega
 ·rw[if_neg (by omega:¬(i'=i∧_))]
  cases xs[i']? <;>simp[hi]
theorem Ez{xs:List (List T)}{i off:Nat}{ts:List T}:(setRow xs i off ts).length=xs.length:=by simp[setRow]
theorem Th{xs:List (List T)}{i off wd:Nat}{r ts:List T}(hw:∀r∈xs,r.length=wd)(hr:xs[i]?=some r)(hf:off+ts.length<=r.length):
  ∀r∈setRow xs i off ts,r.length=wd:=by
 intro r' iM
 obtain⟨n,hn⟩:=List.getElem?_of_mem iM
 unfold setRow at hn
 rw[List.getElem?_modify]at hn
 by_cases hi:i=n
 ·subst hi
  simp only[hr,if_true,Option.map_eq_map,Option.map_some,bG]at hn
  have:=hw r (List.mem_of_getElem? hr)
  subst hn
  simp
  omega
 ·simp only[if_neg hi]at hn
  cases hx:xs[n]? with
  |none=>simp[hx]at hn
  |some r''=>simp[hx]at hn;subst hn;exact hw _ (List.mem_of_getElem? hx)
theorem fB.sib{G:Gh}{w w':World}{id:Nat}{p:List (Nat×Nat)}{t:T}{dp:Bool}(h:fB G w id dp p t)(gR:dp=true)
  (hh:∀c q,G.ω c=some (.o id (p++q))->w'.heap[c]?=w.heap[c]?):fB G w' id dp p t:=by
 induction h with
 |nil h=>exact .nil h
 | @l dp p xs b wd cap b9 elem cv h1 h2 h3 h4 h5 h6 h7 h8 h9 n_ xM ih=>
  refine .l h1 h2 h3 ((hh b [] (by simpa using h3)).trans h4) h5 h6 h7 h8 (λi j ys hy hd=>by rw[gR]at hd;cases hd) n_ λi j ys hy hd=>?_
  exact ih i j ys hy hd rfl λc q hc=>hh c ((i,j)::q) (by simpa using hc)
theorem fB.put{G:Gh}{w w':World}{id:Nat}{dp:Bool}{p:List (Nat×Nat)}{xs:List (List T)}{b n cap:Nat}(h:fB G w id dp p (.l xs))
  (hH:G.H id p=.slice (some ⟨b,0,none⟩) n cap)(Lg:qt (.o id p)=false){i off:Nat}{r ts:List T}{vs:List Value}(hr:xs[i]?=some r)(hf:off+ts.length<=r.length)(hl:vs.length=ts.length)
  {b9:Array Value}{elem:TypeId}(hb:w.heap[b]?=some (.cells b9 elem (0,0)))
  (jU:w'.heap[b]?=some (.cells (b9.toList.take (i*r.length+off)++vs++b9.toList.drop (i*r.length+off+vs.length)).toArray elem (0,0)))
  (hs:w'.heap.size=w.heap.size)(hh:∀c,c≠b->w'.heap[c]?=w.heap[c]?)
  (hd:∀(j:Nat) (t:T) (v:Value),ts[j]?=some t->vs[j]?=some v->fm G.q w' t v)(mF:dp=true->ts.all eQ=true):fB G w' id dp p (.l (setRow xs i off ts)):=by
 cases h with
 |nil JF=>rw[hH]at JF;cases JF
 | @l _ _ _ b2 wd Lh aAt azi cv h1 h2 h3 h4 h5 h6 h7 h8 h9 n_ xM=>
  rw[hH]at h1
  cases h1
  rw[hb]at h4
  cases h4
  have hrl:r.length=wd:=h6 r (List.mem_of_getElem? hr)
  rw[hrl]at jU
  have Ti:i<xs.length:=(List.getElem?_eq_some_iff.1 hr).1
  have lJ:i*wd+off+vs.length<=b9.size:=by
   rw[h5]
   have:(i+1)*wd<=cap*wd:=Nat.mul_le_mul_right _ (by omega)
   rw[Nat.add_mul]at this
   omega
  have qz:∀c,c<w.heap.size->G.q c=none->G.q c=none∧w'.heap[c]?=w.heap[c]?:=λc _ hc=>⟨hc,hh c λe=>by subst e;exact wK h3 Lg hc⟩
  let sT:Nat->Nat->Value:=λi' j'=>if i'=i∧off<=j'∧j'<off+ts.length then vs.getD (j'-off) undef else cv i' j'
  have bI:=Le hr hf
  have qA:∀i' j',j'<wd->(b9.toList.take (i*wd+off)++vs++b9.toList.drop (i*wd+off+vs.length)).toArray[i'*wd+j']? =
    if i'=i∧off<=j'∧j'<off+ts.length then vs[j'-off]? else b9[i'*wd+j']?:=by
   intro i' j' vU
   rw[List.getElem?_toArray,<-ku_ _ _ _ lJ,Array.getElem?_toList,Rs _ _ _ _ lJ]
   have key:(i*wd+off<=i'*wd+j'∧i'*wd+j'<i*wd+off+vs.length)↔(i'=i∧off<=j'∧j'<off+ts.length):=by
    constructor
    ·rintro⟨g1,g2⟩
     have:i'=i:=by
      rcases Nat.lt_trichotomy i' i with bf|he|Li
      ·have:(i'+1)*wd<=i*wd:=Nat.mul_le_mul_right _ bf
       rw[Nat.add_mul]at this
       omega
      ·exact he
      ·have:(i+1)*wd<=i'*wd:=Nat.mul_le_mul_right _ Li
       rw[Nat.add_mul]at this
       omega
     subst this
     exact⟨rfl,by omega,by omega⟩
    ·rintro⟨rfl,g1,g2⟩
     exact⟨by omega,by omega⟩
   by_cases hc:i'=i∧off<=j'∧j'<off+ts.length
   ·rw[if_pos (key.2 hc),if_pos hc]
    congr 1
    obtain⟨rfl,_,_⟩:=hc
    omega
   ·rw[if_neg (λg=>hc (key.1 g)),if_neg hc]
  have inn:∀i' j' t,d_ (setRow xs i off ts) i' j'=some t->(i'=i∧off<=j'∧j'<off+ts.length)->∃v,vs[j'-off]?=some v∧sT i' j'=v∧fm G.q w' t v:=by
   intro i' j' t ht hc
   rw[bI,if_pos hc]at ht
   have bf:j'-off<vs.length:=by omega
   refine⟨vs[j'-off],List.getElem?_eq_getElem bf,?_,hd _ _ _ ht (List.getElem?_eq_getElem bf)⟩
   simp[sT,hc,List.getD,List.getElem?_eq_getElem bf]
  have out:∀i' j' t,d_ (setRow xs i off ts) i' j'=some t->¬(i'=i∧off<=j'∧j'<off+ts.length)->d_ xs i' j'=some t∧sT i' j'=cv i' j':=by
   intro i' j' t ht hc
   rw[bI,if_neg hc]at ht
   exact⟨ht,by simp only[sT,if_neg hc]⟩
  have xS:∀i' j' t,d_ (setRow xs i off ts) i' j'=some t->(i'=i∧off<=j'∧j'<off+ts.length)->dp=true->eQ t=true:=by
   intro i' j' t ht hc gR
   rw[bI,if_pos hc]at ht
   exact List.all_eq_true.1 (mF gR) t (List.mem_of_getElem? ht)
  refine .l (cv:=sT) (b:=b) (wd:=wd) (cap:=cap) (elem:=elem) (by rw[hH,Ez]) (by rw[Ez];exact⟨h2.1,λhe=>h2.2 (List.eq_nil_of_length_eq_zero (by rw[<-Ez,he];rfl))⟩) h3 jU ?_ (Th h6 hr hf) ?_ ?_ ?_ ?_ ?_
  ·rw[List.size_toArray,<-ku_ _ _ _ lJ,Array.length_toList,Rr];exact h5
  ·intro i' j' t ht
   have vU:j'<wd:=by
    obtain⟨r',iM,iX,_,_,bf⟩:=xL ht
    have:=Th h6 hr hf r' iX
    omega
   rw[qA i' j' vU]
   by_cases hc:i'=i∧off<=j'∧j'<off+ts.length
   ·obtain⟨v,g1,g2,_⟩:=inn i' j' t ht hc
    rw[if_pos hc,g1,g2]
   ·obtain⟨g1,g2⟩:=out i' j' t ht hc
    rw[if_neg hc,g2]
    exact h7 i' j' t g1
  ·intro i' j' v ht
   by_cases hc:i'=i∧off<=j'∧j'<off+ts.length
   ·obtain⟨u,g1,g2,g3⟩:=inn i' j' _ ht hc
    obtain⟨e,hs⟩:=g3.scalar
    exact⟨g2.trans e,hs⟩
   ·obtain⟨g1,g2⟩:=out i' j' _ ht hc
    rw[g2];exact h8 i' j' v g1
  ·intro i' j' ys ht gR
   by_cases hc:i'=i∧off<=j'∧j'<off+ts.length
   ·obtain⟨u,g1,g2,g3⟩:=inn i' j' _ ht hc
    rw[g2];exact g3
   ·obtain⟨g1,g2⟩:=out i' j' _ ht hc
    rw[g2];exact(h9 i' j' ys g1 gR).bm (by omega) qz
  ·intro i' j' ys ht gR
   by_cases hc:i'=i∧off<=j'∧j'<off+ts.length
   ·have:=xS i' j' _ ht hc gR
    simp[eQ]at this
   ·obtain⟨g1,g2⟩:=out i' j' _ ht hc
    rw[g2];exact n_ i' j' ys g1 gR
  ·intro i' j' ys ht gR
   by_cases hc:i'=i∧off<=j'∧j'<off+ts.length
   ·have:=xS i' j' _ ht hc gR
    simp[eQ]at this
   ·obtain⟨g1,g2⟩:=out i' j' _ ht hc
    refine(xM i' j' ys g1 gR).sib rfl λc q Lj=>hh c λe=>?_
    subst e
    rw[h3]at Lj
    simp at Lj
def nG:List (Nat×Nat)->T->T->Option T
 | [],_,u=>some u
 |(i,j)::p,.l xs,u=>(d_ xs i j).bind λs=>(nG p s u).bind λs'=>some (.l (setRow xs i j [s']))
 |_,_,_=>none
theorem ahH:∀{p:List (Nat×Nat)} {t:T} {ys:List (List T)},iU p t=some (.l ys)->∃xs,t=.l xs
 | [],t,ys,h=>by simp[iU]at h;exact⟨ys,h⟩
 |(i,j)::p,.l xs,ys,h=>⟨xs,rfl⟩
 |(i,j)::p,.c v,ys,h=>by simp[iU]at h
theorem ahI:∀{p:List (Nat×Nat)} {t t':T} {zs:List (List T)},nG p t (.l zs)=some t'->∃xs,t'=.l xs
 | [],t,t',zs,h=>by simp[nG]at h;exact⟨zs,h.symm⟩
 |(i,j)::p,.l xs,t',zs,h=>by
  simp only[nG,cN,bG]at h
  obtain⟨s,hs,s',FT,rfl⟩:=h
  exact⟨_,rfl⟩
 |(i,j)::p,.c v,t',zs,h=>by simp[nG]at h
theorem fB.nG{G:Gh}{w w':World}{id b:Nat}(hh:∀c,c≠b->w'.heap[c]?=w.heap[c]?):∀{p p0:List (Nat×Nat)} {t t':T} {ys zs:List (List T)},
  fB G w id true p0 t->iU p t=some (.l ys)->nG p t (.l zs)=some t'->G.ω b=some (.o id (p0++p))->fB G w' id true (p0++p) (.l zs)->fB G w' id true p0 t'
 | [],p0,t,t',ys,zs,h,hd,hb,iq,hs=>by
  simp only[Go.Proofs.YtjimmglpkndemaaGreatC.nG,bG]at hb
  subst hb
  simpa using hs
 |(i,j)::p,p0,t,t',ys,zs,h,hd,hb,iq,hs=>by
  cases h with
  |nil hH=>simp[iU,d_]at hd
  | @l _ _ xs b2 wd cap b9 elem cv h1 h2 h3 h4 h5 h6 h7 h8 h9 n_ xM=>
   simp only[iU,cN]at hd
   obtain⟨s,nv,oB⟩:=hd
   simp only[Go.Proofs.YtjimmglpkndemaaGreatC.nG,nv,Option.bind_some,cN,bG]at hb
   obtain⟨s',FT,rfl⟩:=hb
   obtain⟨us,rfl⟩:=ahH oB
   obtain⟨us',rfl⟩:=ahI FT
   have ih:=fB.nG hh (p:=p) (p0:=p0++[(i,j)]) (xM i j us nv rfl) oB FT (by simpa using iq) (by simpa using hs)
   obtain⟨r,hr,iX,JG,_,hjl⟩:=xL nv
   have hf:j+[T.l us'].length<=r.length:=by simp;omega
   have dH:b2≠b:=by intro e;subst e;rw[h3]at iq;simp at iq
   have bI:∀i' j',d_ (setRow xs i j [T.l us']) i' j'=if i'=i∧j'=j then some (T.l us')else d_ xs i' j':=by
    intro i' j'
    rw[Le hr hf]
    by_cases hc:i'=i∧j'=j
    ·obtain⟨rfl,rfl⟩:=hc
     rw[if_pos ⟨rfl,Nat.le_refl _,by simp⟩,if_pos ⟨rfl,rfl⟩];simp
    ·rw[if_neg (by simp only[List.length_singleton];omega),if_neg hc]
   refine .l (cv:=cv) (by rw[Ez];exact h1) (by rw[Ez];exact⟨h2.1,λhe=>h2.2 (List.eq_nil_of_length_eq_zero (by rw[<-Ez,he];rfl))⟩) h3 ((hh b2 dH).trans h4) h5 (Th h6 hr hf) ?_ ?_ (λi' j' ys' ht jW=>by cases jW) ?_ ?_
   ·intro i' j' t ht
    rw[bI]at ht
    split at ht
    ·rename_i hc;obtain⟨rfl,rfl⟩:=hc;exact h7 _ _ _ nv
    ·exact h7 _ _ _ ht
   ·intro i' j' v ht
    rw[bI]at ht
    split at ht
    ·cases ht
    ·exact h8 _ _ _ ht
   ·intro i' j' ys' ht _
    rw[bI]at ht
    split at ht
    ·rename_i hc;obtain⟨rfl,rfl⟩:=hc;exact n_ _ _ _ nv rfl
    ·exact n_ _ _ _ ht rfl
   ·intro i' j' ys' ht _
    rw[bI]at ht
    split at ht
    ·rename_i hc;obtain⟨rfl,rfl⟩:=hc;cases ht;exact ih
    ·rename_i hc
     refine(xM i' j' ys' ht rfl).sib rfl λc q Lj=>hh c λe=>?_
     subst e
     rw[iq]at Lj
     simp at Lj
     exact hc ⟨Lj.1.1.symm,Lj.1.2.symm⟩
section
variable {S:Nat->af} {ρ:List T}
theorem Wk.sU:∀(q:np) (k:Wk) (x y:Lf),k.fq (k.up x y q).1
 | [],k,x,y=>.refl k
 |(ix,w,j)::q,k,x,y=>by
  simp only[Wk.up]
  exact((Wk.bR k _ _).trans (Wk.sU q _ _ _)).trans (Wk.bR _ _ _)
theorem Wk.wQ:∀(q:np) (k:Wk) (x y:Lf),(k.up x y q).1.bJ S ρ->k.bJ S ρ
 | [],_,_,_,h=>h
 |(ix,w,j)::q,k,x,y,h=>by
  simp only[Wk.up]at h
  exact(Wk.bX (Wk.wQ q _ _ _ (Wk.bX h).1)).1
theorem ahK{x ix z:Lf}{w j i:Nat}{xs:List (List T)}{t u:T}(hx:x.fW ρ=some (.l xs))(hi:mf ρ ix=some i)(hz:z.fW ρ=some u)
  (h:Prim.ev (.iS w j) [x.ev ρ,ix.ev ρ,z.ev ρ]=some t):t=.l (setRow xs i j [u]):=by
 obtain⟨k,hk⟩:=yX hi
 rw[Lf.bW hx,hk,Lf.bW hz]at h
 simp only[Prim.ev,Bg,T.rows,T.int,Option.bind_some,Int.toNat_natCast]at h
 cases hr:xs[i]? with
 |none=>simp[hr]at h
 |some r=>
  simp only[hr,Option.bind_some]at h
  split at h
  ·split at h
   ·simp only[bG]at h;exact h.symm
   ·cases h
  ·cases h
theorem Wk.xT:∀(q:np) (k:Wk) (x y:Lf) {t:T} {zs:List (List T)} {p:List (Nat×Nat)},(k.up x y q).1.bJ S ρ->x.fW ρ=some t->y.fW ρ=some (.l zs)->gU ρ q=some p->
  (q=[]∨∃xs,t=.l xs)->∃t',nG p t (.l zs)=some t'∧(k.up x y q).2.fW ρ=some t'
 | [],k,x,y,t,zs,p,h,hx,hy,hp,_=>by
  simp only[gU]at hp
  cases hp
  exact⟨.l zs,rfl,hy⟩
 |(ix,w,j)::q,k,x,y,t,zs,p,h,hx,hy,hp,ht=>by
  simp only[Wk.up]at h⊢
  obtain⟨xs,rfl⟩:=ht.resolve_left (by simp)
  simp only[gU]at hp
  cases hi:mf ρ ix with
  |none=>simp[hi]at hp
  |some i=>
   cases hq:gU ρ q with
   |none=>simp[hi,hq]at hp
   |some p'=>
    simp[hi,hq]at hp
    subst hp
    obtain⟨h2,t',jV,jy⟩:=Wk.bX h
    obtain⟨_,u,hu,huv⟩:=Wk.bX (Wk.wQ q _ _ _ h2)
    obtain⟨ys,rfl,bI,_⟩:=FH hx hi hu
    obtain⟨v,hv,tT⟩:=Wk.xT q _ _ _ h2 huv hy hq (.inr ⟨ys,rfl⟩)
    have:=ahK hx hi tT jV
    subst this
    exact⟨_,by simp[nG,bI,hv],jy⟩
end
section
variable {M:Nat->Prop} {B:e_} {d:Nat} {up:Nat->Nat->Value} {ρ:List T} {G:Gh} {a:Act} {w:World} {S:Nat->af} {P:Program}
variable {cx:Cx} {cJ fA oi:Nat} {s:St} {R:List bE} {ct:Ct} {k':Wk} {o:Oper} {Q:Exit->Act->World->Prop}
theorem jL_{t:Nat}{ti:TI}(hT:uF P t ti){b off:Nat}{v:Value}(hl:v.cells.size=ti.sz){b9:Array Value}{elem:TypeId}
  (hb:w.heap[b]?=some (.cells b9 elem (0,0)))(hf:off+v.cells.size<=b9.size)(h1:∀u∈v.cells.toList,u.oneCell'=true):
  (Instr.storeAt t (.pointer (some ⟨b,off,none⟩)) v).run P w=.ok () (w.setRow b (b9.toList.take off++v.cells.toList++b9.toList.drop (off+v.cells.toList.length)).toArray):=by
 obtain⟨i,z,hi,hs,_,_,_⟩:=hT.info
 have cf:=run_storeCells_at (P:=P) b off elem v.cells.toList 0 b9 w hb (by simpa using hf) h1
 simp only[Nat.add_zero]at cf
 simp[Instr.storeAt,Instr.sureAddr,storeVar,sizeOf,typeInfo,hi,hs,hl]
 simpa[hl]using cf
theorem Lk(w:World)(b:Nat)(cs:Array Value):jE w (w.setRow b cs):=⟨rfl,rfl,rfl⟩
theorem JH(w:World)(b:Nat)(cs:Array Value):(w.setRow b cs).heap.size=w.heap.size:=by simp[World.setRow]
theorem Tj{b:Nat}{l:Lb}(hl:G.ω b=some l)(Lg:qt l=false)(cs:Array Value){I:Lb->Prop}(hI:I l){N:Nat->Prop}:dF I N G w G (w.setRow b cs):=by
 refine⟨by rw[JH];exact Nat.le_refl _,λc _ hc=>⟨hc,setRow_other _ _ _ _ λe=>?_⟩,λc _ hc=>hc,λc l' hc hn=>⟨hc,setRow_other _ _ _ _ λe=>?_⟩,λ_ _=>⟨rfl,λ_ _=>rfl⟩⟩
 ·subst e;exact wK hl Lg hc
 ·subst e;rw[hl]at hc;cases hc;exact hn hI
theorem FU{t:Nat}{x y:Operand}(ho:o.op=.store t x y){w':World}(h:(Instr.storeAt t (a.eval x) (a.eval y)).run P w=.ok () w'):
  (execOp a.eval o).run P w=.ok .skip w':=by
 unfold execOp
 rw[ho]
 show Sem.run P (do Instr.storeAt t (a.eval x) (a.eval y);pure Next.skip) w=_
 rw[Sem.run_bind,h];rfl
theorem ahL(ek:eL P cx)(h:Rel M B d up s ρ G a w)(hn:∀n,o.dst=some n->n<a.tmps.size){t:Nat}{x y:Operand}(ho:o.op=.store t x y)
  {bx off:Nat}(hx:cn d (Wk.get ⟨s.only R,[],ct,[]⟩) x=.pt bx off)
  (hk:∃k1,storeAt cx ⟨s.only R,[],ct,[]⟩ t (cn d (Wk.get ⟨s.only R,[],ct,[]⟩) x) (cn d (Wk.get ⟨s.only R,[],ct,[]⟩) y)=some k1∧ca d o k1 .un=k'):bV P M B d up ρ a w s o k'.w Q∧k'.ct.i=ct.i:=by
 have hw:=dD.start h R ct
 obtain⟨k1,cf,hk⟩:=hk
 have c_:ca d o k1 .un=k':=hk
 subst c_
 simp only[storeAt,hx,cN]at cf
 obtain⟨ti,f_,cs,kZ,cf⟩:=cf
 cases hl:Nat.beq cs.length ti.sz with
 |false=>simp[hl]at cf
 |true=>
  simp only[hl,cond_true]at cf
  have hlen:=ef hl
  obtain⟨hr,hm⟩:=hw.iV y
  obtain⟨xO,_⟩:=hw.iV x
  rw[hx]at xO
  unfold cellsOf at kZ
  split at kZ
  ·rename_i ag es0 eo
   cases kZ
   rw[eo]at hr hm
   have tW:=Tc hr
   split at cf
   ·rename_i ag0 yL hold
    cases hle:Nat.ble (off+cs.length) yL.length with
    |false=>simp[hle]at cf
    |true=>
     simp only[hle,cond_true,bG]at cf
     subst cf
     have lJ:=Nat.le_of_ble_eq_true hle
     have vR:=hw.rel.bx bx
     rw[<-Wk.a_,hold]at vR
     obtain⟨iq,b9,elem,hb,JI⟩:=vR
     have p_:=tW.length
     have uH:=JI.length
     simp only[Array.length_toList]at p_ uH
     have eR:=jL_ (w:=w) (ek.ty _ _ f_) (v:=a.eval y) (by rw[<-p_];exact hlen) hb (off:=off) (by omega) (λu hu=>tW.one u hu)
     have kl:=JI.gI off tW
     have FR:=Ta yL cs off
     have hmo:∀i∈dV yL,M i:=λi hi=>hw.rel.gm (.x bx) i (by rw[<-Wk.a_,hold];exact hi)
     have hmM:∀i∈dV (gI yL off cs),M i:=λi hi=>(FR i hi).elim (hmo i) (hm i)
     refine⟨?_,by rw[nu];rfl⟩
     have hK:dF (pk (fN d o .un++[(.x bx,.v ag0 (gI yL off cs))])) (λ_=>False) G w G
       (w.setRow (G.β bx) (b9.toList.take off++(a.eval y).cells.toList++b9.toList.drop (off+(a.eval y).cells.toList.length)).toArray):=by
      refine Tj iq rfl _ ?_
      show St.look _ (bE.x bx)≠none
      rw[mG,vS];simp
     simp only[bV,Oper.wp,FU ho (by rw[show a.eval x=_ from xO];exact eR),Oper.upon]
     refine⟨G,K_ h hw (W2:=fN d o .un++[(.x bx,.v ag0 (gI yL off cs))]) (zh (W2:=[(.x bx,.v ag0 (gI yL off cs))]) λr=>by exact vT r)
      hK (λi hi=>hi.elim) (λi hi=>hi) (λn pA=>Lc pA) (Lk _ _ _) ?_,Bj _ _ _⟩
     refine⟨λe n u he hl=>?_,λb u hl=>?_,λi u hl=>?_,λr u hl i hi=>?_,λi hi=>?_,λb l hb=>?_⟩
     ·rcases lK hl with⟨n',iW,e1,rfl⟩|hl
      ·trivial
      ·rcases j8 hl with⟨e1,_⟩|hl
       ·cases e1
       ·cases hl
     ·rcases lK hl with⟨n',iW,e1,rfl⟩|hl
      ·cases e1
      ·rcases j8 hl with⟨e1,rfl⟩|hl
       ·cases e1
        refine⟨iq,_,elem,setRow_heap w _ b9 _ elem _ hb,?_⟩
        exact kl.bm hK λi _ hf=>hf
       ·cases hl
     ·rcases lK hl with⟨n',iW,e1,rfl⟩|hl
      ·cases e1
      ·rcases j8 hl with⟨e1,rfl⟩|hl
       ·cases e1
       ·cases hl
     ·rcases lK hl with⟨n',iW,e1,rfl⟩|hl
      ·simp[dA]at hi
      ·rcases j8 hl with⟨e1,rfl⟩|hl
       ·exact hmM i hi
       ·cases hl
     ·have:∀r:bE,(r=.x i∨r=.o i)->St.look (fN d o .un++[(bE.x bx,SV.v ag0 (gI yL off cs))]) r≠none->i=bx:=by
       intro r hr hl
       obtain⟨u,hu⟩:=Option.ne_none_iff_exists'.1 hl
       rcases lK hu with⟨n',iW,e1,rfl⟩|hl
       ·rcases hr with rfl|rfl<;>cases e1
       ·rcases j8 hl with⟨e1,rfl⟩|hl
        ·rcases hr with rfl|rfl
         ·cases e1;rfl
         ·cases e1
        ·cases hl
      have hMb:M bx:=hw.rel.key bx (.inl (by rw[<-Wk.a_,hold];simp))
      rcases hi with hi|hi
      ·rw[this _ (.inl rfl) hi];exact hMb
      ·rw[this _ (.inr rfl) hi];exact hMb
     ·rw[JH];exact h.iG b l hb
   ·cases cf
  ·cases kZ
def eO(ω:Nat->Option Lb)(w:World):List T->List Value->Prop
 | [],[]=>True
 |t::ts,v::vs=>fm ω w t v∧eO ω w ts vs
 |_,_=>False
theorem eO.length{ω:Nat->Option Lb}:∀{ts:List T} {vs:List Value},eO ω w ts vs->ts.length=vs.length
 | [],[],_=>rfl
 | [],_::_,h=>h.elim
 |_::_,[],h=>h.elim
 |_::ts,_::vs,h=>by simp[eO.length h.2]
theorem eO.get{ω:Nat->Option Lb}:∀{ts:List T} {vs:List Value},eO ω w ts vs->∀(j:Nat) (t:T) (v:Value),ts[j]?=some t->vs[j]?=some v->fm ω w t v
 | [],[],_,j,t,v,h,_=>by simp at h
 | [],_::_,h,_,_,_,_,_=>h.elim
 |_::_,[],h,_,_,_,_,_=>h.elim
 |t::ts,v::vs,h,0,_,_,h1,h2=>by simp at h1 h2;subst h1 h2;exact h.1
 |t::ts,v::vs,h,j+1,_,_,h1,h2=>eO.get h.2 j _ _ (by simpa using h1) (by simpa using h2)
theorem eO.eQ{ω wL:Nat->Option Lb}{w':World}:∀{ts:List T} {vs:List Value},eO ω w ts vs->ts.all eQ=true->eO wL w' ts vs
 | [],[],_,_=>trivial
 | [],_::_,h,_=>h.elim
 |_::_,[],h,_=>h.elim
 |t::ts,v::vs,h,hs=>by
  simp only[List.all_cons,bD]at hs
  refine⟨?_,eO.eQ h.2 hs.2⟩
  obtain⟨u,rfl⟩:=zd hs.1
  obtain⟨rfl,hu⟩:=h.1.scalar
  exact .c hu
theorem eO.bm{ω wL:Nat->Option Lb}{w':World}(hs:w.heap.size<=w'.heap.size)(hf:∀b,b<w.heap.size->ω b=none->wL b=none∧w'.heap[b]?=w.heap[b]?):
  ∀{ts:List T} {vs:List Value},eO ω w ts vs->eO wL w' ts vs
 | [],[],_=>trivial
 | [],_::_,h=>h.elim
 |_::_,[],h=>h.elim
 |t::ts,v::vs,h=>⟨h.1.bm hs hf,eO.bm hs hf h.2⟩
def Bv(k:Wk)(cs:List Ce):Prop:=∀id∈dV cs,∃pv x,k.get (.o id)=.fz pv x
theorem Wk.sb{k k1:Wk}{c:Ce}{x:Lf}{G1:Gh}{v:Value}(h:k.val c=some (k1,x))(hr:gv G1 w ρ c v)(hk:dD M B d up ρ G a w k G1)(hf:Bv k [c]):
  ∃t,x.fW ρ=some t∧fm G1.q w t v:=by
 cases c with
 |p y=>simp[Wk.val]at h;obtain⟨_,rfl⟩:=h;exact hr
 |n=>simp[Wk.val]at h;obtain⟨_,rfl⟩:=h;cases hr;exact⟨_,rfl,.nil⟩
 |d=>simp[Wk.val]at h
 |o id q=>
  obtain⟨pv,y,hy⟩:=hf id (by simp[dV])
  have eH:=hk.obj id
  obtain⟨p,hp,rfl⟩:=hr
  simp only[Wk.val,hy]at h
  rw[hy]at eH
  split at h
  ·simp at h
   obtain⟨_,rfl⟩:=h
   simp only[mD]at hp
   cases hp
   exact⟨_,eH.choose_spec.1,eH.choose_spec.2.1⟩
  ·cases h
theorem Wk.hY:∀{cs:List Ce} {k k1:Wk} {xs:List Lf},k.jB cs=some (k1,xs)->k.fq k1
 | [],k,k1,xs,h=>by simp[Wk.jB]at h;obtain⟨rfl,_⟩:=h;exact .refl _
 |c::cs,k,k1,xs,h=>by
  simp only[Wk.jB,cN,bG,Prod.mk.injEq]at h
  obtain⟨⟨k2,x⟩,h1,⟨k3,ys⟩,h2,rfl,rfl⟩:=h
  exact(Wk.eh h1).trans (Wk.hY h2)
theorem Wk.lL:∀{cs:List Ce} {k k1:Wk} {xs:List Lf},k.jB cs=some (k1,xs)->k1.bJ S ρ->k.bJ S ρ
 | [],k,k1,xs,h,hd=>by simp[Wk.jB]at h;obtain⟨rfl,_⟩:=h;exact hd
 |c::cs,k,k1,xs,h,hd=>by
  simp only[Wk.jB,cN,bG,Prod.mk.injEq]at h
  obtain⟨⟨k2,x⟩,h1,⟨k3,ys⟩,h2,rfl,rfl⟩:=h
  exact Wk.mg h1 (Wk.lL h2 hd)
theorem Wk.hZ:∀{cs:List Ce} {k k1:Wk} {xs:List Lf} {G1:Gh} {vs:List Value},k.jB cs=some (k1,xs)->k1.bJ S ρ->bk G1 w ρ cs vs->dD M B d up ρ G a w k G1->
  ∃ts,xs.map (Lf.ev ρ)=ts∧eO (er G1.ω) w ts vs∧(Bv k cs->eO G1.q w ts vs)∧xs.length=vs.length
 | [],k,k1,xs,G1,vs,h,hd,hr,hk=>by
  simp[Wk.jB]at h
  obtain⟨_,rfl⟩:=h
  cases vs with
  |nil=>exact⟨[],rfl,trivial,λ_=>trivial,rfl⟩
  |cons _ _=>exact hr.elim
 |c::cs,k,k1,xs,G1,[],h,hd,hr,hk=>hr.elim
 |c::cs,k,k1,xs,G1,v::vs,h,hd,hr,hk=>by
  simp only[Wk.jB,cN,bG,Prod.mk.injEq]at h
  obtain⟨⟨k2,x⟩,h1,⟨k3,ys⟩,h2,rfl,rfl⟩:=h
  have hs:=Wk.eh h1
  obtain⟨ts,e1,e2,e3,e4⟩:=Wk.hZ h2 hd hr.2 (hk.same hs)
  obtain⟨t,ht,mE⟩:=Wk.lG h1 (Wk.lL h2 hd) hr.1 λid _=>hk.obj id
  refine⟨t::ts,by simp[e1,Lf.bW ht],⟨mE,e2⟩,λhf=>⟨?_,e3 λid gG=>?_⟩,by simp[e4]⟩
  ·obtain⟨t',jV,mO⟩:=Wk.sb h1 hr.1 hk λid gG=>hf id (by rw[yW];exact List.mem_append_left _ gG)
   rw[ht]at jV
   cases jV
   exact mO
  ·rw[hs.get]
   exact hf id (by rw[yW];exact List.mem_append_right _ gG)
theorem dD.eK:∀{cs:List Ce} {k k1:Wk} {G1:Gh},dD M B d up ρ G a w k G1->k.eK cs=some k1->
  ∃G2,dD M B d up ρ G a w k1 G2∧G2.β=G1.β∧G2.H=G1.H∧k1.ct=k.ct∧k1.is=k.is∧Bv k1 cs∧(∀id pv x,k.get (.o id)=.fz pv x->k1.get (.o id)=.fz pv x)∧
   (∀id dp x,k1.get (.o id)=.ob dp x->k.get (.o id)=.ob dp x)
 | [],k,k1,G1,h,hk=>by
  simp[Wk.eK]at hk
  subst hk
  exact⟨G1,h,rfl,rfl,rfl,rfl,(λ_ h=>by cases h),(λ_ _ _ h=>h),λ_ _ _ h=>h⟩
 |c::cs,k,k1,G1,h,hk=>by
  cases c with
  |o id q=>
   simp only[Wk.eK,cN]at hk
   obtain⟨k2,h1,h2⟩:=hk
   obtain⟨G2,g1,g2,g3,g4,g5,g6⟩:=h.mw h1
   obtain⟨G3,f1,f2,f3,f4,f5,f6,f7,f8⟩:=dD.eK g1 h2
   have uI:∃pv x,k2.get (.o id)=.fz pv x:=by
    unfold Wk.mw at h1
    split at h1
    ·rename_i dp x hx;cases h1;exact⟨.z,x,by simp[Wk.get,Wk.set,St.bz]⟩
    ·rename_i pv x hx;cases h1;exact⟨pv,x,hx⟩
    ·cases h1
   have Bw:∀i,i≠id->k2.get (.o i)=k.get (.o i):=by
    intro i hi
    unfold Wk.mw at h1
    split at h1
    ·cases h1;simp only[Wk.get,Wk.set];rw[St.cF _ _ (by simpa using Ne.symm hi)]
    ·cases h1;rfl
    ·cases h1
   have qB:∀pv x,k.get (.o id)=.fz pv x->k2.get (.o id)=.fz pv x:=by
    intro pv x hx
    unfold Wk.mw at h1
    rw[hx]at h1
    cases h1
    exact hx
   refine⟨G3,f1,f2.trans g2,f3.trans g3,f4.trans g5,f5.trans g6,?_,?_,?_⟩
   ·intro i hi
    rw[yW]at hi
    rcases List.mem_append.1 hi with hi|hi
    ·simp[dV]at hi
     subst hi
     obtain⟨pv,x,hx⟩:=uI
     exact⟨pv,x,f7 _ _ _ hx⟩
    ·exact f6 i hi
   ·intro i pv x hx
    refine f7 i pv x ?_
    by_cases hi:i=id
    ·subst hi;exact qB pv x hx
    ·rw[Bw i hi];exact hx
   ·intro i dp x hx
    have:=f8 i dp x hx
    by_cases hi:i=id
    ·subst hi;obtain⟨pv,y,hy⟩:=uI;rw[hy]at this;cases this
    ·rwa[Bw i hi]at this
  |p x=>
   obtain⟨G2,g1,g2,g3,g4,g5,g6,g7⟩:=dD.eK h (show k.eK cs=some k1 from hk)
   exact⟨G2,g1,g2,g3,g4,g5,by intro i hi;rw[yW]at hi;exact g6 i (by simpa[dV]using hi),g7⟩
  |n=>
   obtain⟨G2,g1,g2,g3,g4,g5,g6,g7⟩:=dD.eK h (show k.eK cs=some k1 from hk)
   exact⟨G2,g1,g2,g3,g4,g5,by intro i hi;rw[yW]at hi;exact g6 i (by simpa[dV]using hi),g7⟩
  |d=>
   obtain⟨G2,g1,g2,g3,g4,g5,g6,g7⟩:=dD.eK h (show k.eK cs=some k1 from hk)
   exact⟨G2,g1,g2,g3,g4,g5,by intro i hi;rw[yW]at hi;exact g6 i (by simpa[dV]using hi),g7⟩
theorem Tk{k:Wk}{G1:Gh}(h:Rel M B d up s ρ G a w)(hk:dD M B d up ρ G a w k G1)(hn:∀n,o.dst=some n->n<a.tmps.size){id b:Nat}{p:List (Nat×Nat)}{dp:Bool}{y:Lf}
  {t':T}{cells:Array Value}(iq:G1.ω b=some (.o id p))(Lg:p=[]∨id%2=1)(sV:id%4≠2)(hy:y.fW ρ=some t')(bU:fB G1 (w.setRow b cells) id dp [] t')
  (hx:(execOp a.eval o).run P w=.ok .skip (w.setRow b cells)):bV P M B d up ρ a w s o (ca d o (k.set (.o id) (.ob dp y)) .un).w Q:=by
 have hM:M id:=(hk.rel.iG b _ iq).1
 have hK:dF (pk (fN d o .un++[(.o id,.ob dp y)])) (λ_=>False) G1 w G1 (w.setRow b cells):=by
  refine Tj iq (KR (ρ:=ρ) Lg sV) _ ?_
  show St.look _ (bE.o id)≠none
  rw[mG,vS];simp
 simp only[bV,Oper.wp,hx,Oper.upon]
 refine⟨G1,K_ h hk (W2:=fN d o .un++[(.o id,.ob dp y)]) (zh (W2:=[(.o id,.ob dp y)]) λr=>by exact vT r)
  hK (λi hi=>hi.elim) (λi hi=>hi) (λn pA=>Lc pA) (Lk _ _ _) ?_,Bj _ _ _⟩
 refine⟨λe n u he hl=>?_,λb u hl=>?_,λi u hl=>?_,λr u hl i hi=>?_,λi hi=>?_,λb l hb=>?_⟩
 ·rcases lK hl with⟨n',iW,e1,rfl⟩|hl
  ·trivial
  ·rcases j8 hl with⟨e1,_⟩|hl
   ·cases e1
   ·cases hl
 ·rcases lK hl with⟨n',iW,e1,rfl⟩|hl
  ·cases e1
  ·rcases j8 hl with⟨e1,rfl⟩|hl
   ·cases e1
   ·cases hl
 ·rcases lK hl with⟨n',iW,e1,rfl⟩|hl
  ·cases e1
  ·rcases j8 hl with⟨e1,rfl⟩|hl
   ·cases e1
    exact⟨t',hy,bU⟩
   ·cases hl
 ·rcases lK hl with⟨n',iW,e1,rfl⟩|hl
  ·simp[dA]at hi
  ·rcases j8 hl with⟨e1,rfl⟩|hl
   ·simp[dA]at hi
   ·cases hl
 ·have:∀r:bE,(r=.x i∨r=.o i)->St.look (fN d o .un++[(bE.o id,SV.ob dp y)]) r≠none->i=id:=by
   intro r hr hl
   obtain⟨u,hu⟩:=Option.ne_none_iff_exists'.1 hl
   rcases lK hu with⟨n',iW,e1,rfl⟩|hl
   ·rcases hr with rfl|rfl<;>cases e1
   ·rcases j8 hl with⟨e1,rfl⟩|hl
    ·rcases hr with rfl|rfl
     ·cases e1
     ·cases e1;rfl
    ·cases hl
  rcases hi with hi|hi
  ·rw[this _ (.inl rfl) hi];exact hM
  ·rw[this _ (.inr rfl) hi];exact hM
 ·rw[JH];exact hk.rel.iG b l hb
theorem Tl{x ix:Lf}{sc:Bool}{wd off n i:Nat}{xs:List (List T)}{ts:List T}{t:T}(hx:x.fW ρ=some (.l xs))(hi:mf ρ ix=some i)
  (h:Prim.ev (.put sc wd off n) (x.ev ρ::ix.ev ρ::ts)=some t):∃r,xs[i]?=some r∧r.length=wd∧off+ts.length<=r.length∧(sc=true->ts.all eQ=true)∧t=.l (setRow xs i off ts):=by
 obtain⟨k,hk⟩:=yX hi
 rw[Lf.bW hx,hk]at h
 simp only[Prim.ev,Bg,T.rows,T.int,Option.bind_some,Int.toNat_natCast]at h
 cases hr:xs[i]? with
 |none=>simp[hr]at h
 |some r=>
  simp only[hr,Option.bind_some]at h
  split at h
  ·rename_i g1
   split at h
   ·rename_i g2
    split at h
    ·rename_i g3
     split at h
     ·rename_i g4
      simp only[bG]at h
      refine⟨r,rfl,g1,by omega,λhs=>?_,h.symm⟩
      subst hs
      simpa using g4
     ·cases h
    ·cases h
   ·cases h
  ·cases h
theorem Wk.ci(k:Wk)(r:bE)(v:SV):(k.set r v).get r=v:=by
 simp[Wk.get,Wk.set,St.bz]
theorem ahM(ek:eL P cx)(h:Rel M B d up s ρ G a w)(hn:∀n,o.dst=some n->n<a.tmps.size){t:Nat}{x y:Operand}(ho:o.op=.store t x y)
  {id:Nat}{q:np}{ix:Lf}{wd off:Nat}(hx:cn d (Wk.get ⟨s.only R,[],ct,[]⟩) x=.ep id q ix wd off)
  (hk:∃k1,storeAt cx ⟨s.only R,[],ct,[]⟩ t (cn d (Wk.get ⟨s.only R,[],ct,[]⟩) x) (cn d (Wk.get ⟨s.only R,[],ct,[]⟩) y)=some k1∧ca d o k1 .un=k')(hd:k'.bJ S ρ):bV P M B d up ρ a w s o k'.w Q∧k'.ct.i=ct.i:=by
 have hw:=dD.start h R ct
 obtain⟨k1,cf,hk⟩:=hk
 have c_:ca d o k1 .un=k':=hk
 subst c_
 have fR:=cX.1 hd
 simp only[storeAt,hx,cN]at cf
 obtain⟨ti,f_,cs,kZ,cf⟩:=cf
 cases hl:Nat.beq cs.length ti.sz with
 |false=>simp[hl]at cf
 |true=>
  simp only[hl,cond_true]at cf
  have hlen:=ef hl
  obtain⟨hr,hm⟩:=hw.iV y
  obtain⟨xO,_⟩:=hw.iV x
  rw[hx]at xO
  obtain⟨p,b,n,cap,i,hp,hH,hi,km,jy⟩:=xO
  unfold cellsOf at kZ
  split at kZ
  ·rename_i ag es0 eo
   cases kZ
   rw[eo]at hr hm
   have tW:=Tc hr
   have p_:=tW.length
   cases sV:Nat.beq (id%4) 2 with
   |true=>simp[sV]at cf
   |false=>
   have sV:id%4≠2:=λe=>by rw[e]at sV;cases sV
   simp only[show Nat.beq (id%4) 2=false from(by cases hb:Nat.beq (id%4) 2 with|false=>rfl|true=>exact absurd (ef hb) sV),cond_false]at cf
   cases hN:ti.zero.any fT with
   |true=>
    simp only[hN,cond_true]at cf
    split at cf
    ·simp only[mD,bG]at hp
     subst hp
     simp only[cN]at cf
     obtain⟨k2,xU,k3,zj,⟨k4,xs⟩,pU,cf⟩:=cf
     obtain⟨G2,w2,e1,e2,e3,e4,e5⟩:=hw.flat xU
     obtain⟨G3,w3,f1,f2,f4,f5,f6,f7,f8⟩:=w2.eK zj
     have FV:=Wk.hY pU
     have w4:=w3.same FV
     simp only at cf
     split at cf
     ·rename_i dp0 z hz
      simp only[bG]at cf
      subst cf
      have eH:=w4.obj id
      rw[hz]at eH
      obtain⟨tt,Av,bU⟩:=eH
      have pR:(k4.em (.put false wd off xs.length) (z::ix::xs)).1.bJ S ρ:=fR
      obtain⟨JE,t',jP,EA⟩:=Wk.bX pR
      have Tm:G3.H id []=.slice (some ⟨b,0,none⟩) n cap:=by rw[f2,e2];exact hH
      have ahN:bk G3 w ρ cs (a.eval y).cells.toList:=by
       have k3:dF (pk k3.w) (λ_=>False) G w G3 w:=w3.bm
       exact tW.bm k3 λ_ _ hf=>hf
      obtain⟨ts,g1,_,g3,g4⟩:=Wk.hZ pU JE ahN w3
      simp only[List.map_cons]at jP
      rw[g1]at jP
      obtain⟨rows,rfl⟩:∃ys,tt=.l ys:=by cases bU<;>exact⟨_,rfl⟩
      obtain⟨r,pu,rK,EB,_,rfl⟩:=Tl Av hi jP
      have FW:=g3 λj hj=>f6 j hj
      have Bx:=FW.length
      have gR:dp0=false:=by
       have h3:k3.get (.o id)=.ob dp0 z:=by rw[<-FV.get];exact hz
       have h2:=f8 _ _ _ h3
       unfold Wk.flat at xU
       split at xU
       ·cases xU;rw[Wk.ci]at h2;cases h2;rfl
       ·rename_i z2 tU;cases xU;rw[tU]at h2;cases h2
       ·cases xU
      subst gR
      have uJ:∃b9 elem,G3.ω b=some (.o id [])∧w.heap[b]?=some (.cells b9 elem (0,0))∧(i*wd+off)+(a.eval y).cells.size<=b9.size:=by
       cases bU with
       |nil JF=>rw[Tm]at JF;cases JF
       | @l _ _ _ b2 EC Lh b9 elem cv h1 h2 h3 h4 h5 h6 _ _ _ _ _=>
        rw[Tm]at h1
        cases h1
        refine⟨b9,elem,h3,h4,?_⟩
        have rq:EC=wd:=by rw[<-rK];exact(h6 r (List.mem_of_getElem? pu)).symm
        subst rq
        rw[h5]
        have:(i+1)*EC<=cap*EC:=Nat.mul_le_mul_right _ (by omega)
        rw[Nat.add_mul]at this
        simp only[Array.length_toList]at Bx
        omega
      obtain⟨b9,elem,iq,hb,lJ⟩:=uJ
      have eR:=jL_ (P:=P) (w:=w) (ek.ty _ _ f_) (v:=a.eval y) (by simp only[Array.length_toList]at p_;rw[<-p_];exact hlen) hb (off:=i*wd+off) lJ (λu hu=>tW.one u hu)
      have qy:=bU.put (w':=w.setRow b (b9.toList.take (i*wd+off)++(a.eval y).cells.toList++b9.toList.drop (i*wd+off+(a.eval y).cells.toList.length)).toArray)
       Tm (sJ sV) pu EB Bx.symm hb (by rw[rK];exact setRow_heap w _ b9 _ elem _ hb) (JH _ _ _) (λc hc=>setRow_other _ _ _ _ hc)
       (eO.get (FW.bm (by rw[JH];exact Nat.le_refl _) λc _ hc=>⟨hc,setRow_other _ _ _ _ λe=>by subst e;exact wK iq (sJ sV) hc⟩)) (λhf=>by cases hf)
      refine⟨Tk h (w4.same (Wk.bR _ _ _)) hn (iq:=iq) (Lg:=.inl rfl) (sV:=sV) (hy:=EA) (bU:=qy) (FU ho (by rw[jy];exact eR)),?_⟩
      rw[nu]
      show k4.ct.i=ct.i
      rw[FV.i,f4,e4]
     ·cases cf
    ·cases cf
   |false=>
    simp only[hN,cond_false,cN]at cf
    obtain⟨⟨k4,xs⟩,pU,cf⟩:=cf
    have FV:=Wk.hY pU
    have w4:=hw.same FV
    simp only at cf
    split at cf
    ·rename_i dp z hz
     cases hdq:(dp||q.isEmpty)with
     |false=>simp[hdq]at cf
     |true=>
      simp only[hdq,cond_true,bG]at cf
      subst cf
      have eH:=w4.obj id
      rw[hz]at eH
      obtain⟨tt,Av,bU⟩:=eH
      obtain⟨rows,rfl⟩:∃ys,tt=.l ys:=by cases bU<;>exact⟨_,rfl⟩
      have hdu:(Wk.up ((k4.down z q).1.em (.put true wd off xs.length) ((k4.down z q).2::ix::xs)).1 z ((k4.down z q).1.em (.put true wd off xs.length) ((k4.down z q).2::ix::xs)).2 q).1.bJ S ρ:=fR
      have ahO:=Wk.wQ _ _ _ _ hdu
      obtain⟨pA,t',jP,EA⟩:=Wk.bX ahO
      obtain⟨u,hu,hzu,SW⟩:=Wk.jg q k4 z pA Av (uC hp) (.inr ⟨_,rfl⟩)
      obtain⟨ys,rfl⟩:∃ys,u=.l ys:=by
       rcases SW with rfl|h'
       ·simp only[mD]at hp;cases hp;simp[iU]at hu;exact⟨rows,hu.symm⟩
       ·exact h'
      obtain⟨ts,g1,g2,_,g4⟩:=Wk.hZ pU (Wk.lF q _ _ pA) tW hw
      simp only[List.map_cons]at jP
      rw[g1]at jP
      obtain⟨r,pu,rK,EB,mF,rfl⟩:=Tl hzu hi jP
      obtain⟨t2,Bp,hy2⟩:=Wk.xT q _ z _ hdu Av EA (uC hp) (.inr ⟨_,rfl⟩)
      have FW:eO G.q (w.setRow b #[]) ts (a.eval y).cells.toList:=g2.eQ (mF rfl)
      have Bx:=g2.length
      have lI:fB G w id dp p (.l ys):=by
       cases dp with
       |true=>simpa using fB.dE p bU hu ⟨ys,rfl⟩
       |false=>
        have hq:q=[]:=by simpa using hdq
        subst hq
        simp only[mD]at hp
        cases hp
        simp[iU]at hu
        subst hu
        exact bU
      have uJ:∃b9 elem,G.ω b=some (.o id p)∧w.heap[b]?=some (.cells b9 elem (0,0))∧(i*wd+off)+(a.eval y).cells.size<=b9.size:=by
       cases lI with
       |nil JF=>rw[hH]at JF;cases JF
       | @l _ _ _ b2 EC Lh b9 elem cv h1 h2 h3 h4 h5 h6 _ _ _ _ _=>
        rw[hH]at h1
        cases h1
        refine⟨b9,elem,h3,h4,?_⟩
        have rq:EC=wd:=by rw[<-rK];exact(h6 r (List.mem_of_getElem? pu)).symm
        subst rq
        rw[h5]
        have:(i+1)*EC<=cap*EC:=Nat.mul_le_mul_right _ (by omega)
        rw[Nat.add_mul]at this
        simp only[Array.length_toList]at Bx
        omega
      obtain⟨b9,elem,iq,hb,lJ⟩:=uJ
      have eR:=jL_ (P:=P) (w:=w) (ek.ty _ _ f_) (v:=a.eval y) (by simp only[Array.length_toList]at p_;rw[<-p_];exact hlen) hb (off:=i*wd+off) lJ (λu hu=>tW.one u hu)
      have qy:=lI.put (w':=w.setRow b (b9.toList.take (i*wd+off)++(a.eval y).cells.toList++b9.toList.drop (i*wd+off+(a.eval y).cells.toList.length)).toArray)
       hH (KR (ρ:=ρ) (FD hp) sV) pu EB Bx.symm hb (by rw[rK];exact setRow_heap w _ b9 _ elem _ hb) (JH _ _ _) (λc hc=>setRow_other _ _ _ _ hc)
       (eO.get (g2.eQ (mF rfl))) (λ_=>mF rfl)
      have Tn:fB G (w.setRow b (b9.toList.take (i*wd+off)++(a.eval y).cells.toList++b9.toList.drop (i*wd+off+(a.eval y).cells.toList.length)).toArray) id dp [] t2:=by
       cases dp with
       |true=>exact fB.nG (λc hc=>setRow_other _ _ _ _ hc) bU hu Bp (by simpa using iq) (by simpa using qy)
       |false=>
        have hq:q=[]:=by simpa using hdq
        subst hq
        simp only[mD]at hp
        cases hp
        simp only[nG,bG]at Bp
        subst Bp
        exact qy
      refine⟨Tk h (((w4.same (Wk.fL q _ _)).same (Wk.bR _ _ _)).same (Wk.sU q _ _ _)) hn (iq:=iq) (Lg:=FD hp) (sV:=sV) (hy:=hy2) (bU:=Tn) (FU ho (by rw[jy];exact eR)),?_⟩
      rw[nu]
      show(Wk.up _ z _ q).1.ct.i=ct.i
      rw[(Wk.sU q _ _ _).i,(Wk.bR _ _ _).i,(Wk.fL q _ _).i,FV.i]
    ·cases cf
  ·cases kZ
theorem ahP(ek:eL P cx)(h:Rel M B d up s ρ G a w)(hn:∀n,o.dst=some n->n<a.tmps.size){t:Nat}{x y:Operand}(ho:o.op=.store t x y)
  (hk:∃k1,storeAt cx ⟨s.only R,[],ct,[]⟩ t (cn d (Wk.get ⟨s.only R,[],ct,[]⟩) x) (cn d (Wk.get ⟨s.only R,[],ct,[]⟩) y)=some k1∧ca d o k1 .un=k')(hd:k'.bJ S ρ):bV P M B d up ρ a w s o k'.w Q∧k'.ct.i=ct.i:=by
 cases hx:cn d (Wk.get ⟨s.only R,[],ct,[]⟩) x with
 |pt bx off=>exact ahL ek h hn ho hx hk
 |ep id q ix wd off=>exact ahM ek h hn ho hx hk hd
 |_=>
  exfalso
  obtain⟨k1,hk,_⟩:=hk
  simp only[storeAt,hx,cN]at hk
  obtain⟨ti,_,cs,_,h1⟩:=hk
  cases hb:Nat.beq cs.length ti.sz<;>simp[hb]at h1
theorem Ll{xs:List (List T)}{l h:Nat}{i j:Nat}{t:T}(ht:d_ ((xs.take h).drop l) i j=some t):d_ xs (l+i) j=some t:=by
 unfold d_ at ht⊢
 rw[List.getElem?_drop,List.getElem?_take]at ht
 split at ht
 ·exact ht
 ·simp at ht
theorem fm.sub{ω:Nat->Option Lb}{xs:List (List T)}{ao:Option Addr}{n cap l h sz:Nat}(hd:fm ω w (.l xs) (.slice ao n cap))(wR:l<=h)(hh:h<=xs.length)(cV:okW sz xs=true):
  fm ω w (.l ((xs.take h).drop l)) (sliced ao l h cap sz):=by
 unfold sliced
 by_cases he:l=h
 ·subst he
  have:(xs.take l).drop l=[]:=by simp
  rw[this,Nat.sub_self]
  exact .nil
 ·cases hd with
  |nil=>simp at hh;omega
  | @l _ b off wd _ cv hw hc hb bf h1 h2=>
   have dH:¬(cap=l):=by omega
   have hlen:((xs.take h).drop l).length=h-l:=by simp;omega
   have iw:sz=wd:=by
    cases xs with
    |nil=>simp at hh;omega
    |cons r xs=>rw[<-hw r (by simp)];exact(ef cV).symm
   subst iw
   rw[if_neg dH]
   simp only[Option.map_some,Addr.add_lit]
   rw[<-hlen]
   refine .l (cv:=λi j=>cv (l+i) j) (λr hr=>hw r (List.mem_of_mem_take (List.mem_of_mem_drop hr))) (by rw[hlen];omega) hb bf (λi j t ht=>?_) λi j t ht=>h2 _ _ _ (Ll ht)
   have:=h1 _ _ _ (Ll ht)
   rw[Nat.add_mul]at this
   rw[show off+l*sz+(i*sz+j)=off+(l*sz+i*sz+j) by omega]
   exact this
def pW(k:Wk)(f:Operand->SV):Option Operand->Option (Wk×List Lf)
 |none=>some (k,[])
 |some l=>(k.one (f l)).bind λr=>some (r.1,[r.2])
theorem FX{k k1:Wk}{G1:Gh}(hk:dD M B d up ρ G a w k G1){lo:Option Operand}{ls:List Lf}{f:Operand->SV}(hf:∀x,lo=some x->cK G1 w ρ (f x) (a.eval x))
  (h:pW k f lo=some (k1,ls))(hd:k1.bJ S ρ):
  k.bJ S ρ∧k.fq k1∧((lo=none∧ls=[])∨∃x y t,lo=some x∧ls=[y]∧y.ev ρ=t∧fm (er G1.ω) w t (a.eval x)):=by
 cases lo with
 |none=>
  simp only[pW,bG,Prod.mk.injEq]at h
  obtain⟨rfl,rfl⟩:=h
  exact⟨hd,.refl _,.inl ⟨rfl,rfl⟩⟩
 |some x=>
  simp only[pW,cN,bG,Prod.mk.injEq]at h
  obtain⟨⟨k2,y⟩,h1,rfl,rfl⟩:=h
  obtain⟨e1,e2,t,e3,e4⟩:=Wk.iu hk h1 hd (hf x rfl)
  exact⟨e1,e2,.inr ⟨x,y,t,rfl,rfl,Lf.bW e3,e4⟩⟩
theorem Bz{ω:Nat->Option Lb}{k:IntKind}{n:Int}{v:Value}(h:fm ω w (.c (.int k n)) v):v=.int k n:=h.scalar.1
theorem Lm{ω:Nat->Option Lb}{lo hi:Option Operand}{ls hs:List Lf}{n:Nat}{r:T}{F:Int->Int->Option T}
  (nF:(lo=none∧ls=[])∨∃x y t,lo=some x∧ls=[y]∧y.ev ρ=t∧fm ω w t (a.eval x))(wS:(hi=none∧hs=[])∨∃x y t,hi=some x∧hs=[y]∧y.ev ρ=t∧fm ω w t (a.eval x))
  (h:((match lo.isSome,hi.isSome,(ls++hs).map (Lf.ev ρ)with
   |false,false,[]=>some ((0:Int),(n:Int))
   |true,false,[.c (.int _ l)]=>some (l,(n:Int))
   |false,true,[.c (.int _ h)]=>some (0,h)
   |true,true,[.c (.int _ l),.c (.int _ h)]=>some (l,h)
   |_,_,_=>none).bind λb=>F b.1 b.2)=some r):
  ∃l h:Int,F l h=some r∧((lo.map a.eval=none∧l=0)∨∃k,lo.map a.eval=some (.int k l))∧((hi.map a.eval=none∧h=n)∨∃k,hi.map a.eval=some (.int k h)):=by
 rcases nF with⟨rfl,rfl⟩|⟨x,y,t,rfl,rfl,ht,mE⟩
 ·rcases wS with⟨rfl,rfl⟩|⟨x',y',t',rfl,rfl,jV,mO⟩
  ·simp at h
   exact⟨0,n,h,.inl ⟨rfl,rfl⟩,.inl ⟨rfl,rfl⟩⟩
  ·simp only[Option.isSome_none,Option.isSome_some,List.nil_append,List.map_cons,List.map_nil,jV]at h
   cases t' with
   |l _=>simp at h
   |c v=>cases v with
    |int k m=>
     simp at h
     have:=Bz mO
     exact⟨0,m,h,.inl ⟨rfl,rfl⟩,.inr ⟨k,by simp[this]⟩⟩
    |_=>simp at h
 ·cases t with
  |l _=>rcases wS with⟨rfl,rfl⟩|⟨x',y',t',rfl,rfl,jV,mO⟩<;>simp[ht]at h
  |c v=>cases v with
   |int k m=>
    have e1:=Bz mE
    rcases wS with⟨rfl,rfl⟩|⟨x',y',t',rfl,rfl,jV,mO⟩
    ·simp[ht]at h
     exact⟨m,n,h,.inr ⟨k,by simp[e1]⟩,.inl ⟨rfl,rfl⟩⟩
    ·simp only[Option.isSome_some,List.cons_append,List.nil_append,List.map_cons,List.map_nil,ht,jV]at h
     cases t' with
     |l _=>simp at h
     |c v'=>cases v' with
      |int k' m'=>
       simp at h
       have e2:=Bz mO
       exact⟨m,m',h,.inr ⟨k,by simp[e1]⟩,.inr ⟨k',by simp[e2]⟩⟩
      |_=>simp at h
   |_=>rcases wS with⟨rfl,rfl⟩|⟨x',y',t',rfl,rfl,jV,mO⟩<;>simp[ht]at h
theorem To{t e:Nat}(ht:P.underlying t=some (.slice e)){sz:Nat}(Bt:∃i,P.info? e=some i∧i.size=sz){ao:Option Addr}{n cap:Nat}(hc:n<=cap){lo hi:Option Value}{l h:Int}
  (nF:(lo=none∧l=0)∨∃k,lo=some (.int k l))(wS:(hi=none∧h=n)∨∃k,hi=some (.int k h))(h0:0<=l)(wR:l<=h)(hh:h<=n):
  (Instr.sliceAt t (.slice ao n cap) lo hi none).run P w=.ok (sliced ao l.toNat h.toNat cap sz) w:=by
 have ED:P.elem t=e:=by simp[Program.elem,ht]
 have jV:P.underlying t=some (.slice (P.elem t)):=by rw[ED];exact ht
 obtain⟨i,vV,nw⟩:=Bt
 have hs:(sizeOf (P.elem t)).run P w=.ok sz w:=by rw[ED];simp[sizeOf,typeInfo,vV,nw]
 rw[run_sliceAt_slice w t _ _ _ _ jV]
 have pX:h<=cap:=by omega
 rcases nF with⟨rfl,rfl⟩|⟨k,rfl⟩
 ·rcases wS with⟨rfl,rfl⟩|⟨k',rfl⟩
  ·rw[run_slice_all w t ao n cap jV,hs];simp
  ·rw[run_slice_h w t ao n cap jV k' h wR pX,hs];simp
 ·rcases wS with⟨rfl,rfl⟩|⟨k',rfl⟩
  ·rw[run_slice_l w t ao n cap jV k l h0 wR,hs];simp
  ·rw[run_slice_lh w t ao n cap jV k k' l h h0 wR pX,hs];simp
theorem Tp{sz:Nat}{b1 b2:Bool}{t r:T}{ts:List T}(h:Prim.ev (.sub sz b1 b2) (t::ts)=some r):∃xs,t=.l xs∧okW sz xs=true∧
  ((match b1,b2,ts with
   |false,false,[]=>some ((0:Int),(xs.length:Int))
   |true,false,[.c (.int _ l)]=>some (l,(xs.length:Int))
   |false,true,[.c (.int _ h)]=>some (0,h)
   |true,true,[.c (.int _ l),.c (.int _ h)]=>some (l,h)
   |_,_,_=>none).bind λb=>if 0<=b.1 then(if b.1<=b.2 then(if b.2<=xs.length then some (T.l ((xs.take b.2.toNat).drop b.1.toNat))else none)else none)else none)=some r:=by
 cases t with
 |c v=>simp[Prim.ev]at h
 |l xs=>
  simp only[Prim.ev]at h
  split at h
  ·rename_i cV
   exact⟨xs,rfl,cV,h⟩
  ·cases h
theorem ahQ{b1 b2:Bool}{t r:T}{ts:List T}(h:Prim.ev (.A2 b1 b2) (t::ts)=some r):∃x:ByteArray,t=.c (.string x)∧
  ((match b1,b2,ts with
   |false,false,[]=>some ((0:Int),(x.size:Int))
   |true,false,[.c (.int _ l)]=>some (l,(x.size:Int))
   |false,true,[.c (.int _ h)]=>some (0,h)
   |true,true,[.c (.int _ l),.c (.int _ h)]=>some (l,h)
   |_,_,_=>none).bind λb=>if 0<=b.1 then(if b.1<=b.2 then(if b.2<=x.size then some (T.c (.string (x.extract b.1.toNat b.2.toNat)))else none)else none)else none)=some r:=by
 cases t with
 |l xs=>simp[Prim.ev]at h
 |c v=>
  cases v with
  |string x=>exact⟨x,rfl,h⟩
  |_=>simp[Prim.ev]at h
theorem ahR{t:Nat}(ht:P.underlying t=some .string){x:ByteArray}{lo hi:Option Value}{l h:Int}
  (nF:(lo=none∧l=0)∨∃k,lo=some (.int k l))(wS:(hi=none∧h=x.size)∨∃k,hi=some (.int k h))(h0:0<=l)(wR:l<=h)(hh:h<=x.size):
  (Instr.sliceAt t (.string x) lo hi none).run P w=.ok (.string (x.extract l.toNat h.toNat)) w:=by
 rw[run_sliceAt_string w t _ _ _ _ ht]
 have e1:(h.toNat:Int)=h:=Int.toNat_of_nonneg (by omega)
 rcases nF with⟨rfl,rfl⟩|⟨k,rfl⟩
 ·rcases wS with⟨rfl,rfl⟩|⟨k',rfl⟩
  ·rw[run_slice_string_all w t x ht];simp
  ·rw[run_slice_string_h w t x ht k' h wR hh];simp
 ·rcases wS with⟨rfl,rfl⟩|⟨k',rfl⟩
  ·rw[run_slice_string_l w t x ht k l h0 wR];simp
  ·simp[Instr.slice,run_underlying ht,Instr.sliceBounds,run_sliceBound,e1,h0,wR,hh,(by omega:0<=h)]
theorem ahS(ek:eL P cx)(h:Rel M B d up s ρ G a w)(hn:∀n,o.dst=some n->n<a.tmps.size){t:Nat}{x:Operand}{lo hi mx:Option Operand}(ho:o.op=.slice t x lo hi mx)
  (Rt:(bif mx.isSome then none else A7 cx ⟨s.only R,[],ct,[]⟩ t (cn d (Wk.get ⟨s.only R,[],ct,[]⟩) x) (lo.map (cn d (Wk.get ⟨s.only R,[],ct,[]⟩))) (hi.map (cn d (Wk.get ⟨s.only R,[],ct,[]⟩))))=none)
  (hk:jf cx cJ fA d o oi ⟨s.only R,[],ct,[]⟩=some k')(hd:k'.bJ S ρ):bV P M B d up ρ a w s o k'.w Q∧k'.ct.i=ct.i:=by
 have hw:=dD.start h R ct
 simp only[jf,ho]at hk
 split at hk
 ·rename_i k v he
  exact absurd (he.symm.trans Rt) (by simp)
 simp only[cN]at hk
 obtain⟨ti,f_,k1,zj,⟨k2,z⟩,qC,hk⟩:=hk
 obtain⟨G2,w1,e1,e2,e3,e4,e5,_⟩:=hw.eK zj
 have hK:dF (pk k1.w) (λ_=>False) G w G2 w:=w1.bm
 have iV:∀y,cK G2 w ρ (cn d (Wk.get ⟨s.only R,[],ct,[]⟩) y) (a.eval y):=λy=>(hw.iV y).1.bm hK λ_ _ hf=>hf
 have oB:k1.fq k2:=by
  unfold Wk.one at qC
  split at qC
  ·exact Wk.eh qC
  ·cases qC
 have w2:=w1.same oB
 simp only at hk
 cases mx with
 |some _=>simp at hk
 |none=>
  simp only at hk
  have jz:∃k3 ls,pW k2 (cn d (Wk.get ⟨s.only R,[],ct,[]⟩)) lo=some (k3,ls)∧
    ∃k4 hs,pW k3 (cn d (Wk.get ⟨s.only R,[],ct,[]⟩)) hi=some (k4,hs)∧
    ((Nat.beq ti.kd 3=true∧∃te,cx.ty ti.el=some te∧k'=ca d o (k4.em (.sub te.sz lo.isSome hi.isSome) (z::(ls++hs))).1 (.v false [.p (k4.em (.sub te.sz lo.isSome hi.isSome) (z::(ls++hs))).2]))∨
     (Nat.beq ti.kd 2=true∧k'=ca d o (k4.em (.A2 lo.isSome hi.isSome) (z::(ls++hs))).1 (.v false [.p (k4.em (.A2 lo.isSome hi.isSome) (z::(ls++hs))).2]))):=by
   rw[cN]at hk
   obtain⟨⟨k3,ls⟩,h1,hk⟩:=hk
   rw[cN]at hk
   obtain⟨⟨k4,hs⟩,h2,hk⟩:=hk
   refine⟨k3,ls,?_,k4,hs,?_,?_⟩
   ·cases lo<;>exact h1
   ·cases hi<;>exact h2
   ·simp only at hk
    cases h3:Nat.beq ti.kd 3 with
    |true=>
     simp only[h3,cond_true,cN,bG]at hk
     obtain⟨te,qs,hk⟩:=hk
     exact .inl ⟨rfl,te,qs,hk.symm⟩
    |false=>
     simp only[h3,cond_false]at hk
     cases h4:Nat.beq ti.kd 2 with
     |true=>
      simp only[h4,cond_true,bG]at hk
      exact .inr ⟨rfl,hk.symm⟩
     |false=>simp[h4]at hk
  obtain⟨k3,ls,nF,k4,hs,wS,qD⟩:=jz
  have fin:∀(p:Prim),k'=ca d o (k4.em p (z::(ls++hs))).1 (.v false [.p (k4.em p (z::(ls++hs))).2])->
    ∃r tz,p.ev (tz::(ls++hs).map (Lf.ev ρ))=some r∧(∀c,(cn d (Wk.get ⟨s.only R,[],ct,[]⟩) x)=.v false [c]->fm G2.q w tz (a.eval x))∧
     (∃c,(cn d (Wk.get ⟨s.only R,[],ct,[]⟩) x)=.v false [c])∧
     ((lo=none∧ls=[])∨∃x y t,lo=some x∧ls=[y]∧y.ev ρ=t∧fm (er G2.ω) w t (a.eval x))∧((hi=none∧hs=[])∨∃x y t,hi=some x∧hs=[y]∧y.ev ρ=t∧fm (er G2.ω) w t (a.eval x))∧
     (∀v,(execOp a.eval o).run P w=.ok (.value v) w->fm G2.q w r v->(∀x,v≠.agg x)->bV P M B d up ρ a w s o k'.w Q∧k'.ct.i=ct.i):=by
   intro p hp
   subst hp
   have jW:=cX.1 hd
   obtain⟨JE,r,hr,pn⟩:=Wk.bX jW
   have hs3:k2.fq k3:=by
    unfold pW at nF
    split at nF
    ·simp only[bG,Prod.mk.injEq]at nF;obtain⟨rfl,_⟩:=nF;exact .refl _
    ·simp only[cN,bG,Prod.mk.injEq]at nF
     obtain⟨⟨k5,y5⟩,h5,rfl,_⟩:=nF
     unfold Wk.one at h5
     split at h5
     ·exact Wk.eh h5
     ·cases h5
   obtain⟨Aw,FV,pw⟩:=FX (w2.same hs3) (f:=cn d (Wk.get ⟨s.only R,[],ct,[]⟩)) (λy _=>iV y) wS JE
   obtain⟨pR,_,mH⟩:=FX w2 (f:=cn d (Wk.get ⟨s.only R,[],ct,[]⟩)) (λy _=>iV y) nF Aw
   have y8:∃c,(cn d (Wk.get ⟨s.only R,[],ct,[]⟩) x)=.v false [c]:=by
    unfold Wk.one at qC
    split at qC
    ·rename_i c eo;exact⟨c,eo⟩
    ·cases qC
   obtain⟨c,hc⟩:=y8
   have Tq:=iV x
   rw[hc]at Tq qC zj
   obtain⟨_,po,ru,_⟩:=Tq
   cases po
   have iv:k1.val c=some (k2,z):=qC
   obtain⟨Ru,w1',_,_,_,_,tX,_⟩:=hw.eK zj
   obtain⟨tz,hz,Ts⟩:=Wk.sb iv ru w1 (by simpa[Fb]using tX)
   refine⟨r,tz,by simpa[Lf.bW hz]using hr,λ_ _=>Ts,⟨c,hc⟩,mH,pw,λv hv hdv FL=>⟨?_,?_⟩⟩
   ·exact sP h (((w2.same hs3).same FV).same (Wk.bR _ _ _)) hn hv (SX pn hdv FL) (λi hi=>by simp[dA,dV]at hi) Q
   ·rw[nu,(Wk.bR _ _ _).i,FV.i,hs3.i,oB.i,e3]
  have eR:∀v,(Instr.sliceAt t (a.eval x) (lo.map a.eval) (hi.map a.eval) none).run P w=.ok v w->(execOp a.eval o).run P w=.ok (.value v) w:=by
   intro v hv
   exact Ey (x:=Instr.sliceAt t (a.eval x) (lo.map a.eval) (hi.map a.eval) none) (by unfold execOp;rw[ho];rfl) hv
  rcases qD with⟨h3,te,qs,hk⟩|⟨h3,hk⟩
  ·obtain⟨r,tz,hr,Ts,⟨c,hc⟩,mH,pw,qD⟩:=fin _ hk
   obtain⟨xs,rfl,cV,hr⟩:=Tp hr
   obtain⟨l,hh,hF,p_,uH⟩:=Lm (F:=λl h=>if 0<=l then(if l<=h then(if h<=xs.length then some (T.l ((xs.take h.toNat).drop l.toNat))else none)else none)else none) mH pw hr
   split at hF
   ·rename_i h0
    split at hF
    ·rename_i wR
     split at hF
     ·rename_i Tt
      simp only[bG]at hF
      subst hF
      have BA:=Ts c hc
      obtain⟨ao,cap,iv,pX⟩:=BA.rows
      have hT:=ek.ty _ _ f_
      have hE:=ek.ty _ _ qs
      obtain⟨i,zz,vV,nw,_⟩:=hE.info
      by_cases sW:xs.length<=cap
      ·have pB:=To (P:=P) (w:=w) (hT.sl (ef h3)) ⟨i,vV,nw⟩ (ao:=ao) sW p_ uH h0 wR Tt
       rw[<-iv]at pB
       refine qD _ (eR _ pB) ?_ (λ_ hf=>by unfold sliced at hf;cases hf)
       rw[iv]at BA
       exact BA.sub (by omega) (by omega) cV
      ·have EE:xs=[]:=by
        cases xs with
        |nil=>rfl
        |cons y ys=>exact absurd (pX (by simp)) sW
       subst EE
       simp at sW
     ·cases hF
    ·cases hF
   ·cases hF
  ·obtain⟨r,tz,hr,Ts,⟨c,hc⟩,mH,pw,qD⟩:=fin _ hk
   obtain⟨x',rfl,hr⟩:=ahQ hr
   obtain⟨l,hh,hF,p_,uH⟩:=Lm (F:=λl h=>if 0<=l then(if l<=h then(if h<=x'.size then some (T.c (.string (x'.extract l.toNat h.toNat)))else none)else none)else none) mH pw hr
   split at hF
   ·rename_i h0
    split at hF
    ·rename_i wR
     split at hF
     ·rename_i Tt
      simp only[bG]at hF
      subst hF
      obtain⟨iv,_⟩:=(Ts c hc).scalar
      have hT:=ek.ty _ _ f_
      have pB:=ahR (P:=P) (w:=w) (hT.st (ef h3)) (x:=x') p_ uH h0 wR Tt
      rw[<-iv]at pB
      exact qD _ (eR _ pB) (.c rfl) (λ_ hf=>by cases hf)
     ·cases hF
    ·cases hF
   ·cases hF
end
def Gh.dP(G:Gh)(nb:Option Nat)(i:Nat)(f:Lb->Option Lb)(Hn:List (Nat×Nat)->Value)(nH:∀p,∃a n c,Hn p=.slice a n c):Gh where
 ω:=λb=>if nb=some b then some (.o i [])else(G.ω b).bind f
 β:=G.β
 H:=λj=>if j=i then Hn else G.H j
 hs:=λj p=>by
  by_cases h:j=i
  ·simp only[h,if_true];exact nH p
  ·simp only[h,if_false];exact G.hs j p
section
variable {M:Nat->Prop} {B:e_} {d:Nat} {up:Nat->Nat->Value} {ρ:List T} {G:Gh} {a:Act} {w:World} {S:Nat->af} {P:Program}
variable {cx:Cx} {cJ fA oi:Nat} {s:St} {R:List bE} {ct:Ct} {k':Wk} {o:Oper} {Q:Exit->Act->World->Prop}
variable {nb:Option Nat} {i:Nat} {f:Lb->Option Lb} {Hn:List (Nat×Nat)->Value} {nH:∀p,∃a n c,Hn p=.slice a n c} {w':World}
theorem FY(Tu:∀l l',qt l=true->f l=some l'->qt l'=true){b:Nat}(dH:nb≠some b)(h0:G.q b=none):(G.dP nb i f Hn nH).q b=none:=by
 refine uB h0 (λh1=>by simp[Gh.dP,dH,h1]) λl hl hq=>?_
 cases xU:f l with
 |none=>exact .inl (by simp[Gh.dP,dH,hl,xU])
 |some l'=>exact .inr ⟨l',by simp[Gh.dP,dH,hl,xU],Tu l l' hq xU⟩
theorem ahU{I:Lb->Prop}(hf:∀l,¬I l->f l=some l)(Tu:∀l l',qt l=true->f l=some l'->qt l'=true)(wT:∀c,nb=some c->w.heap.size<=c∨∃l,G.ω c=some l∧I l∧qt l=false)(hs:w.heap.size<=w'.heap.size)
  (hh:∀b,b<w.heap.size->nb≠some b->w'.heap[b]?=w.heap[b]?)(mP:∀b l,G.ω b=some l->b<w.heap.size):dF I (λj=>j=i) G w (G.dP nb i f Hn nH) w':=by
 refine⟨hs,λb hb h0=>?_,λb hb h0=>?_,λb l hb hl=>?_,λj hj=>?_⟩
 ·have dH:nb≠some b:=by
   intro e
   rcases wT _ e with h|⟨l,h,_,hq⟩
   ·omega
   ·exact wK h hq h0
  refine⟨FY Tu dH h0,hh b hb dH⟩
 ·have dH:nb≠some b:=by
   intro e
   rcases wT _ e with h|⟨l,h,_⟩
   ·omega
   ·rw[h0]at h;cases h
  simp[Gh.dP,dH,h0]
 ·have bf:=mP b l hb
  have dH:nb≠some b:=by
   intro e
   rcases wT _ e with h|⟨l',h,h',_⟩
   ·omega
   ·rw[hb]at h;cases h;exact hl h'
  exact⟨by simp[Gh.dP,dH,hb,hf l hl],hh b bf dH⟩
 ·exact⟨rfl,λ_ _=>by simp[Gh.dP,hj]⟩
theorem ahV{x:Sem Value}{v:Value}(he:execOp a.eval o=(do let v <-x;pure (Next.value v)))(h:x.run P w=.ok v w'):(execOp a.eval o).run P w=.ok (.value v) w':=by
 rw[he,Sem.run_bind,h];rfl
theorem bV.mono{M':Nat->Prop}{W:St}(h:bV P M B d up ρ a w s o W Q)(hM:∀i,M i->M' i):bV P M' B d up ρ a w s o W Q:=
 Oper.wp_mono (λa' w' ⟨G',h1,h2⟩=>⟨G',h1.mono hM,h2⟩) h
theorem FZ{k:Wk}{G1:Gh}(h:Rel M B d up s ρ G a w)(hk:dD M B d up ρ G a w k G1)(hn:∀n,o.dst=some n->n<a.tmps.size)(hM:¬M k.ct.i)
  {W1:St}{kw:Wk}{dp:Bool}{y:Lf}{t:T}{v:Value}
  (Tv:∀r,kw.w.look r=(St.look ((.o k.ct.i,.ob dp y)::W1) r).or (k.w.look r))(xV:∀r u,W1.look r=some u->∃j,r=.o j∧cL (G1.dP nb k.ct.i f Hn nH) w' ρ j u∧M j∧∀i∈dA u,M i)
  (hf:∀l,(∀j p,l=.o j p->W1.look (.o j)=none)->f l=some l)(gG:∀l l',(∃b,G1.ω b=some l)->f l=some l'->M l'.id∨l'.id=k.ct.i)
  (Tu:∀l l',qt l=true->f l=some l'->qt l'=true)(wT:∀c,nb=some c->c=w.heap.size∨∃j,G1.ω c=some (.o j [])∧W1.look (.o j)≠none∧j%4≠2)(hs:w.heap.size<=w'.heap.size)(ahW:∀c,nb=some c->c<w'.heap.size)
  (hh:∀b,b<w.heap.size->nb≠some b->w'.heap[b]?=w.heap[b]?)(so:jE w w')(hv:v=Hn [])
  (hy:y.fW ρ=some t)(bU:fB (G1.dP nb k.ct.i f Hn nH) w' k.ct.i dp [] t)(hx:(execOp a.eval o).run P w=.ok (.value v) w'):
  bV P (Mn M k.ct.i (k.ct.i+1)) B d up ρ a w s o (ca d o kw (.v false [.o k.ct.i []])).w Q:=by
 have hX:Mn M k.ct.i (k.ct.i+1) k.ct.i:=.inr ⟨Nat.le_refl _,Nat.lt_succ_self _⟩
 have Rv:∀j u,W1.look (.o j)=some u->St.look (fN d o (.v false [.o k.ct.i []])++((bE.o k.ct.i,SV.ob dp y)::W1)) (.o j)≠none:=by
  intro j u hu
  rw[mG]
  intro e
  have:=(Option.or_eq_none_iff.1 e).2
  simp only[St.look,hu]at this
  cases hb:(bE.o k.ct.i).beq (.o j)<;>simp[hb]at this
 have hK:dF (pk (fN d o (.v false [.o k.ct.i []])++((bE.o k.ct.i,SV.ob dp y)::W1))) (λj=>j=k.ct.i) G1 w (G1.dP nb k.ct.i f Hn nH) w':=by
  refine ahU (λl hl=>hf l λj p hj=>?_) Tu ?_ hs hh λb l hb=>(hk.rel.iG b l hb).2
  ·subst hj
   cases hw:W1.look (.o j)with
   |none=>rfl
   |some u=>exact absurd (Rv j u hw) hl
  ·intro c hc
   rcases wT c hc with rfl|⟨j,h1,h2,h3⟩
   ·exact .inl (Nat.le_refl _)
   ·obtain⟨u,hu⟩:=Option.ne_none_iff_exists'.1 h2
    exact .inr ⟨_,h1,Rv j u hu,sJ h3⟩
 simp only[bV,Oper.wp,hx,Oper.upon]
 refine⟨G1.dP nb k.ct.i f Hn nH,K_ h hk (W2:=fN d o (.v false [.o k.ct.i []])++((bE.o k.ct.i,SV.ob dp y)::W1)) (zh (W2:=(bE.o k.ct.i,SV.ob dp y)::W1) Tv)
  hK (λj hj=>by subst hj;exact hM) (λj hj=>.inl hj) (λn pA=>Lc pA) so ?_,Bj _ _ _⟩
 refine⟨λe n u he hl=>?_,λb u hl=>?_,λj u hl=>?_,λr u hl j hj=>?_,λj hj=>?_,λb l hb=>?_⟩
 ·rcases lK hl with⟨n',iW,e1,rfl⟩|hl
  ·cases e1
   rw[iW,SR (hn _ iW),hv]
   refine⟨_,rfl,⟨[],rfl,by simp[Gh.dP]⟩,λx hx=>?_⟩
   obtain⟨a1,a2,a3,e1⟩:=nH []
   rw[e1]at hx;cases hx
  ·rcases j8 hl with⟨e1,_⟩|hl
   ·cases e1
   ·obtain⟨j,e1,_⟩:=xV _ _ hl;cases e1
 ·rcases lK hl with⟨n',iW,e1,rfl⟩|hl
  ·cases e1
  ·rcases j8 hl with⟨e1,rfl⟩|hl
   ·cases e1
   ·obtain⟨j,e1,_⟩:=xV _ _ hl;cases e1
 ·rcases lK hl with⟨n',iW,e1,rfl⟩|hl
  ·cases e1
  ·rcases j8 hl with⟨e1,rfl⟩|hl
   ·cases e1
    exact⟨t,hy,bU⟩
   ·obtain⟨j,e1,h2,_⟩:=xV _ _ hl;cases e1;exact h2
 ·rcases lK hl with⟨n',iW,e1,rfl⟩|hl
  ·simp[dA,dV]at hj;subst hj;exact hX
  ·rcases j8 hl with⟨e1,rfl⟩|hl
   ·simp[dA]at hj
   ·obtain⟨j',e1,_,_,hm⟩:=xV _ _ hl;exact .inl (hm j hj)
 ·have:∀r:bE,(r=.x j∨r=.o j)->St.look (fN d o (.v false [.o k.ct.i []])++((bE.o k.ct.i,SV.ob dp y)::W1)) r≠none->Mn M k.ct.i (k.ct.i+1) j:=by
   intro r hr hl
   obtain⟨u,hu⟩:=Option.ne_none_iff_exists'.1 hl
   rcases lK hu with⟨n',iW,e1,rfl⟩|hl
   ·rcases hr with rfl|rfl<;>cases e1
   ·rcases j8 hl with⟨e1,rfl⟩|hl
    ·rcases hr with rfl|rfl
     ·cases e1
     ·cases e1;exact hX
    ·obtain⟨j',e1,_,hm,_⟩:=xV _ _ hl
     rcases hr with rfl|rfl
     ·cases e1
     ·cases e1;exact .inl hm
  rcases hj with hj|hj
  ·exact this _ (.inl rfl) hj
  ·exact this _ (.inr rfl) hj
 ·simp only[Gh.dP]at hb
  split at hb
  ·rename_i he
   cases hb
   exact⟨hX,ahW _ he⟩
  ·obtain⟨l0,h0,h1⟩:=Option.bind_eq_some_iff.1 hb
   obtain⟨_,bf⟩:=hk.rel.iG b l0 h0
   refine⟨?_,by omega⟩
   rcases gG l0 l ⟨_,h0⟩ h1 with hm|he
   ·exact .inl hm
   ·rw[he];exact hX
end
section
variable {M:Nat->Prop} {B:e_} {d:Nat} {up:Nat->Nat->Value} {ρ:List T} {G:Gh} {a:Act} {w:World} {S:Nat->af} {P:Program}
variable {cx:Cx} {cJ fA oi:Nat} {s:St} {R:List bE} {ct:Ct} {k':Wk} {o:Oper} {Q:Exit->Act->World->Prop}
def zT:List Ce->List T
 | []=>[]
 | .p (.k v)::cs=>.c v::zT cs
 |_::cs=>.l []::zT cs
theorem Ln:∀{zs:List Ce} {vs:List Value} {k k1:Wk} {xs:List Lf},Bi zs vs->k.jB zs=some (k1,xs)->k1=k∧xs.map (Lf.ev ρ)=zT zs
 | [],[],k,k1,xs,_,h=>by simp[Wk.jB]at h;obtain⟨rfl,rfl⟩:=h;exact⟨rfl,rfl⟩
 | [],_::_,_,_,_,h,_=>h.elim
 | .p (.k v)::cs,v'::vs,k,k1,xs,h,hk=>by
  obtain⟨rfl,hs,h⟩:=h
  simp only[Wk.jB,Wk.val,Option.bind_some,cN,bG,Prod.mk.injEq]at hk
  obtain⟨⟨k2,ys⟩,h2,rfl,rfl⟩:=hk
  obtain⟨rfl,h3⟩:=Ln h h2
  exact⟨rfl,by simp[zT,h3,Lf.ev]⟩
 | .n::cs,v'::vs,k,k1,xs,h,hk=>by
  obtain⟨rfl,h⟩:=h
  simp only[Wk.jB,Wk.val,Option.bind_some,cN,bG,Prod.mk.injEq]at hk
  obtain⟨⟨k2,ys⟩,h2,rfl,rfl⟩:=hk
  obtain⟨rfl,h3⟩:=Ln h h2
  exact⟨rfl,by simp[zT,h3,Lf.ev]⟩
 | .p (.k _)::_,[],_,_,_,h,_=>h.elim
 | .n::_,[],_,_,_,h,_=>h.elim
 | .p (.a _)::_,[],_,_,_,h,_=>h.elim
 | .p (.a _)::_,_::_,_,_,_,h,_=>h.elim
 | .p .e::_,[],_,_,_,h,_=>h.elim
 | .p .e::_,_::_,_,_,_,h,_=>h.elim
 | .o _ _::_,[],_,_,_,h,_=>h.elim
 | .o _ _::_,_::_,_,_,_,h,_=>h.elim
 | .d::_,[],_,_,_,h,_=>h.elim
 | .d::_,_::_,_,_,_,h,_=>h.elim
theorem Lp:∀{zs:List Ce} {vs:List Value},Bi zs vs->(zT zs).length=vs.length∧∀(j:Nat) (t:T),(zT zs)[j]?=some t->
  ∃v,vs[j]?=some v∧((t=.c v∧kW v=true)∨(t=.l []∧v=.slice none 0 0))
 | [],[],_=>⟨rfl,λj t h=>by simp[zT]at h⟩
 | [],_::_,h=>h.elim
 | .p (.k v)::cs,v'::vs,h=>by
  obtain⟨rfl,hs,h⟩:=h
  obtain⟨h1,h2⟩:=Lp h
  refine⟨by simp[zT,h1],λj t ht=>?_⟩
  cases j with
  |zero=>simp[zT]at ht;subst ht;exact⟨v,rfl,.inl ⟨rfl,hs⟩⟩
  |succ j=>simpa using h2 j t (by simpa[zT]using ht)
 | .n::cs,v'::vs,h=>by
  obtain⟨rfl,h⟩:=h
  obtain⟨h1,h2⟩:=Lp h
  refine⟨by simp[zT,h1],λj t ht=>?_⟩
  cases j with
  |zero=>simp[zT]at ht;subst ht;exact⟨_,rfl,.inr ⟨rfl,rfl⟩⟩
  |succ j=>simpa using h2 j t (by simpa[zT]using ht)
 | .p (.k _)::_,[],h=>h.elim
 | .n::_,[],h=>h.elim
 | .p (.a _)::_,[],h=>h.elim
 | .p (.a _)::_,_::_,h=>h.elim
 | .p .e::_,[],h=>h.elim
 | .p .e::_,_::_,h=>h.elim
 | .o _ _::_,[],h=>h.elim
 | .o _ _::_,_::_,h=>h.elim
 | .d::_,[],h=>h.elim
 | .d::_,_::_,h=>h.elim
theorem Tw{z:Array Value}{n i j:Nat}(hj:j<z.size)(hi:i<n):(madeCells z (n*z.size))[i*z.size+j]?=z[j]?:=by
 have bf:i*z.size+j<n*z.size:=by
  have:(i+1)*z.size<=n*z.size:=Nat.mul_le_mul_right _ hi
  rw[Nat.add_mul]at this
  omega
 have hm:(i*z.size+j)%z.size=j:=by rw[Nat.add_comm,Nat.add_mul_mod_self_right,Nat.mod_eq_of_lt hj]
 simp[madeCells,bf,hm,hj]
theorem ahX{n i j:Nat}{ts:List T}{t:T}(h:d_ (List.replicate n ts) i j=some t):i<n∧ts[j]?=some t:=by
 unfold d_ at h
 rw[List.getElem?_replicate]at h
 split at h
 ·rename_i hi;exact⟨hi,h⟩
 ·simp at h
theorem ahY{t t' r:T}{ts:List T}(h:Prim.ev .mk (t::t'::ts)=some r):∃(k k2:IntKind) (n c:Int),t=.c (.int k n)∧t'=.c (.int k2 c)∧0<=n∧n=c∧c<r8∧r=.l (List.replicate n.toNat ts):=by
 cases t with
 |l _=>simp[Prim.ev]at h
 |c v=>
  cases v with
  |int k n=>
   cases t' with
   |l _=>simp[Prim.ev]at h
   |c v'=>
    cases v' with
    |int k2 c=>
     simp only[Prim.ev]at h
     split at h
     ·split at h
      ·split at h
       ·simp only[bG]at h
        exact⟨k,k2,n,c,rfl,rfl,by assumption,by assumption,by assumption,h.symm⟩
       ·cases h
      ·cases h
     ·cases h
    |_=>simp[Prim.ev]at h
  |_=>cases t'<;>simp[Prim.ev]at h
theorem ahZ(ek:eL P cx)(h:Rel M B d up s ρ G a w)(hn:∀n,o.dst=some n->n<a.tmps.size){t:Nat}{x y:Operand}(ho:o.op=.makeSlice t x y)
  (hk:jf cx cJ fA d o oi ⟨s.only R,[],ct,[]⟩=some k')(hd:k'.bJ S ρ)(hM:∀i,ct.i<=i->i<k'.ct.i->¬M i):bV P (Mn M ct.i k'.ct.i) B d up ρ a w s o k'.w Q:=by
 have hw:=dD.start h R ct
 simp only[jf,ho,cN]at hk
 obtain⟨ti,f_,te,qs,⟨k1,n⟩,h1,⟨k2,m⟩,h2,⟨k3,zs⟩,h3,hk⟩:=hk
 cases hc:(Nat.beq ti.kd 3&&Nat.ble te.bytes 65536&&Nat.blt 0 te.sz)with
 |false=>simp[hc]at hk
 |true=>
  simp only[hc,cond_true,bG]at hk
  simp only[bD]at hc
  obtain⟨⟨po,jX⟩,hc3⟩:=hc
  have hT:=ek.ty _ _ f_
  have hE:=ek.ty _ _ qs
  obtain⟨i,z,vV,nw,hi3,JJ,y7⟩:=hE.info
  have hu:=hT.sl (ef po)
  obtain⟨rfl,BB⟩:=Ln (ρ:=ρ) y7 h3
  obtain⟨rJ,hza⟩:=Lp y7
  have iw:z.cells.size=te.sz:=by
   have:=(K7 (G:=G) (w:=w) (ρ:=ρ) y7).1.length
   rw[hE.FI]at this
   simpa using this.symm
  have c_:ca d o {(k3.em .mk (n::m::zs)).1.set (.o (fw k3.ct.i)) (.ob true (k3.em .mk (n::m::zs)).2)with ct:=⟨(k3.em .mk (n::m::zs)).1.ct.a,fw k3.ct.i+1⟩} (.v false [.o (fw k3.ct.i) []])=k':=hk
  have fR:(k3.em .mk (n::m::zs)).1.bJ S ρ:=by
   rw[<-c_]at hd
   have h2:=cX.1 hd
   exact h2
  obtain⟨Aw,r,hr,pn⟩:=Wk.bX fR
  have nv:Wk.fq ⟨s.only R,[],ct,[]⟩ k1:=by
   unfold Wk.one at h1
   split at h1
   ·exact Wk.eh h1
   ·cases h1
  obtain⟨pR,oB,tm,hm,hdm⟩:=Wk.iu (hw.same nv) h2 Aw (hw.iV y).1
  obtain⟨_,_,tn,xR,pA⟩:=Wk.iu hw h1 pR (hw.iV x).1
  have vQ:=((hw.same nv).same oB).same (Wk.bR k3 .mk (n::m::zs))
  have kY:k3.ct.i=ct.i:=by rw[oB.i,nv.i]
  simp only[List.map_cons,BB,Lf.bW hm,Lf.bW xR]at hr
  obtain⟨kn,kc,nn,cc,rfl,rfl,g1,g2,g3,rfl⟩:=ahY hr
  have en:=Bz pA
  have ec:=Bz hdm
  have hb:=Nat.le_of_ble_eq_true jX
  have pX:cc<4294967296:=g3
  have Lq:(i.bytes:Int)*cc<=281474976710656:=by
   rw[hi3]
   have e1:(te.bytes:Int)<=65536:=by omega
   have h0:(0:Int)<=cc:=by omega
   calc (te.bytes:Int)*cc<=65536*cc:=Int.mul_le_mul_of_nonneg_right e1 h0
    _<=281474976710656:=by omega
  have eR:=run_make (P:=P) w t ti.el i z hu vV JJ kn kc nn cc g1 (by omega) Lq (by omega)
  rw[nw,<-iw]at eR
  have pV:k'.ct.i=fw ct.i+1:=by rw[<-c_,nu,<-kY]
  have jy:=A5 ct.i
  have hnc:nn.toNat<=cc.toNat:=by omega
  let Hn:List (Nat×Nat)->Value:=λp=>match p with| []=>.slice (some ⟨w.heap.size,0,none⟩) nn.toNat cc.toNat|_=>.slice none 0 0
  have nH:∀p,∃a n c,Hn p=.slice a n c:=λp=>by cases p<;>exact⟨_,_,_,rfl⟩
  rw[pV,<-c_,<-kY]
  refine bV.mono (M:=Mn M (fw k3.ct.i) (fw k3.ct.i+1)) ?_ (λi hi=>hi.imp_right λhi=>by rw[kY]at hi⊢;exact⟨by omega,hi.2⟩)
  refine FZ (nb:=some w.heap.size) (f:=some) (Hn:=Hn) (nH:=nH) (w':=w.alloc (.cells (madeCells z.cells (cc.toNat*z.cells.size)) ti.el)) (k:={(k3.em .mk (n::m::zs)).1 with ct:=⟨(k3.em .mk (n::m::zs)).1.ct.a,fw k3.ct.i⟩}) (W1:=[]) (t:=.l (List.replicate nn.toNat (zT te.zero)))
   h (show dD M B d up ρ G a w {(k3.em .mk (n::m::zs)).1 with ct:=⟨(k3.em .mk (n::m::zs)).1.ct.a,fw k3.ct.i⟩} G from⟨vQ.rel,vQ.bm⟩) hn (hM _ (by show ct.i<=fw k3.ct.i;rw[kY];exact jy) (by rw[pV];show fw k3.ct.i<_;rw[kY];omega)) (λr=>by exact vT (k:=(k3.em .mk (n::m::zs)).1) r) (λr u hu=>by cases hu) (λl _=>rfl) (λl l' ⟨b,hb⟩ he=>by cases he;exact .inl (vQ.rel.iG b _ hb).1)
   (λl l' hq he=>by cases he;exact hq) (λc hc=>by cases hc;exact .inl rfl) (by simp) (λc hc=>by cases hc;simp) (λb hb _=>heap_alloc_old w _ b hb) (FQ _ _) rfl pn ?_ (ahV (x:=Instr.makeSlice t (a.eval x) (a.eval y)) (by unfold execOp;rw[ho]) (by rw[en,ec];exact eR))
  have hlen:(List.replicate nn.toNat (zT te.zero)).length=nn.toNat:=by simp
  have hzT:(zT te.zero).length=z.cells.size:=by rw[rJ];simp
  have wU:∀(ii j:Nat) (t:T),d_ (List.replicate nn.toNat (zT te.zero)) ii j=some t->ii<nn.toNat∧j<z.cells.size∧∃v,z.cells[j]?=some v∧((t=.c v∧kW v=true)∨(t=.l []∧v=.slice none 0 0)):=by
   intro ii j t ht
   obtain⟨q1,q2⟩:=ahX ht
   obtain⟨v,q3,q4⟩:=hza j t q2
   refine⟨q1,?_,v,by simpa using q3,q4⟩
   rw[<-hzT];exact(List.getElem?_eq_some_iff.1 q2).1
  refine .l (wd:=z.cells.size) (cv:=λ_ j=>z.cells.getD j undef) (by rw[hlen];simp[Gh.dP,Hn]) ⟨by rw[hlen];exact hnc,λhe=>by have:=congrArg List.length he;simp at this;omega⟩ (by simp[Gh.dP]) (heap_alloc_new w _) (size_madeCells _ _) (λr hr=>?_) ?_ ?_ (λ_ _ _ _ hf=>by cases hf) ?_ ?_
  ·rw[List.eq_of_mem_replicate hr];exact hzT
  ·intro ii j t ht
   obtain⟨q1,q2,v,q3,_⟩:=wU ii j t ht
   rw[Tw q2 (by omega),q3]
   simp[Array.getD_eq_getD_getElem?,q3]
  ·intro ii j v ht
   obtain⟨q1,q2,u,q3,q4⟩:=wU ii j _ ht
   rcases q4 with⟨e1,e2⟩|⟨e1,_⟩
   ·cases e1
    exact⟨by simp[Array.getD_eq_getD_getElem?,q3],e2⟩
   ·cases e1
  ·intro ii j ys ht _
   obtain⟨q1,q2,u,q3,q4⟩:=wU ii j _ ht
   rcases q4 with⟨e1,e2⟩|⟨e1,e2⟩
   ·cases e1
   ·simp[Array.getD_eq_getD_getElem?,q3,e2,Gh.dP,Hn]
  ·intro ii j ys ht _
   obtain⟨q1,q2,u,q3,q4⟩:=wU ii j _ ht
   rcases q4 with⟨e1,e2⟩|⟨e1,e2⟩
   ·cases e1
   ·cases e1
    exact .nil (by simp[Gh.dP,Hn])
end
theorem fB.move{G:Gh}{w:World}{id:Nat}{p:List (Nat×Nat)}{t:T}{dp:Bool}(h:fB G w id dp p t)(gR:dp=true){G':Gh}{w':World}{id':Nat}{p':List (Nat×Nat)}
  (iq:∀c r,G.ω c=some (.o id (p++r))->G'.ω c=some (.o id' (p'++r))∧w'.heap[c]?=w.heap[c]?)(hH:∀r,G'.H id' (p'++r)=G.H id (p++r)):fB G' w' id' dp p' t:=by
 induction h generalizing p' with
 |nil h=>exact .nil (by have:=hH [];simp only[List.append_nil]at this;rw[this];exact h)
 | @l dp p xs b wd cap b9 elem cv h1 h2 h3 h4 h5 h6 h7 h8 h9 n_ xM ih=>
  have hb:=iq b [] (by simpa using h3)
  simp only[List.append_nil]at hb
  have h0:=hH []
  simp only[List.append_nil]at h0
  refine .l (by rw[h0];exact h1) h2 hb.1 (hb.2.trans h4) h5 h6 h7 h8 (λi j ys hy hd=>by rw[gR]at hd;cases hd) (λi j ys hy hd=>by rw[hH [(i,j)]];exact n_ i j ys hy hd) λi j ys hy hd=>?_
  refine ih i j ys hy hd rfl (p':=p'++[(i,j)]) (λc r hc=>?_) λr=>?_
  ·have:=iq c ((i,j)::r) (by simpa using hc)
   simpa using this
  ·have:=hH ((i,j)::r)
   simpa using this
structure qE (G:Gh) (w:World) (id:Nat) (dp:Bool) (sz n0:Nat) (xs:List (List T)) (cv:Nat->Nat->Value):Prop where
 wd:∀r∈xs,r.length=sz
 sc:∀i j v,d_ xs i j=some (.c v)->cv i j=v∧kW v=true
 pl:∀i j ys,d_ xs i j=some (.l ys)->dp=false->fm G.q w (.l ys) (cv i j)
 hd:∀i j ys,d_ xs i j=some (.l ys)->dp=true->cv i j=G.H id [(n0+i,j)]
 ow:∀i j ys,d_ xs i j=some (.l ys)->dp=true->fB G w id true [(n0+i,j)] (.l ys)
theorem BC{xs ys:List (List T)}{i j:Nat}{t:T}(h:d_ (xs++ys) i j=some t):
  (i<xs.length∧d_ xs i j=some t)∨(xs.length<=i∧d_ ys (i-xs.length) j=some t):=by
 unfold d_ at h⊢
 by_cases hi:i<xs.length
 ·rw[List.getElem?_append_left hi]at h;exact .inl ⟨hi,h⟩
 ·rw[List.getElem?_append_right (by omega)]at h;exact .inr ⟨by omega,h⟩
theorem qE.join{G:Gh}{w:World}{id:Nat}{dp:Bool}{sz:Nat}{xs ys:List (List T)}{cv sT:Nat->Nat->Value}(hx:qE G w id dp sz 0 xs cv)(hy:qE G w id dp sz xs.length ys sT)
  {b cap:Nat}{b9:Array Value}{elem:TypeId}(hH:G.H id []=.slice (some ⟨b,0,none⟩) (xs.length+ys.length) cap)(hc:xs.length+ys.length<=cap∧(xs++ys=[]->cap=0))(iq:G.ω b=some (.o id []))
  (hh:w.heap[b]?=some (.cells b9 elem (0,0)))(hs:b9.size=cap*sz)(h1:∀i j,i<xs.length->j<sz->b9[i*sz+j]?=some (cv i j))
  (h2:∀i j,i<ys.length->j<sz->b9[(xs.length+i)*sz+j]?=some (sT i j)):fB G w id dp [] (.l (xs++ys)):=by
 have lx:∀{i j:Nat} {t:T},d_ xs i j=some t->i<xs.length∧j<sz:=by
  intro i j t ht
  obtain⟨r,_,hm,_,q1,q2⟩:=xL ht
  exact⟨q1,by rw[<-hx.wd r hm];exact q2⟩
 have ly:∀{i j:Nat} {t:T},d_ ys i j=some t->i<ys.length∧j<sz:=by
  intro i j t ht
  obtain⟨r,_,hm,_,q1,q2⟩:=xL ht
  exact⟨q1,by rw[<-hy.wd r hm];exact q2⟩
 let c:Nat->Nat->Value:=λi j=>if i<xs.length then cv i j else sT (i-xs.length) j
 refine .l (cv:=c) (by rw[List.length_append];exact hH) (by rw[List.length_append];exact hc) iq hh hs (λr hr=>?_) ?_ ?_ ?_ ?_ ?_
 ·rcases List.mem_append.1 hr with hr|hr
  ·exact hx.wd r hr
  ·exact hy.wd r hr
 ·intro i j t ht
  rcases BC ht with⟨q,ht⟩|⟨q,ht⟩
  ·simp only[c,if_pos q];exact h1 i j q (lx ht).2
  ·have:=h2 (i-xs.length) j (ly ht).1 (ly ht).2
   rw[show xs.length+(i-xs.length)=i by omega]at this
   simp only[c,if_neg (show¬i<xs.length by omega)];exact this
 ·intro i j v ht
  rcases BC ht with⟨q,ht⟩|⟨q,ht⟩
  ·simp only[c,if_pos q];exact hx.sc i j v ht
  ·simp only[c,if_neg (show¬i<xs.length by omega)];exact hy.sc _ j v ht
 ·intro i j zs ht hd
  rcases BC ht with⟨q,ht⟩|⟨q,ht⟩
  ·simp only[c,if_pos q];exact hx.pl i j zs ht hd
  ·simp only[c,if_neg (show¬i<xs.length by omega)];exact hy.pl _ j zs ht hd
 ·intro i j zs ht hd
  rcases BC ht with⟨q,ht⟩|⟨q,ht⟩
  ·simp only[c,if_pos q];have:=hx.hd i j zs ht hd;simpa using this
  ·have:=hy.hd _ j zs ht hd
   rw[show xs.length+(i-xs.length)=i by omega]at this
   simp only[c,if_neg (show¬i<xs.length by omega)];simpa using this
 ·intro i j zs ht hd
  rcases BC ht with⟨q,ht⟩|⟨q,ht⟩
  ·have:=hx.ow i j zs ht hd;simpa using this
  ·have:=hy.ow _ j zs ht hd
   rw[show xs.length+(i-xs.length)=i by omega]at this
   simpa using this
def sd(cv:Nat->Nat->Value)(sz m:Nat):List Value:=(List.range (m*sz)).map λk=>cv (k/sz) (k%sz)
theorem Ay(cv:Nat->Nat->Value)(sz m:Nat):(sd cv sz m).length=m*sz:=by simp[sd]
theorem BD{cv:Nat->Nat->Value}{sz m i j:Nat}(hi:i<m)(hj:j<sz):(sd cv sz m)[i*sz+j]?=some (cv i j):=by
 have bf:i*sz+j<m*sz:=by
  have:(i+1)*sz<=m*sz:=Nat.mul_le_mul_right _ hi
  rw[Nat.add_mul]at this
  omega
 have h1:(i*sz+j)/sz=i:=by rw[Nat.add_comm,Nat.add_mul_div_right _ _ (by omega),Nat.div_eq_of_lt hj];omega
 have h2:(i*sz+j)%sz=j:=by rw[Nat.add_comm,Nat.add_mul_mod_self_right,Nat.mod_eq_of_lt hj]
 simp[sd,bf,h1,h2]
theorem ah1{cv:Nat->Nat->Value}{sz m:Nat}{v:Value}(iw:0<sz)(h:v∈sd cv sz m):∃i j,i<m∧j<sz∧v=cv i j:=by
 simp only[sd,List.mem_map,List.mem_range]at h
 obtain⟨k,hk,rfl⟩:=h
 exact⟨k/sz,k%sz,Nat.div_lt_of_lt_mul (by rw[Nat.mul_comm];exact hk),Nat.mod_lt _ iw,rfl⟩
section
variable {ρ:List T} {w:World} {P:Program}
theorem ah2{sz wd:Nat}{xs:List (List T)}(hw:∀r∈xs,r.length=wd)(cV:okW sz xs=true):∀r∈xs,r.length=sz:=by
 intro r hr
 cases xs with
 |nil=>cases hr
 |cons x xs=>
  have h1:=hw x (by simp)
  have h2:=ef cV
  rw[hw r hr,<-h1,h2]
theorem Lr{xs:List (List T)}{sz i j:Nat}(hw:∀r∈xs,r.length=sz)(hi:i<xs.length)(hj:j<sz):∃t,d_ xs i j=some t:=by
 have hr:=List.getElem?_eq_getElem hi
 have hl:=hw xs[i] (List.getElem_mem hi)
 exact⟨xs[i][j],by simp[d_,hr,List.getElem?_eq_getElem (show j<xs[i].length by omega)]⟩
theorem zk{ω:Nat->Option Lb}{ys:List (List T)}{v:Value}(h:fm ω w (.l ys) v){sz:Nat}(iw:0<sz)(cV:okW sz ys=true){tx e':TypeId}(ht:P.underlying tx=some (.slice e')):
  ∃cv:Nat->Nat->Value,Src P sz tx v ys.length (sd cv sz ys.length) w∧(∀r∈ys,r.length=sz)∧(∀i j t,d_ ys i j=some t->fm ω w t (cv i j))∧
   (∀b off n cap,v=.slice (some ⟨b,off,none⟩) n cap->∀i j t,d_ ys i j=some t->w.cell? ⟨b,off+(i*sz+j),none⟩=some (cv i j)):=by
 cases h with
 |nil=>
  rename_i ao cap
  refine⟨λ_ _=>undef,?_,(λr hr=>by cases hr),(λi j t h=>by simp[d_]at h),λ_ _ _ _ _ i j t h=>by simp[d_]at h⟩
  have e0:sd (λ_ _=>undef) sz ([]:List (List T)).length=[]:=by simp[sd]
  rw[e0]
  cases ao with
  |none=>exact Src.ofNil w ht cap
  |some ad=>exact Src.ofSlice w ht ad 0 cap [] (by simp) (λj u hu=>by simp at hu) λu hu=>by cases hu
 | @l _ b off wd cap cv hw hc hb bf h1 h2=>
  have hw':=ah2 hw cV
  have uK:ys=[]∨wd=sz:=by
   cases ys with
   |nil=>exact .inl rfl
   |cons y ys=>exact .inr ((hw y (by simp)).symm.trans (hw' y (by simp)))
  have qA:∀i j t,d_ ys i j=some t->w.cell? ⟨b,off+(i*sz+j),none⟩=some (cv i j):=by
   intro i j t bI
   rcases uK with rfl|rfl
   ·simp[d_]at bI
   ·exact h1 i j t bI
  refine⟨cv,Src.ofSlice w ht ⟨b,off,none⟩ ys.length cap _ (Ay _ _ _) (λk u hu=>?_) (λu hu=>?_),hw',h2,λb' aho n' za he=>by cases he;exact qA⟩
  ·have hk:k<ys.length*sz:=by rw[<-Ay cv sz ys.length];exact(List.getElem?_eq_some_iff.1 hu).1
   have hi:k/sz<ys.length:=Nat.div_lt_of_lt_mul (by rw[Nat.mul_comm];exact hk)
   have hj:k%sz<sz:=Nat.mod_lt _ iw
   have nI:(k/sz)*sz+k%sz=k:=by rw[Nat.mul_comm];exact Nat.div_add_mod k sz
   obtain⟨t,bI⟩:=Lr hw' hi hj
   have:=BD (cv:=cv) hi hj
   rw[nI,hu]at this
   cases this
   have jX:=qA _ _ t bI
   rw[nI]at jX
   rw[Addr.add_lit]
   exact jX
  ·obtain⟨i,j,hi,hj,rfl⟩:=ah1 iw hu
   obtain⟨t,bI⟩:=Lr hw' hi hj
   exact(h2 i j t bI).one
end
section
variable {P:Program} {w:World}
theorem Tx(b:Nat)(t:TypeId):∀(vs:List Value) (o:Nat) (w:World) (b9:Array Value),w.heap[b]?=some (.cells b9 t (0,0))->
  (w.setCells b o vs).heap[b]?=some (.cells (zf vs o b9) t (0,0))∧(∀c,c≠b->(w.setCells b o vs).heap[c]?=w.heap[c]?)∧(w.setCells b o vs).heap.size=w.heap.size∧
   jE w (w.setCells b o vs)
 | [],o,w,b9,h=>⟨h,λ_ _=>rfl,rfl,⟨rfl,rfl,rfl⟩⟩
 |v::vs,o,w,b9,h=>by
  have h1:=heap_setCell_same w b o b9 t v h
  obtain⟨g1,g2,g3,g4⟩:=Tx b t vs (o+1) _ _ h1
  refine⟨g1,λc hc=>(g2 c hc).trans (heap_setCell_other w ⟨b,o,none⟩ c v hc),?_,?_⟩
  ·rw[World.setCells,g3];simp
  ·exact⟨g4.os.trans rfl,g4.tape.trans rfl,g4.output.trans rfl⟩
def Ls(w:World)(sz:Nat)(v:Value)(n:Nat)(b0:Option Nat)(cv:Nat->Nat->Value):Prop:=
 (v=.slice none 0 0∧n=0∧b0=none)∨∃b cap b9 elem,v=.slice (some ⟨b,0,none⟩) n cap∧b0=some b∧w.heap[b]?=some (.cells b9 elem (0,0))∧b9.size=cap*sz∧n<=cap∧(n=0->cap=0)∧
  ∀i j,i<n->j<sz->b9[i*sz+j]?=some (cv i j)
structure Tz (w w':World) (sz:Nat) (v':Value) (n m:Nat) (b0 nb:Option Nat) (cv sT:Nat->Nat->Value):Prop where
 so:jE w w'
 size:w.heap.size<=w'.heap.size
 oth:∀c,c<w.heap.size->nb≠some c->w'.heap[c]?=w.heap[c]?
 at_:∀c,nb=some c->(c=w.heap.size∨b0=some c)∧c<w'.heap.size
 row:(nb=none∧v'=.slice none 0 0∧n=0∧m=0)∨∃b cap b9 elem,nb=some b∧v'=.slice (some ⟨b,0,none⟩) (n+m) cap∧w'.heap[b]?=some (.cells b9 elem (0,0))∧b9.size=cap*sz∧n+m<=cap∧(n+m=0->cap=0)∧
  (∀i j,i<n->j<sz->b9[i*sz+j]?=some (cv i j))∧∀i j,i<m->j<sz->b9[(n+i)*sz+j]?=some (sT i j)
theorem BE{i n j sz:Nat}(hi:i<n)(hj:j<sz):i*sz+j<n*sz:=by
 have:(i+1)*sz<=n*sz:=Nat.mul_le_mul_right _ hi
 rw[Nat.add_mul]at this
 omega
theorem ah4{b9:Array Value}{sz n:Nat}{cv:Nat->Nat->Value}(iw:0<sz)(h:∀i j,i<n->j<sz->b9[i*sz+j]?=some (cv i j)){k:Nat}{u:Value}(hu:(sd cv sz n)[k]?=some u):b9[k]?=some u:=by
 have hk:k<n*sz:=by rw[<-Ay cv sz n];exact(List.getElem?_eq_some_iff.1 hu).1
 have hi:k/sz<n:=Nat.div_lt_of_lt_mul (by rw[Nat.mul_comm];exact hk)
 have hj:k%sz<sz:=Nat.mod_lt _ iw
 have nI:(k/sz)*sz+k%sz=k:=by rw[Nat.mul_comm];exact Nat.div_add_mod k sz
 have h1:=BD (cv:=cv) hi hj
 rw[nI,hu]at h1
 cases h1
 have h2:=h _ _ hi hj
 rw[nI]at h2
 exact h2
theorem ah5{t tx ty e:TypeId}{i:TypeInfo}{z:Value}(ht:P.underlying t=some (.slice e))(hi:P.info? e=some i)(hz:i.zero=some z){sz:Nat}(hs:i.size=sz)(BB:z.cells.size=sz)(iw:0<sz)
  (hby:i.bytes<=32768){va vb:Value}{n m:Nat}{b0:Option Nat}{cv sT:Nat->Nat->Value}(hr:Ls w sz va n b0 cv)(oC:Src P sz tx vb m (sd sT sz m) w)(pX:n+m<r8):
  ∃v' w' nb,(Builtin.append_ #[t,tx] ty #[va,vb]).run P w=.ok v' w'∧Tz w w' sz v' n m b0 nb cv sT:=by
 subst hs
 have azq:n+m<4294967296:=pX
 have grown:∀(base:Option Addr) (wV:Nat),(Builtin.firstCells i.size n (.slice base n wV)).run P w.drew=.ok (sd cv i.size n).toArray w.drew->wV<n+m->
   ∃v' w' nb,(Builtin.append_ #[t,tx] ty #[.slice base n wV,vb]).run P w=.ok v' w'∧Tz w w' i.size v' n m b0 nb cv sT:=by
  intro base wV hold bf
  have lJ:Builtin.nextslicecap (n+m) wV*i.bytes<=281474976710656:=growslice_fits (by omega) (by
   calc (n+m)*i.bytes<=4294967296*32768:=Nat.mul_le_mul (by omega) hby
    _=140737488355328:=by rfl)
  have eR:=run_append_grow_src (P:=P) w t tx ty e i z ht hi hz base n wV _ hold vb m _ oC bf (by omega) lJ
  refine⟨_,_,some w.heap.size,eR,⟨⟨rfl,rfl,rfl⟩,by simp,λc hc _=>heap_alloc_old w.drew _ c hc,λc hc=>by cases hc;exact⟨.inl rfl,by simp⟩,.inr ⟨w.heap.size,_,_,e,rfl,rfl,heap_alloc_new w.drew _,?_,grownCap_ge w _ _ _,λh0=>by omega,?_,?_⟩⟩⟩
  ·have TA:=grownCap_ge w (n+m) wV e
   simp only[Array.size_append,List.size_toArray,List.length_append,Ay,size_zeroCells,BB,<-Nat.add_mul]
   congr 1
   omega
  ·intro ii j sN hj
   have nJ:=BE sN hj
   rw[Array.getElem?_append_left (by simp only[List.size_toArray,List.length_append,Ay];omega),List.getElem?_toArray,List.getElem?_append_left (by rw[Ay];exact nJ)]
   exact BD sN hj
  ·intro ii j sN hj
   have nJ:=BE sN hj
   have e1:(n+ii)*i.size+j=n*i.size+(ii*i.size+j):=by rw[Nat.add_mul];omega
   rw[Array.getElem?_append_left (by simp only[List.size_toArray,List.length_append,Ay];omega),List.getElem?_toArray,List.getElem?_append_right (by rw[Ay];omega),Ay,
    show(n+ii)*i.size+j-n*i.size=ii*i.size+j by omega]
   exact BD sN hj
 rcases hr with⟨rfl,rfl,rfl⟩|⟨b,cap,b9,elem,rfl,rfl,hb,xW,hnc,Br,sQ⟩
 ·by_cases hm:m=0
  ·subst hm
   refine⟨.slice none 0 0,w,none,?_,⟨⟨rfl,rfl,rfl⟩,Nat.le_refl _,λ_ _ _=>rfl,(λc hc=>by cases hc),.inl ⟨rfl,rfl,rfl,rfl⟩⟩⟩
   rcases oC.kind with⟨e',hk⟩|hk<;>simp[Builtin.append_,run_underlying ht,run_underlying hk,sizeOf,typeInfo,hi,oC.len,oC.cells]
  ·refine grown none 0 ?_ (by omega)
   have:=run_firstCells_none (P:=P) w.drew i.size 0 0 0
   simpa[sd]using this
 ·by_cases uL:n+m<=cap
  ·have JK:n*i.size+(sd sT i.size m).length<=b9.size:=by rw[Ay,xW,<-Nat.add_mul];exact Nat.mul_le_mul_right _ uL
   have eR:=run_append_room_src (P:=P) w t tx ty e i ht hi b 0 n cap vb m _ oC uL (λj hj=>by
    rw[yY hb];simp only[Nat.zero_add];rw[Array.getElem?_eq_getElem (by omega)];rfl) (λj hj=>by simp[World.frozen?,hb])
   obtain⟨g1,g2,g3,g4⟩:=Tx b elem (sd sT i.size m) (0+n*i.size) w b9 hb
   have ah7:b<w.heap.size:=Rp hb
   refine⟨_,_,some b,eR,⟨g4,by rw[g3];exact Nat.le_refl _,λc _ hc=>g2 c λe=>hc (by rw[e]),λc hc=>by cases hc;exact⟨.inr rfl,by rw[g3];exact ah7⟩,.inr ⟨b,cap,_,elem,rfl,rfl,g1,?_,uL,λh0=>Br (by omega),?_,?_⟩⟩⟩
   ·rw[Rr];exact xW
   ·intro ii j sN hj
    have nJ:=BE sN hj
    rw[Rs _ _ _ _ (by simpa using JK),if_neg (by omega)]
    exact sQ ii j sN hj
   ·intro ii j sN hj
    have nJ:=BE sN hj
    have e1:(n+ii)*i.size+j=n*i.size+(ii*i.size+j):=by rw[Nat.add_mul];omega
    rw[Rs _ _ _ _ (by simpa using JK),if_pos ⟨by omega,by rw[Ay];omega⟩,show(n+ii)*i.size+j-(0+n*i.size)=ii*i.size+j by omega]
    exact BD sN hj
  ·refine grown (some ⟨b,0,none⟩) cap ?_ (by omega)
   have:=run_firstCells_some (P:=P) w.drew i.size n ⟨b,0,none⟩ n cap (sd cv i.size n) (Ay _ _ _) (λj u hu=>by
    rw[Addr.add_lit]
    simp only[Nat.zero_add,World.cell?_drew]
    rw[yY hb]
    exact ah4 iw sQ hu)
   exact this
end
section
variable {M:Nat->Prop} {B:e_} {d:Nat} {up:Nat->Nat->Value} {ρ:List T} {G:Gh} {a:Act} {w:World} {S:Nat->af} {P:Program}
def ll(kA kx:Wk)(W:St):Prop:=kA.r=kx.r∧∀r,kA.w.look r=(W.look r).or (kx.w.look r)
theorem ah8{k kA:Wk}{G1:Gh}{X:SV}{va:Value}{la:Lf}{JL k_:Bool}(hk:dD M B d up ρ G a w k G1)(hr:cK G1 w ρ X va)(hm:∀i∈dA X,M i)(h:KD k X=some (kA,la,JL))
  (gR:k_=true->JL=true):kA.ct=k.ct∧kA.is=k.is∧∃kx G2 WA xs,dD M B d up ρ G a w kx G2∧kx.ct=k.ct∧ll kA kx WA∧la.fW ρ=some (.l xs)∧
   ((va=.slice none 0 0∧xs=[]∧WA=[])∨∃lD,WA=[(.o lD,.un)]∧M lD∧lD%4≠2∧va=G2.H lD []∧fB G2 w lD k_ [] (.l xs)):=by
 unfold KD at h
 split at h
 ·simp only[bG,Prod.mk.injEq]at h
  obtain⟨rfl,rfl,rfl⟩:=h
  obtain⟨e,he,ru,_⟩:=hr
  cases he
  exact⟨rfl,rfl,k,G1,[],[],hk,rfl,⟨rfl,λr=>by simp[St.look]⟩,rfl,.inl ⟨ru,rfl,rfl⟩⟩
 ·rename_i id
  split at h
  ·rename_i dp x hx
   cases sV:Nat.beq (id%4) 2 with
   |true=>simp[sV]at h
   |false=>
   have BF:id%4≠2:=λe=>by rw[e]at sV;cases sV
   simp only[sV,cond_false,bG,Prod.mk.injEq]at h
   obtain⟨rfl,rfl,rfl⟩:=h
   obtain⟨e,he,ru,_⟩:=hr
   cases he
   obtain⟨p,hp,hva⟩:=ru
   simp only[mD,bG]at hp
   subst hp
   have hM:M id:=hm id (by simp[dA,dV])
   refine⟨rfl,rfl,?_⟩
   by_cases hd:k_=dp
   ·subst hd
    have eH:=hk.obj id
    rw[hx]at eH
    obtain⟨t,ht,bU⟩:=eH
    obtain⟨xs,rfl⟩:∃ys,t=.l ys:=by cases bU<;>exact⟨_,rfl⟩
    exact⟨k,G1,[(.o id,.un)],xs,hk,rfl,⟨rfl,λr=>vT r⟩,ht,.inr ⟨id,rfl,hM,BF,hva,bU⟩⟩
   ·have e1:k_=false:=by cases k_<;>cases dp<;>simp_all
    subst e1
    have xU:k.flat id=some (k.set (.o id) (.ob false x)):=by unfold Wk.flat;rw[hx]
    obtain⟨G2,w2,f1,f2,f3,f4,f5⟩:=hk.flat xU
    have eH:=w2.obj id
    rw[Wk.ci]at eH
    obtain⟨t,ht,bU⟩:=eH
    obtain⟨xs,rfl⟩:∃ys,t=.l ys:=by cases bU<;>exact⟨_,rfl⟩
    refine⟨_,G2,[(.o id,.un)],xs,w2,f4,⟨rfl,λr=>?_⟩,ht,.inr ⟨id,rfl,hM,BF,by rw[f2];exact hva,bU⟩⟩
    rw[show(k.set (.o id) .un).w.look r=_ from vT r,vS]
    by_cases sS:bE.o id=r
    ·subst sS;simp
    ·simp only[sS,if_false,Option.none_or]
     exact(St.cF _ _ sS).symm
  ·cases h
 ·cases h
def F0(G:Gh)(w:World)(k_:Bool)(mQ:Option Nat)(ys:List (List T))(cv:Nat->Nat->Value):Prop:=
 (k_=false∧∀i j t,d_ ys i j=some t->fm G.q w t (cv i j))∨
 ((∀i j t,d_ ys i j=some t->eQ t=true∧fm (er G.ω) w t (cv i j)))∨
 (∃id,k_=true∧mQ=some id∧(∀i j zs,d_ ys i j=some (.l zs)->fB G w id true [(i,j)] (.l zs))∧(∀i j v,d_ ys i j=some (.c v)->cv i j=v∧kW v=true)∧∀i j zs,d_ ys i j=some (.l zs)->cv i j=G.H id [(i,j)])
theorem ll.get{kA kx:Wk}{W:St}(h:ll kA kx W){r:bE}(hr:W.look r=none):kA.get r=kx.get r:=by
 unfold Wk.get
 rw[h.2,hr,h.1]
 simp
theorem fB.rows{G1:Gh}{id:Nat}{ys:List (List T)}(h:fB G1 w id true [] (.l ys)):∀i j zs,d_ ys i j=some (.l zs)->fB G1 w id true [(i,j)] (.l zs):=by
 intro i j zs bI
 have:=fB.dE [(i,j)] h (by simp[iU,bI]) ⟨zs,rfl⟩
 simpa using this
theorem TB{G1:Gh}{id:Nat}{dp:Bool}{ys:List (List T)}{v:Value}(h:fB G1 w id dp [] (.l ys))(hv:v=G1.H id []){sz:Nat}(iw:0<sz)(cV:okW sz ys=true){tx e':TypeId}(ht:P.underlying tx=some (.slice e')):
  ∃cv:Nat->Nat->Value,Src P sz tx v ys.length (sd cv sz ys.length) w∧(∀r∈ys,r.length=sz)∧(∀i j v,d_ ys i j=some (.c v)->cv i j=v∧kW v=true)∧
   (dp=true->∀i j zs,d_ ys i j=some (.l zs)->cv i j=G1.H id [(i,j)])∧(dp=false->∀i j t,d_ ys i j=some t->fm G1.q w t (cv i j)):=by
 have ez:=h.den
 rw[<-hv]at ez
 obtain⟨cv,h1,h2,h3,h4⟩:=zk (P:=P) ez iw cV ht
 refine⟨cv,h1,h2,λi j u bI=>?_,λhd i j zs bI=>?_,λhd i j t bI=>?_⟩
 ·exact(h3 i j _ bI).scalar
 ·cases h with
  |nil=>simp[d_]at bI
  | @l _ _ _ b wd cap b9 elem sT g1 g2 g3 g4 g5 g6 g7 g8 g9 zb FN=>
   have hc:=h4 b 0 _ _ (by rw[hv];exact g1) i j _ bI
   have rq:wd=sz:=by
    obtain⟨r,_,hm,_⟩:=xL bI
    rw[<-g6 r hm,h2 r hm]
   subst rq
   rw[yY g4,Nat.zero_add,g7 i j _ bI]at hc
   rw[<-Option.some.inj hc]
   simpa using zb i j zs bI hd
 ·cases h with
  |nil=>simp[d_]at bI
  | @l _ _ _ b wd cap b9 elem sT g1 g2 g3 g4 g5 g6 g7 g8 g9 zb FN=>
   have hc:=h4 b 0 _ _ (by rw[hv];exact g1) i j _ bI
   have rq:wd=sz:=by
    obtain⟨r,_,hm,_⟩:=xL bI
    rw[<-g6 r hm,h2 r hm]
   subst rq
   rw[yY g4,Nat.zero_add,g7 i j _ bI]at hc
   rw[<-Option.some.inj hc]
   cases t with
   |c u=>obtain⟨e1,e2⟩:=g8 i j u bI;rw[e1];exact .c e2
   |l zs=>exact g9 i j zs bI hd
theorem ll.same{kA kx kB:Wk}{W:St}(h:ll kA kx W)(hs:kA.fq kB):ll kB kx W:=⟨hs.r.trans h.1,λr=>by rw[hs.w];exact h.2 r⟩
theorem ah9{kA kB:Wk}{Y:SV}{lb:Lf}{sl fz EF:Bool}(h:A6 sl fz kA Y=some (kB,lb,EF))(hd:kB.bJ S ρ):kA.bJ S ρ:=by
 unfold A6 at h
 split at h
 ·simp only[bG,Prod.mk.injEq]at h;rw[h.1];exact hd
 ·simp only[bG,Prod.mk.injEq]at h;rw[h.1];exact hd
 ·cases se:sl with
  |false=>
   simp only[se,cond_false,cN,bG,Prod.mk.injEq]at h
   obtain⟨⟨k2,x2⟩,hv,rfl,_⟩:=h
   exact Wk.mg hv hd
  |true=>
   simp only[se,cond_true]at h
   split at h
   ·rename_i dp x hx
    cases hc:(dp&& !fz)with
    |true=>simp only[hc,cond_true,bG,Prod.mk.injEq]at h;rw[<-h.1]at hd;exact hd
    |false=>simp only[hc,cond_false,bG,Prod.mk.injEq]at h;rw[<-h.1]at hd;exact hd
   ·simp only[bG,Prod.mk.injEq]at h;rw[h.1];exact hd
   ·cases tX:fz with
    |true=>simp[tX]at h
    |false=>simp only[tX,cond_false,bG,Prod.mk.injEq]at h;rw[<-h.1]at hd;exact hd
   ·cases h
 ·cases h
theorem ah_{kA kB kx:Wk}{G1:Gh}{WA:St}{Y:SV}{vb:Value}{lb:Lf}{sl fz EF k_:Bool}(hk:dD M B d up ρ G a w kx G1)(ho:ll kA kx WA)(uM:∀r u,WA.look r=some u->u=.un)
  (hr:cK G1 w ρ Y vb)(hm:∀i∈dA Y,M i)(h:A6 sl fz kA Y=some (kB,lb,EF))(hd:kB.bJ S ρ)(gR:k_=true->EF=true):
  kA.bJ S ρ∧kB.ct.i=kA.ct.i∧∃ky G3 WB t mQ,dD M B d up ρ G a w ky G3∧ll kB ky (WB++WA)∧((WB=[]∧mQ=none)∨∃i,mQ=some i∧WB=[(.o i,.un)]∧WA.look (.o i)=none∧M i)∧
   lb.fW ρ=some t∧G3.H=G1.H∧dF (λl=>∃i p,l=.o i p∧WA.look (.o i)=none) (λ_=>False) G1 w G3 w∧(∀i p,∀b,G3.ω b=some (.o i p)->G1.ω b=some (.o i p))∧
   ∀ys sz tx e',t=.l ys->0<sz->okW sz ys=true->(sl=false->ys.all (·.all eQ)=true)->P.underlying tx=some (.slice e')->
    ∃cv,Src P sz tx vb ys.length (sd cv sz ys.length) w∧(∀r∈ys,r.length=sz)∧F0 G3 w k_ mQ ys cv:=by
 have stay:dF (λl=>∃i p,l=.o i p∧WA.look (.o i)=none) (λ_=>False) G1 w G1 w:=(dF.refl G1 w).mono (λ_ hf=>hf.elim) λ_ hf=>hf
 have uN:∀ys:List (List T),ys.all (·.all eQ)=true->∀i j t,d_ ys i j=some t->eQ t=true:=by
  intro ys hs i j t bI
  obtain⟨r,_,iX,JG,_⟩:=xL bI
  exact List.all_eq_true.1 (List.all_eq_true.1 hs r iX) t (List.mem_of_getElem? JG)
 unfold A6 at h
 split at h
 ·
  simp only[bG,Prod.mk.injEq]at h
  obtain⟨rfl,rfl,rfl⟩:=h
  obtain⟨e,he,ru,_⟩:=hr
  cases he
  refine⟨hd,rfl,kx,G1,[],.l [],none,hk,ho,.inl ⟨rfl,rfl⟩,rfl,rfl,stay,λ_ _ _ h=>h,λys sz tx e' ht iw cV _ sX=>?_⟩
  cases ht
  rw[show vb=_ from ru]
  obtain⟨cv,h1,h2,_,_⟩:=zk (P:=P) (.nil:fm G1.q w (.l []) (.slice none 0 0)) iw cV sX
  exact⟨cv,h1,h2,.inr (.inl λi j t bI=>by simp[d_]at bI)⟩
 ·
  simp only[bG,Prod.mk.injEq]at h
  obtain⟨rfl,rfl,rfl⟩:=h
  obtain⟨e,he,ru,_⟩:=hr
  cases he
  obtain⟨t,ht,ez⟩:=ru
  refine⟨hd,rfl,kx,G1,[],t,none,hk,ho,.inl ⟨rfl,rfl⟩,ht,rfl,stay,λ_ _ _ h=>h,λys sz tx e' ht iw cV mF sX=>?_⟩
  subst ht
  obtain⟨cv,h1,h2,h3,_⟩:=zk (P:=P) ez iw cV sX
  refine⟨cv,h1,h2,?_⟩
  cases hb:k_ with
  |false=>exact .inl ⟨rfl,h3⟩
  |true=>
   have:=gR hb
   have se:sl=false:=by simpa using this
   exact .inr (.inl λi j t bI=>⟨uN ys (mF se) i j t bI,(h3 i j t bI).er⟩)
 ·
  rename_i id q
  obtain⟨e,he,ru,_⟩:=hr
  cases he
  have hMi:M id:=hm id (by simp[dA,dV])
  cases se:sl with
  |false=>
   simp only[se,cond_false,cN,bG,Prod.mk.injEq]at h
   obtain⟨⟨k2,x2⟩,hv,rfl,rfl,rfl⟩:=h
   have dj:WA.look (.o id)=none:=by
    cases hl:WA.look (.o id)with
    |none=>rfl
    |some u=>
     exfalso
     have hu:=uM _ _ hl
     subst hu
     have:kA.get (.o id)=.un:=by unfold Wk.get;rw[ho.2,hl];simp
     simp[Wk.val,this]at hv
   obtain⟨t,ht,ez⟩:=Wk.lG hv hd ru λi hi=>by
    simp[dV]at hi
    subst hi
    rw[ho.get dj]
    exact hk.obj i
   refine⟨Wk.mg hv hd,(Wk.eh hv).i,kx,G1,[],t,none,hk,ho.same (Wk.eh hv),.inl ⟨rfl,rfl⟩,ht,rfl,stay,λ_ _ _ h=>h,λys sz tx e' ht iw cV mF sX=>?_⟩
   subst ht
   obtain⟨cv,h1,h2,h3,_⟩:=zk (P:=P) ez iw cV sX
   exact⟨cv,h1,h2,.inr (.inl λi j t bI=>⟨uN ys (mF rfl) i j t bI,h3 i j t bI⟩)⟩
  |true=>
   simp only[se,cond_true]at h
   have dj:kA.get (.o id)≠.un->WA.look (.o id)=none:=by
    intro dH
    cases hl:WA.look (.o id)with
    |none=>rfl
    |some u=>
     exfalso
     have hu:=uM _ _ hl
     subst hu
     exact dH (by unfold Wk.get;rw[ho.2,hl];simp)
   obtain⟨p,hp,TC⟩:=ru
   split at h
   ·rename_i dp x hx
    have hn:=dj (by rw[hx];simp)
    simp only[mD,bG]at hp
    subst hp
    have TD:kx.get (.o id)=.ob dp x:=by rw[<-ho.get hn];exact hx
    have uO:k_=false->∃ky G3,ky=kx.set (.o id) (.ob false x)∧dD M B d up ρ G a w ky G3∧G3.H=G1.H∧dF (λl=>∃i p,l=.o i p∧WA.look (.o i)=none) (λ_=>False) G1 w G3 w∧(∀i p,∀b,G3.ω b=some (.o i p)->G1.ω b=some (.o i p))∧
      ∃t,x.fW ρ=some t∧∀ys sz tx e',t=.l ys->0<sz->okW sz ys=true->P.underlying tx=some (.slice e')->∃cv,Src P sz tx vb ys.length (sd cv sz ys.length) w∧(∀r∈ys,r.length=sz)∧∀mQ,F0 G3 w k_ mQ ys cv:=by
     intro aia
     have hG:dD M B d up ρ G a w (kx.set (.o id) (.ob false x)) (G1.free id false):=by
      have hx3:=TD
      rw[Wk.a_]at hx3
      refine⟨(hk.rel.flat hx3).congr (JC _ _ _ _),(hk.bm.mono (λl hl=>JB hl) λ_ hn=>hn).trans ((G1.fM id false w).mono ?_ λ_ hn=>hn)⟩
      rintro l ⟨p,rfl⟩
      show(kx.w.set _ _).look (.o id)≠none
      rw[St.bz];simp
     refine⟨_,G1.free id false,rfl,hG,rfl,(G1.fM id false w).mono (λl ⟨p,hp⟩=>⟨id,p,hp,hn⟩) (λ_ hf=>hf),λi p b hb=>?_,?_⟩
     ·simp only[Gh.free]at hb
      split at hb
      ·split at hb
       ·cases hb
       ·rename_i hw _;rw[hw];exact hb
      ·exact hb
     ·have eH:=hG.obj id
      rw[Wk.ci]at eH
      obtain⟨t,ht,bU⟩:=eH
      refine⟨t,ht,λys sz tx e' qw iw cV sX=>?_⟩
      subst qw
      obtain⟨cv,h1,h2,_,_,h5⟩:=TB (P:=P) bU TC iw cV sX
      exact⟨cv,h1,h2,λ_=>.inl ⟨aia,h5 rfl⟩⟩
    cases hc:(dp&& !fz)with
    |true=>
     simp only[hc,cond_true,bG,Prod.mk.injEq]at h
     obtain⟨rfl,rfl,rfl⟩:=h
     simp only[bD]at hc
     cases Rw:k_ with
     |false=>
      obtain⟨ky,G3,rfl,w3,e3,kp,e4,t,ht,oC⟩:=uO Rw
      refine⟨hd,rfl,_,G3,[(.o id,.un)],t,some id,w3,⟨ho.1,λr=>?_⟩,.inr ⟨id,rfl,rfl,hn,hMi⟩,ht,e3,kp,e4,λys sz tx e' qw iw cV _ sX=>?_⟩
      ·rw[show(kA.set (.o id) .un).w.look r=_ from vT r,mG,vS,ho.2]
       by_cases sS:bE.o id=r
       ·subst sS;simp
       ·simp only[sS,if_false,Option.none_or]
        rw[show(kx.set (.o id) (.ob false x)).w.look r=_ from St.cF _ _ sS]
      ·obtain⟨cv,h1,h2,h3⟩:=oC ys sz tx e' qw iw cV sX
       rw[<-Rw]
       exact⟨cv,h1,h2,h3 _⟩
     |true=>
      have eH:=hk.obj id
      rw[TD,hc.1]at eH
      obtain⟨t,ht,bU⟩:=eH
      refine⟨hd,rfl,kx,G1,[(.o id,.un)],t,some id,hk,⟨ho.1,λr=>?_⟩,.inr ⟨id,rfl,rfl,hn,hMi⟩,ht,rfl,stay,λ_ _ _ h=>h,λys sz tx e' qw iw cV _ sX=>?_⟩
      ·rw[show(kA.set (.o id) .un).w.look r=_ from vT r,mG,ho.2,Option.or_assoc]
      ·subst qw
       obtain⟨cv,h1,h2,h3,h4,_⟩:=TB (P:=P) bU TC iw cV sX
       exact⟨cv,h1,h2,.inr (.inr ⟨id,rfl,rfl,bU.rows,h3,h4 rfl⟩)⟩
    |false=>
     simp only[hc,cond_false,bG,Prod.mk.injEq]at h
     obtain⟨rfl,rfl,rfl⟩:=h
     have Rw:k_=false:=by cases k_ with|false=>rfl|true=>exact absurd (gR rfl) (by simp)
     obtain⟨ky,G3,rfl,w3,e3,kp,e4,t,ht,oC⟩:=uO Rw
     refine⟨hd,rfl,_,G3,[],t,none,w3,⟨ho.1,λr=>?_⟩,.inl ⟨rfl,rfl⟩,ht,e3,kp,e4,λys sz tx e' qw iw cV _ sX=>?_⟩
     ·by_cases sS:bE.o id=r
      ·subst sS
       rw[show(kA.set (.o id) (.ob false x)).w.look (.o id)=_ from St.bz _ _ _,List.nil_append,hn]
       simp only[Option.none_or]
       exact(St.bz _ _ _).symm
      ·rw[show(kA.set (.o id) (.ob false x)).w.look r=_ from St.cF _ _ sS,ho.2,List.nil_append,show(kx.set (.o id) (.ob false x)).w.look r=_ from St.cF _ _ sS]
     ·obtain⟨cv,h1,h2,h3⟩:=oC ys sz tx e' qw iw cV sX
      exact⟨cv,h1,h2,h3 _⟩
   ·rename_i x hx
    have hn:=dj (by rw[hx];simp)
    simp only[mD,bG]at hp
    subst hp
    simp only[bG,Prod.mk.injEq]at h
    obtain⟨rfl,rfl,rfl⟩:=h
    have Rw:k_=false:=by cases k_ with|false=>rfl|true=>exact absurd (gR rfl) (by simp)
    have eH:=hk.obj id
    rw[<-ho.get hn,hx]at eH
    obtain⟨t,ht,ez,_⟩:=eH
    refine⟨hd,rfl,kx,G1,[],t,none,hk,ho,.inl ⟨rfl,rfl⟩,ht,rfl,stay,λ_ _ _ h=>h,λys sz tx e' qw iw cV _ sX=>?_⟩
    subst qw
    rw[<-TC]at ez
    obtain⟨cv,h1,h2,h3,_⟩:=zk (P:=P) ez iw cV sX
    exact⟨cv,h1,h2,.inl ⟨Rw,h3⟩⟩
   ·rename_i x hx
    have hn:=dj (by rw[hx];simp)
    simp only[mD,bG]at hp
    subst hp
    cases tX:fz with
    |true=>simp[tX]at h
    |false=>
     simp only[tX,cond_false,bG,Prod.mk.injEq]at h
     obtain⟨rfl,rfl,rfl⟩:=h
     have eH:=hk.obj id
     rw[<-ho.get hn,hx]at eH
     obtain⟨h40,ys,ht,ez,uG,bU⟩:=eH
     refine⟨hd,rfl,kx,G1,[(.o id,.un)],_,some id,hk,⟨ho.1,λr=>?_⟩,.inr ⟨id,rfl,rfl,hn,hMi⟩,ht,rfl,stay,λ_ _ _ h=>h,λys' sz tx e' qw iw cV _ sX=>?_⟩
     ·rw[show(kA.set (.o id) .un).w.look r=_ from vT r,mG,ho.2,Option.or_assoc]
     ·cases qw
      have nK:=ez
      rw[<-TC]at nK
      obtain⟨cv,h1,h2,h3,h4⟩:=zk (P:=P) nK iw cV sX
      refine⟨cv,h1,h2,?_⟩
      cases hb:k_ with
      |false=>exact .inl ⟨rfl,h3⟩
      |true=>
       refine .inr (.inr ⟨id,rfl,rfl,bU,λi j v bI=>(h3 i j _ bI).scalar,λi j zs bI=>?_⟩)
       obtain⟨ad,cap,tV,_⟩:=nK.rows
       cases ad with
       |none=>
        rw[tV]at nK
        generalize tT:Value.slice none ys.length cap=vv at nK
        cases nK with
        |nil=>simp[d_]at bI
        |l=>cases tT
       |some ad=>
        obtain⟨b,off,r0⟩:=ad
        rw[tV]at nK
        generalize tT:Value.slice (some ⟨b,off,r0⟩) ys.length cap=vv at nK
        cases nK with
        |nil=>simp[d_]at bI
        | @l _ b2 aAB wd Lh cv2 g1 g2 g3 g4 g5 g6=>
         cases tT
         obtain⟨EC,w1,w2⟩:=uG b off _ _ (by rw[<-TC];exact tV)
         have e1:=h4 b off _ _ tV i j _ bI
         have e2:=w2 i j zs bI
         obtain⟨row,_,iX,_⟩:=xL bI
         rw[<-w1 row iX,h2 row iX,e1]at e2
         simpa using e2
   ·cases h
 ·cases h
theorem aib{sc:Bool}{sz:Nat}{xs:List (List T)}{t r:T}(h:Prim.ev (.app sc sz) [.l xs,t]=some r):
  ∃ys,t=.l ys∧xs.length+ys.length<r8∧(sc=true->ys.all (·.all eQ)=true)∧okW sz xs=true∧okW sz ys=true∧r=.l (xs++ys):=by
 cases t with
 |c v=>simp[Prim.ev]at h
 |l ys=>
  simp only[Prim.ev]at h
  split at h
  ·rename_i h1
   split at h
   ·rename_i h2
    split at h
    ·rename_i h3
     split at h
     ·rename_i h4
      simp only[bG]at h
      exact⟨ys,rfl,h1,λhs=>by subst hs;simpa using h2,h3,h4,h.symm⟩
     ·cases h
    ·cases h
   ·cases h
  ·cases h
theorem aic{G1:Gh}{id:Nat}{dp:Bool}{xs:List (List T)}{v:Value}(h:fB G1 w id dp [] (.l xs))(hv:v=G1.H id []){sz:Nat}(cV:okW sz xs=true):
  ∃(cv:Nat->Nat->Value) (b0:Option Nat),Ls w sz v xs.length b0 cv∧(∀b,b0=some b->G1.ω b=some (.o id []))∧qE G1 w id dp sz 0 xs cv:=by
 cases h with
 |nil hH=>
  refine⟨λ_ _=>undef,none,.inl ⟨by rw[hv,hH],rfl,rfl⟩,λb hb=>(by cases hb),⟨λr hr=>(by cases hr),?_,?_,?_,?_⟩⟩<;>intro i j t bI<;>simp[d_]at bI
 | @l _ _ _ b wd cap b9 elem cv g1 g2 g3 g4 g5 g6 g7 g8 g9 zb FN=>
  by_cases hx:xs=[]
  ·subst hx
   have pX:=g2.2 rfl
   subst pX
   refine⟨cv,some b,.inr ⟨b,0,b9,elem,by rw[hv,g1],rfl,g4,by rw[g5];simp,Nat.le_refl _,λ_=>rfl,λi j hi _=>by simp at hi⟩,λc hc=>by cases hc;exact g3,⟨λr hr=>(by cases hr),?_,?_,?_,?_⟩⟩<;>intro i j t bI<;>simp[d_]at bI
  ·have rq:wd=sz:=by
    cases xs with
    |nil=>exact absurd rfl hx
    |cons r xs=>rw[<-g6 r (by simp)];exact ef cV
   subst rq
   refine⟨cv,some b,.inr ⟨b,cap,b9,elem,by rw[hv,g1],rfl,g4,g5,g2.1,λh0=>g2.2 (List.eq_nil_of_length_eq_zero h0),λi j hi hj=>?_⟩,λc hc=>by cases hc;exact g3,⟨g6,g8,g9,?_,?_⟩⟩
   ·obtain⟨t,bI⟩:=Lr g6 hi hj
    exact g7 i j t bI
   ·intro i j ys bI hd
    simpa using zb i j ys bI hd
   ·intro i j ys bI hd
    simpa using FN i j ys bI hd
end
def tY(ja jb:Option Nat)(i n:Nat):Lb->Option Lb
 | .f=>some .f
 | .x b=>some (.x b)
 | .o j p=>
  if ja=some j then(match p with| []=>some (.o j [])|x::p=>some (.o i (x::p)))
  else if jb=some j then(match p with| []=>some (.o j [])|(r,c)::p=>some (.o i ((n+r,c)::p)))
  else some (.o j p)
theorem TE(i:Nat):fw i%2=0:=by unfold fw;omega
theorem Lt{ja jb:Option Nat}{i n:Nat}(hi:i%2=0)(l l':Lb)(hq:qt l=true)(h:tY ja jb i n l=some l'):qt l'=true:=by
 cases l with
 |o j p=>
  cases p with
  |nil=>
   simp only[tY]at h
   split at h
   ·cases h;exact hq
   ·split at h
    ·cases h;exact hq
    ·cases h;exact hq
  |cons x p=>
   obtain⟨r,c⟩:=x
   simp only[tY]at h
   split at h
   ·cases h;exact wN hi (by simp)
   ·split at h
    ·cases h;exact wN hi (by simp)
    ·cases h;exact hq
 |_=>simp[qt]at hq
def sY(G:Gh)(ja jb:Option Nat)(n:Nat)(v:Value):List (Nat×Nat)->Value
 | []=>v
 |(r,c)::p=>if r<n then(match ja with|some j=>G.H j ((r,c)::p)|none=>.slice none 0 0)else(match jb with|some j=>G.H j ((r-n,c)::p)|none=>.slice none 0 0)
theorem Lu{G:Gh}{ja jb:Option Nat}{n:Nat}{v:Value}(hv:∃a m c,v=.slice a m c)(p:List (Nat×Nat)):∃a m c,sY G ja jb n v p=.slice a m c:=by
 cases p with
 |nil=>exact hv
 |cons x p=>
  obtain⟨r,k⟩:=x
  by_cases hr:r<n
  ·simp only[sY,if_pos hr]
   cases ja with
   |none=>exact⟨_,_,_,rfl⟩
   |some j=>exact G.hs j _
  ·simp only[sY,if_neg hr]
   cases jb with
   |none=>exact⟨_,_,_,rfl⟩
   |some j=>exact G.hs j _
section
variable {M:Nat->Prop} {B:e_} {d:Nat} {up:Nat->Nat->Value} {ρ:List T} {G:Gh} {a:Act} {w:World} {S:Nat->af} {P:Program}
variable {cx:Cx} {cJ fA oi:Nat} {s:St} {R:List bE} {ct:Ct} {k':Wk} {o:Oper} {Q:Exit->Act->World->Prop}
theorem aid{G3:Gh}{w':World}{lD i n:Nat}{k_:Bool}{sz:Nat}{xs:List (List T)}{cv:Nat->Nat->Value}(h:qE G3 w lD k_ sz 0 xs cv)(hn:xs.length<=n)
  {nb:Option Nat}{jb:Option Nat}{v:Value}{nH:∀p,∃a m c,sY G3 (some lD) jb n v p=.slice a m c}(wT:∀c,nb=some c->c=w.heap.size∨G3.ω c=some (.o lD []))(Rx:lD%4≠2)
  (hi:i%2=0)(mP:∀b l,G3.ω b=some l->b<w.heap.size)(iw:w.heap.size<=w'.heap.size)(hh:∀c,c<w.heap.size->nb≠some c->w'.heap[c]?=w.heap[c]?):
  qE (G3.dP nb i (tY (some lD) jb i n) (sY G3 (some lD) jb n v) nH) w' i k_ sz 0 xs cv:=by
 have qz:∀b,b<w.heap.size->G3.q b=none->(G3.dP nb i (tY (some lD) jb i n) (sY G3 (some lD) jb n v) nH).q b=none∧w'.heap[b]?=w.heap[b]?:=by
  intro b hb h0
  have dH:nb≠some b:=by
   intro e
   rcases wT b e with rfl|h1
   ·omega
   ·exact wK h1 (sJ Rx) h0
  exact⟨FY (Lt hi) dH h0,hh b hb dH⟩
 refine⟨h.wd,h.sc,λr c ys bI hd=>(h.pl r c ys bI hd).bm iw qz,λr c ys bI hd=>?_,λr c ys bI hd=>?_⟩
 ·have bf:r<n:=by obtain⟨_,_,_,_,q1,_⟩:=xL bI;omega
  have:=h.hd r c ys bI hd
  simp only[Nat.zero_add]at this⊢
  rw[this]
  simp[Gh.dP,sY,bf]
 ·have bf:r<n:=by obtain⟨_,_,_,_,q1,_⟩:=xL bI;omega
  have:=h.ow r c ys bI hd
  simp only[Nat.zero_add]at this⊢
  refine this.move rfl (λe q he=>?_) λq=>by simp[Gh.dP,sY,bf]
  have nJ:=mP e _ he
  have dH:nb≠some e:=by
   intro e'
   rcases wT e e' with rfl|h1
   ·omega
   ·rw[he]at h1;simp at h1
  refine⟨?_,hh e nJ dH⟩
  simp only[Gh.dP,dH,if_false,he,Option.bind_some,tY,if_true]
  rfl
theorem aie{G3:Gh}{w':World}{i n:Nat}{ja:Option Nat}{k_:Bool}{sz:Nat}{ys:List (List T)}{cv:Nat->Nat->Value}{mQ:Option Nat}(h:F0 G3 w k_ mQ ys cv)(gR:∀id,mQ=some id->ja≠some id)
  (hw:∀r∈ys,r.length=sz){nb:Option Nat}{v:Value}{nH:∀p,∃a m c,sY G3 ja mQ n v p=.slice a m c}
  (wT:∀c,nb=some c->c=w.heap.size∨∃j,ja=some j∧G3.ω c=some (.o j [])∧j%4≠2)
  (hi:i%2=0)(mP:∀b l,G3.ω b=some l->b<w.heap.size)(iw:w.heap.size<=w'.heap.size)(hh:∀c,c<w.heap.size->nb≠some c->w'.heap[c]?=w.heap[c]?):
  qE (G3.dP nb i (tY ja mQ i n) (sY G3 ja mQ n v) nH) w' i k_ sz n ys cv:=by
 have qz:∀b,b<w.heap.size->G3.q b=none->(G3.dP nb i (tY ja mQ i n) (sY G3 ja mQ n v) nH).q b=none∧w'.heap[b]?=w.heap[b]?:=by
  intro b hb h0
  have dH:nb≠some b:=by
   intro e
   rcases wT b e with rfl|⟨j,_,h1,ze⟩
   ·omega
   ·exact wK h1 (sJ ze) h0
  exact⟨FY (Lt hi) dH h0,hh b hb dH⟩
 have plain:k_=false->(∀i j t,d_ ys i j=some t->fm G3.q w t (cv i j))->qE (G3.dP nb i (tY ja mQ i n) (sY G3 ja mQ n v) nH) w' i k_ sz n ys cv:=by
  intro hf ez
  exact⟨hw,λr c u bI=>(ez r c _ bI).scalar,λr c zs bI _=>(ez r c _ bI).bm iw qz,λr c zs _ hd=>(by rw[hf]at hd;cases hd),λr c zs _ hd=>(by rw[hf]at hd;cases hd)⟩
 rcases h with⟨hf,ez⟩|mF|⟨id,mE,gG,bU,hs,hl⟩
 ·exact plain hf ez
 ·refine⟨hw,λr c u bI=>(mF r c _ bI).2.scalar,λr c zs bI _=>?_,λr c zs bI _=>?_,λr c zs bI _=>?_⟩<;>have:=(mF r c _ bI).1<;>simp[eQ]at this
 ·subst gG
  refine⟨hw,hs,λr c zs bI hd=>?_,λr c zs bI hd=>?_,λr c zs bI hd=>?_⟩
  ·rw[mE]at hd;cases hd
  ·rw[hl r c zs bI]
   simp[Gh.dP,sY,show¬(n+r<n) by omega]
  ··have:=bU r c zs bI
    refine this.move rfl (λe q he=>?_) λq=>by simp[Gh.dP,sY,show¬(n+r<n) by omega]
    have nJ:=mP e _ he
    have dH:nb≠some e:=by
     intro e'
     rcases wT e e' with rfl|⟨j,hj,h1,_⟩
     ·omega
     ·rw[he]at h1;simp at h1
    have hja:ja≠some id:=gR id rfl
    refine⟨?_,hh e nJ dH⟩
    simp[Gh.dP,dH,he,tY,hja]
theorem aif{ja jb:Option Nat}{i n:Nat}{l l':Lb}(h:tY ja jb i n l=some l'):l'.id=l.id∨l'.id=i:=by
 cases l with
 |f=>simp only[tY,bG]at h;subst h;exact .inl rfl
 |x b=>simp only[tY,bG]at h;subst h;exact .inl rfl
 |o j p=>
  simp only[tY]at h
  split at h
  ·cases p with
   |nil=>simp only[bG]at h;subst h;exact .inl rfl
   |cons x p=>simp only[bG]at h;subst h;exact .inr rfl
  ·split at h
   ·cases p with
    |nil=>simp only[bG]at h;subst h;exact .inl rfl
    |cons x p=>simp only[bG]at h;subst h;exact .inr rfl
   ·simp only[bG]at h;subst h;exact .inl rfl
theorem aih{ti tj te:TI}{t tx:Nat}(ek:eL P cx)(f_:cx.ty t=some ti)(htj:cx.ty tx=some tj)(qs:cx.ty ti.el=some te)(jz:ti.kd=3)(hj3:tj.kd=3)(hby:te.bytes<=32768)(iw:0<te.sz)
  (h:Rel M B d up s ρ G a w)(hn:∀n,o.dst=some n->n<a.tmps.size){c:Call}{x y:Operand}(ho:o.op=.call c)(hc:c.callee=.builtin .append)(fD:c.args.toList=[x,y])(bI:c.argTypes.toList=[t,tx])
  {k5 ky kw:Wk}{G3:Gh}{WA WB:St}{lD mQ:Option Nat}{xs ys:List (List T)}{k_:Bool}{r:Lf}(w3:dD M B d up ρ G a w ky G3)(azt:ll k5 ky (WB++WA))(jy:k5.ct.i%2=0)(hM:¬M k5.ct.i)
  (uM:(lD=none∧WA=[]∧a.eval x=.slice none 0 0∧xs=[])∨∃i,lD=some i∧WA=[(.o i,.un)]∧M i∧i%4≠2∧a.eval x=G3.H i []∧fB G3 w i k_ [] (.l xs))
  (TF:(WB=[]∧mQ=none)∨∃i,mQ=some i∧WB=[(.o i,.un)]∧WA.look (.o i)=none∧M i)
  (aij:okW te.sz xs=true)(bf:xs.length+ys.length<r8){cv:Nat->Nat->Value}{e':TypeId}(oC:Src P te.sz tx (a.eval y) ys.length (sd cv te.sz ys.length) w)(hwy:∀r∈ys,r.length=te.sz)
  (mI:F0 G3 w k_ mQ ys cv)(hr:r.fW ρ=some (.l (xs++ys)))(Tv:∀r',kw.w.look r'=(St.look ((.o k5.ct.i,.ob k_ r)::(WB++WA)) r').or (ky.w.look r')):
  bV P (Mn M k5.ct.i (k5.ct.i+1)) B d up ρ a w s o (ca d o kw (.v false [.o k5.ct.i []])).w Q:=by
 have hT:=ek.ty _ _ f_
 have hE:=ek.ty _ _ qs
 obtain⟨i,z,vV,nw,hi3,JJ,y7⟩:=hE.info
 have hu:=hT.sl jz
 have BB:z.cells.size=te.sz:=by
  have:=(K7 (G:=G) (w:=w) (ρ:=ρ) y7).1.length
  rw[hE.FI]at this
  simpa using this.symm
 have mP:∀b l,G3.ω b=some l->b<w.heap.size:=λb l hb=>(w3.rel.iG b l hb).2
 obtain⟨Ry,b0,uL,JM,jF⟩:∃(Ry:Nat->Nat->Value) (b0:Option Nat),Ls w te.sz (a.eval x) xs.length b0 Ry∧(∀b,b0=some b->∃j,lD=some j∧G3.ω b=some (.o j [])∧j%4≠2)∧
   (xs=[]∨∃j,lD=some j∧qE G3 w j k_ te.sz 0 xs Ry):=by
  rcases uM with⟨rfl,_,hv,rfl⟩|⟨j,rfl,_,_,ze,hv,bU⟩
  ·exact⟨λ_ _=>undef,none,.inl ⟨hv,rfl,rfl⟩,λb hb=>(by cases hb),.inl rfl⟩
  ·obtain⟨Ry,b0,h1,h2,h3⟩:=aic bU hv aij
   exact⟨Ry,b0,h1,λb hb=>⟨j,rfl,h2 b hb,ze⟩,.inr ⟨j,rfl,h3⟩⟩
 obtain⟨v',w',nb,eR,qF⟩:=ah5 (P:=P) (w:=w) (ty:=o.type) hu vV JJ nw BB iw (by rw[hi3];exact hby) uL oC bf
 have iN:(execOp a.eval o).run P w=.ok (.value v') w':=by
  refine S3 ho hc ?_
  have hA:c.args=#[x,y]:=Array.ext' fD
  have hB:c.argTypes=#[t,tx]:=Array.ext' bI
  rw[hA,hB]
  show Sem.run P (do let v <-Builtin.append_ #[t,tx] o.type (#[x,y].map a.eval);pure (Next.value v)) w=_
  rw[Sem.run_bind]
  simp only[List.map_toArray,List.map_cons,List.map_nil]
  rw[eR];rfl
 have hv':∃a m c,v'=.slice a m c:=by
  rcases qF.row with⟨_,rfl,_⟩|⟨b,cap,_,_,_,rfl,_⟩<;>exact⟨_,_,_,rfl⟩
 have wT:∀c,nb=some c->c=w.heap.size∨∃j,lD=some j∧G3.ω c=some (.o j [])∧j%4≠2:=by
  intro c hc
  rcases(qF.at_ c hc).1 with h1|h1
  ·exact .inl h1
  ·exact .inr (JM c h1)
 have ail:∀j,mQ=some j->lD≠some j:=by
  intro j hj he
  rcases TF with⟨_,h1⟩|⟨j',h1,_,h2,_⟩
  ·rw[hj]at h1;cases h1
  ·rw[hj]at h1
   cases h1
   rcases uM with⟨h3,_⟩|⟨j'',h3,h4,_⟩
   ·rw[he]at h3;cases h3
   ·rw[he]at h3
    cases h3
    rw[h4,vS]at h2
    simp at h2
 have F1:∀r u,(WB++WA).look r=some u->∃j,r=.o j∧u=.un∧M j:=by
  intro r u BG
  rw[mG]at BG
  rcases TF with⟨rfl,_⟩|⟨j,_,rfl,_,hm⟩
  ·simp only[St.look,Option.none_or]at BG
   rcases uM with⟨_,rfl,_⟩|⟨j',_,rfl,qp,_⟩
   ·cases BG
   ·rcases j8 BG with⟨e1,e2⟩|hl
    ·exact⟨j',e1,e2,qp⟩
    ·cases hl
  ·cases hl:St.look [(bE.o j,SV.un)] r with
   |some u'=>
    rw[hl]at BG
    simp only[Option.some_or,bG]at BG
    subst BG
    rcases j8 hl with⟨e1,e2⟩|hl
    ·exact⟨j,e1,e2,hm⟩
    ·cases hl
   |none=>
    rw[hl]at BG
    simp only[Option.none_or]at BG
    rcases uM with⟨_,rfl,_⟩|⟨j',_,rfl,qp,_⟩
    ·cases BG
    ·rcases j8 BG with⟨e1,e2⟩|hl
     ·exact⟨j',e1,e2,qp⟩
     ·cases hl
 have BH:∀j,lD=some j->(WB++WA).look (.o j)≠none:=by
  intro j hj
  rcases uM with⟨h1,_⟩|⟨j',h1,rfl,_⟩
  ·rw[hj]at h1;cases h1
  ·rw[hj]at h1
   cases h1
   rw[mG,vS]
   intro e
   have:=(Option.or_eq_none_iff.1 e).2
   simp at this
 have Lv:∀j,mQ=some j->(WB++WA).look (.o j)≠none:=by
  intro j hj
  rcases TF with⟨_,h1⟩|⟨j',h1,rfl,_⟩
  ·rw[hj]at h1;cases h1
  ·rw[hj]at h1
   cases h1
   rw[mG,vS]
   intro e
   have:=(Option.or_eq_none_iff.1 e).1
   simp at this
 let kk:Wk:={ky with ct:=k5.ct}
 have wk:dD M B d up ρ G a w kk G3:=⟨w3.rel,w3.bm⟩
 refine FZ (k:=kk) (nb:=nb) (f:=tY lD mQ k5.ct.i xs.length) (Hn:=sY G3 lD mQ xs.length v') (nH:=Lu hv') (W1:=WB++WA) (y:=r) (t:=.l (xs++ys)) (v:=v') (w':=w') (dp:=k_)
  h wk hn hM Tv (λr u hu=>by obtain⟨j,e1,e2,e3⟩:=F1 r u hu;subst e2;exact⟨j,e1,trivial,e3,λi hi=>by simp[dA]at hi⟩) (λl hl=>?_) (λl l' ⟨b,hb⟩ he=>?_) (Lt jy) (λc hc=>?_) qF.size (λc hc=>(qF.at_ c hc).2) (λb hb dH=>qF.oth b hb dH) qF.so rfl hr ?_ iN
 ·cases l with
  |f=>rfl
  |x b=>rfl
  |o j p=>
   have:=hl j p rfl
   have h1:lD≠some j:=λe=>BH j e this
   have h2:mQ≠some j:=λe=>Lv j e this
   simp[tY,h1,h2]
 ·rcases aif he with h1|h1
  ·rw[h1];exact .inl (w3.rel.iG b _ hb).1
  ·exact .inr h1
 ·rcases wT c hc with h1|⟨j,h1,h2,h3⟩
  ·exact .inl h1
  ·exact .inr ⟨j,h2,BH j h1,h3⟩
 ·have pC:qE (G3.dP nb k5.ct.i (tY lD mQ k5.ct.i xs.length) (sY G3 lD mQ xs.length v') (Lu hv')) w' k5.ct.i k_ te.sz xs.length ys cv:=
   aie (w:=w) mI (λj hj=>ail j hj) hwy wT jy mP qF.size qF.oth
  have hca:qE (G3.dP nb k5.ct.i (tY lD mQ k5.ct.i xs.length) (sY G3 lD mQ xs.length v') (Lu hv')) w' k5.ct.i k_ te.sz 0 xs Ry:=by
   rcases jF with rfl|⟨j,rfl,y8⟩
   ·exact⟨λr hr=>(by cases hr),λ_ _ _ h=>(by simp[d_]at h),λ_ _ _ h=>(by simp[d_]at h),λ_ _ _ h=>(by simp[d_]at h),λ_ _ _ h=>(by simp[d_]at h)⟩
   ·have ze:j%4≠2:=by
     rcases uM with⟨h1,_⟩|⟨i',h1,_,_,h2,_⟩
     ·cases h1
     ·cases h1;exact h2
    refine aid (w:=w) y8 (Nat.le_refl _) (λc hc=>?_) ze jy mP qF.size qF.oth
    rcases wT c hc with h1|⟨j',h1,h2,_⟩
    ·exact .inl h1
    ·cases h1;exact .inr h2
  rcases qF.row with⟨rfl,hv0,Br,hm0⟩|⟨b,cap,b9,elem,rfl,hv0,TG,xW,hle,hz0,g1,g2⟩
  ·have e1:xs++ys=[]:=by rw[List.eq_nil_of_length_eq_zero Br,List.eq_nil_of_length_eq_zero hm0];rfl
   rw[e1]
   exact .nil (by simp[Gh.dP,sY,hv0,kk])
  ·refine hca.join pC (by simp only[Gh.dP,if_true,sY];exact hv0) ⟨hle,λhe=>hz0 (by have:=congrArg List.length he;simpa using this)⟩ (by simp[Gh.dP]) TG xW g1 g2
end
theorem TH{us:List (List T)}{n k:Nat}(h:n+k<=us.length):(Ar us n k).length=us.length:=by
 simp only[Ar,List.length_append,List.length_take,List.length_replicate,List.length_drop];omega
theorem TJ{us:List (List T)}{n k i:Nat}{r:List T}(h:n+k<=us.length)(hg:(Ar us n k)[i]?=some r)(hr:r≠[]):us[i]?=some r∧(i<n∨n+k<=i):=by
 unfold Ar at hg
 by_cases h1:i<n
 ·rw[List.append_assoc,List.getElem?_append_left (by rw[List.length_take];omega),List.getElem?_take,if_pos h1]at hg
  exact⟨hg,.inl h1⟩
 ·rw[List.append_assoc,List.getElem?_append_right (by rw[List.length_take];omega)]at hg
  have hl:(us.take n).length=n:=by rw[List.length_take];omega
  rw[hl]at hg
  by_cases h2:i<n+k
  ·rw[List.getElem?_append_left (by rw[List.length_replicate];omega),List.getElem?_replicate]at hg
   split at hg
   ·cases hg;exact absurd rfl hr
   ·cases hg
  ·rw[List.getElem?_append_right (by rw[List.length_replicate];omega),List.length_replicate,List.getElem?_drop]at hg
   rw[show n+k+(i-n-k)=i by omega]at hg
   exact⟨hg,.inr (by omega)⟩
theorem TK{us:List (List T)}{n k i:Nat}(h:n+k<=us.length)(hf:sD us n k=true)(hi:i<k):∃r,us[n+i]?=some r∧r≠[]:=by
 have bf:n+i<us.length:=by omega
 refine⟨us[n+i],List.getElem?_eq_getElem bf,λhe=>?_⟩
 have hm:us[n+i]∈(us.drop n).take k:=by
  refine List.mem_of_getElem? (i:=i) ?_
  rw[List.getElem?_take,if_pos hi,List.getElem?_drop]
  exact List.getElem?_eq_getElem bf
 have:=List.all_eq_true.1 hf _ hm
 rw[he]at this
 cases this
theorem aim{m lo y r:T}(h:Prim.ev .lj [m,lo,y]=some r):∃us kk n ys,m=.l us∧lo=.c (.int kk n)∧0<=n∧y=.l ys∧n.toNat+ys.length<=us.length∧sD us n.toNat ys.length=true∧r=.l (Ar us n.toNat ys.length):=by
 cases m with
 |c v=>simp[Prim.ev]at h
 |l us=>
  cases lo with
  |l _=>simp[Prim.ev]at h
  |c v=>
   cases v with
   |int kk n=>
    cases y with
    |c _=>simp[Prim.ev]at h
    |l ys=>
     simp only[Prim.ev]at h
     split at h
     ·split at h
      ·split at h
       ·cases h
        exact⟨us,kk,n,ys,rfl,rfl,by assumption,rfl,by assumption,by assumption,rfl⟩
       ·cases h
      ·cases h
     ·cases h
   |_=>cases y<;>simp[Prim.ev]at h
section
variable {M M':Nat->Prop} {B:e_} {d:Nat} {up:Nat->Nat->Value} {ρ:List T} {G:Gh} {a:Act} {w:World} {S:Nat->af} {P:Program} {s:St}
theorem Rel.TL(h:Rel M B d up s ρ G a w){G':Gh}{W:St}{N:Nat->Prop}(k:dF (pk W) N G w G' w)(hN:∀i,N i->¬M i)(hM:∀i,M i->M' i)
  (hW:∀r u,W.look r=some u->∃i,r=.o i∧cL G' w ρ i u∧M' i∧∀j∈dA u,M' j)(iG:∀b l,G'.ω b=some l->M' l.id∧b<w.heap.size):Rel M' B d up (s.fK W) ρ G' a w:=by
 have ha:a.put none undef=a:=rfl
 rw[<-ha]
 refine h.step (v:=undef) k hN hM (λn hn=>by cases hn) ⟨rfl,rfl,rfl⟩ ⟨λe n u _ hl=>?_,λb u hl=>?_,λi u hl=>?_,λr u hl j hj=>?_,λi hi=>?_,iG⟩
 ·obtain⟨i,e1,_⟩:=hW _ _ hl;cases e1
 ·obtain⟨i,e1,_⟩:=hW _ _ hl;cases e1
 ·obtain⟨j,e1,e2,_⟩:=hW _ _ hl;cases e1;exact e2
 ·obtain⟨i,_,_,_,e4⟩:=hW _ _ hl;exact e4 j hj
 ·rcases hi with hi|hi
  ·obtain⟨u,hu⟩:=Option.ne_none_iff_exists'.1 hi
   obtain⟨j,e1,_⟩:=hW _ _ hu;cases e1
  ·obtain⟨u,hu⟩:=Option.ne_none_iff_exists'.1 hi
   obtain⟨j,e1,_,e3,_⟩:=hW _ _ hu;cases e1;exact e3
def Gh.gJ(G:Gh)(tk j n k:Nat):Gh where
 ω:=λb=>match G.ω b with
  |some (.o i ((r,c)::p))=>if i=tk∧n<=r∧r<n+k then some (.o j ((r-n,c)::p))else some (.o i ((r,c)::p))
  |l=>l
 β:=G.β
 H:=λi p=>if i=j then(match p with| []=>G.H j []|(r,c)::p=>G.H tk ((n+r,c)::p))else G.H i p
 hs:=λi p=>by
  by_cases h:i=j
  ·subst h
   cases p with
   |nil=>simp only[if_true];exact G.hs i []
   |cons x p=>obtain⟨r,c⟩:=x;simp only[if_true];exact G.hs tk _
  ·simp only[h,if_false];exact G.hs i p
theorem ain{tk j n k:Nat}(h4:j%4=0){I:Lb->Prop}(hI:∀p,I (.o tk p))(hJ:∀p,I (.o j p)):dF I (λ_=>False) G w (G.gJ tk j n k) w:=by
 refine⟨Nat.le_refl _,λb _ hb=>⟨uB hb (λh0=>by simp[Gh.gJ,h0]) λl hl hq=>?_,rfl⟩,λb _ hb=>by simp[Gh.gJ,hb],λb l hl hn=>⟨?_,rfl⟩,λi _=>⟨rfl,λp hp=>?_⟩⟩
 ·cases l with
  |o i p=>
   cases p with
   |nil=>exact .inr ⟨_,by simp[Gh.gJ,hl],hq⟩
   |cons x p=>
    obtain⟨r,c⟩:=x
    simp only[Gh.gJ,hl]
    split
    ·exact .inr ⟨_,rfl,wN (by omega) (by simp)⟩
    ·exact .inr ⟨_,rfl,hq⟩
  |_=>simp[qt]at hq
 ·cases l with
  |o i p=>
   cases p with
   |nil=>simp[Gh.gJ,hl]
   |cons x p=>
    obtain⟨r,c⟩:=x
    have:i≠tk:=λe=>hn (e▸hI _)
    simp[Gh.gJ,hl,this]
  |_=>simp[Gh.gJ,hl]
 ·by_cases hi:i=j
  ·subst hi
   rcases hp with rfl|hp|hp
   ·simp[Gh.gJ]
   ·exact absurd h4 hp
   ·exact absurd (hJ []) (hp [])
  ·simp[Gh.gJ,hi]
theorem aio{kA EG kx:Wk}{G1:Gh}{WA:St}{Y:SV}(hk:dD M B d up ρ G a w kx G1)(ho:ll kA kx WA)(uM:∀r u,WA.look r=some u->u=.un)
  (h:kA.gJ Y=some EG)(hd:EG.bJ S ρ):
  kA.bJ S ρ∧EG.ct.i=kA.ct.i∧∃EH G2,dD M B d up ρ G a w EH G2∧ll EG EH WA∧dF (λl=>∃i p,l=.o i p∧WA.look (.o i)=none) (λ_=>False) G1 w G2 w∧∀i,G2.H i []=G1.H i []:=by
 unfold Wk.gJ at h
 split at h
 ·rename_i j
  split at h
  ·rename_i tk x0 lo y hj
   split at h
   ·rename_i y0 m BI
    cases hc:(x0.beq y0&&Nat.beq (j%4) 0)with
    |false=>simp[hc]at h
    |true=>
     simp only[hc,cond_true,bG]at h
     simp only[bD]at hc
     have Lw:=Lf.beq_eq hc.1
     subst Lw
     have hj4:j%4=0:=ef hc.2
     subst h
     have dj:∀{i:Nat} {u:SV},kA.get (.o i)=u->u≠.un->WA.look (.o i)=none:=by
      intro i u hu dH
      cases hl:WA.look (.o i)with
      |none=>rfl
      |some u'=>
       exfalso
       have:=uM _ _ hl
       subst this
       refine dH ?_
       rw[<-hu]
       unfold Wk.get
       rw[ho.2,hl];simp
     have hnj:=dj hj (by simp)
     have nx:=dj BI (by simp)
     have fR:(kA.em .lj [m,lo,y]).1.bJ S ρ:=hd
     obtain⟨F2,r,hr,pn⟩:=Wk.bX fR
     have obj:=hk.obj j
     have TM:=hk.obj tk
     rw[<-ho.get hnj,hj]at obj
     rw[<-ho.get nx,BI]at TM
     obtain⟨t,ht,ez,h2,F,n,zs,hF,nF,rfl,BB,uG,_⟩:=obj
     obtain⟨_,F',u,TN,hu,hlen,mI⟩:=TM
     rw[hF]at TN
     cases TN
     simp only[List.map_cons,List.map_nil,Lf.bW ht,Lf.bW hu]at hr
     obtain⟨us,kk,n',ys,e1,e2,h0,e3,hle,hfr,rfl⟩:=aim hr
     cases e1
     cases e3
     have iW:n'.toNat=n:=by
      unfold mf at nF
      split at nF
      ·rename_i k2 n2 uH
       have:=Lf.bW uH
       rw[this]at e2
       cases e2
       rw[if_pos h0]at nF
       exact Option.some.inj nF
      ·cases nF
     rw[iW]at hle hfr pn
     have hjt:j≠tk:=by omega
     let EH:Wk:={kx with w:=(kx.w.set (.o tk) (.tk x0 (kA.em .lj [m,lo,y]).2)).set (.o j) (.fr y)}
     let G2:=G1.gJ tk j n zs.length
     have key:∀i p,(i=tk∨i=j)->pk [(bE.o j,SV.fr y),(bE.o tk,SV.tk x0 (kA.em .lj [m,lo,y]).2)] (.o i p):=by
      intro i p hi
      show St.look _ (bE.o i)≠none
      rcases hi with rfl|rfl
      ·simp only[St.look]
       cases(bE.o j).beq (.o i)<;>simp[(bE.beq_iff (r:=bE.o i)).2 rfl]
      ·simp[St.look,(bE.beq_iff (r:=bE.o i)).2 rfl]
     have K:dF (pk [(bE.o j,SV.fr y),(bE.o tk,SV.tk x0 (kA.em .lj [m,lo,y]).2)]) (λ_=>False) G1 w G2 w:=
      ain hj4 (λp=>key tk p (.inl rfl)) λp=>key j p (.inr rfl)
     have Mj:M j:=hk.rel.key j (.inr (by rw[<-Wk.a_,<-ho.get hnj,hj];simp))
     have Mt:M tk:=hk.rel.key tk (.inr (by rw[<-Wk.a_,<-ho.get nx,BI];simp))
     have rel:=hk.rel.TL (M':=M) K (λi hf=>hf.elim) (λi hi=>hi) (λr u' hl=>by
      rcases j8 hl with⟨e1,e2⟩|hl
      ·subst e1 e2
       refine⟨j,rfl,?_,Mj,λi hi=>by simp[dA]at hi⟩
       refine⟨hj4,zs,ht,?_,?_,λi c l' bI=>?_⟩
       ·have:G2.H j []=G1.H j []:=by simp[G2,Gh.gJ]
        rw[this];exact ez.bm K.size K.free
       ·have:G2.H j []=G1.H j []:=by simp[G2,Gh.gJ]
        rw[this]
        intro b off k2 c2 hv
        obtain⟨wd,w1,w2⟩:=uG b off k2 c2 hv
        refine⟨wd,w1,λi c l' bI=>?_⟩
        rw[w2 i c l' bI]
        simp[G2,Gh.gJ]
       ·obtain⟨row,gE,_,sf,Ti,_⟩:=xL bI
        obtain⟨r',pu,rK⟩:=TK hle hfr Ti
        obtain⟨g1,g2⟩:=mI _ _ pu rK
        rw[BB i row gE]at g1
        cases g1
        refine(g2 c l' sf).move rfl (λb q hb=>⟨?_,rfl⟩) λq=>?_
        ·simp only[List.cons_append,List.nil_append]at hb⊢
         simp only[G2,Gh.gJ,hb]
         rw[if_pos (by refine⟨?_,?_,?_⟩<;>first|trivial|omega),show n+i-n=i by omega]
        ·simp[G2,Gh.gJ]
      ·rcases j8 hl with⟨e1,e2⟩|hl
       ·subst e1 e2
        refine⟨tk,rfl,⟨h2,F,_,hF,pn,by rw[TH hle];exact hlen,λi r hg dH=>?_⟩,Mt,λi hi=>by simp[dA]at hi⟩
        obtain⟨g1,g2⟩:=TJ hle hg dH
        obtain⟨g3,g4⟩:=mI i r g1 dH
        refine⟨g3,λc l' sf=>(g4 c l' sf).move rfl (λb q hb=>⟨?_,rfl⟩) λq=>?_⟩
        ·simp only[List.cons_append,List.nil_append]at hb⊢
         simp only[G2,Gh.gJ,hb]
         rw[if_neg (by omega)]
        ·simp[G2,Gh.gJ,Ne.symm hjt]
       ·cases hl) λb l hb=>by
      cases hg:G1.ω b with
      |none=>simp[G2,Gh.gJ,hg]at hb
      |some l0=>
       have uP:=hk.rel.iG b l0 hg
       refine⟨?_,uP.2⟩
       cases l0 with
       |o i p=>
        cases p with
        |nil=>simp[G2,Gh.gJ,hg]at hb;subst hb;exact uP.1
        |cons x p=>
         obtain⟨r,c⟩:=x
         simp only[G2,Gh.gJ,hg]at hb
         split at hb
         ·cases hb;exact Mj
         ·cases hb;exact uP.1
       |_=>simp[G2,Gh.gJ,hg]at hb;subst hb;exact uP.1
     have hgx:∀r,(kx.r.fK EH.w).get r=((kx.r.fK kx.w).fK [(bE.o j,SV.fr y),(bE.o tk,SV.tk x0 (kA.em .lj [m,lo,y]).2)]).get r:=by
      intro r
      show(kx.r.fK ((kx.w.set (.o tk) _).set (.o j) _)).get r=_
      rw[JC]
      simp only[St.fK]
      by_cases h1:bE.o j=r
      ·subst h1;rw[St.ci,St.ci]
      ·rw[St.eG _ _ h1,St.eG _ _ h1,JC]
     have look:∀(K0:Wk) (v1 v2:SV) (r:bE),((K0.w.set (.o tk) v1).set (.o j) v2).look r=if bE.o j=r then some v2 else if bE.o tk=r then some v1 else K0.w.look r:=by
      intro K0 v1 v2 r
      by_cases h1:bE.o j=r
      ·subst h1;rw[if_pos rfl,St.bz]
      ·rw[if_neg h1,St.cF _ _ h1]
       by_cases h2:bE.o tk=r
       ·subst h2;rw[if_pos rfl,St.bz]
       ·rw[if_neg h2,St.cF _ _ h2]
     refine⟨F2,rfl,EH,G2,⟨rel.congr hgx,?_⟩,⟨ho.1,λr=>?_⟩,K.mono ?_ λ_ hf=>hf,λi=>?_⟩
     ·refine(hk.bm.mono (λl hl=>?_) λ_ hf=>hf).trans (K.mono (λl hl=>?_) λ_ hf=>hf)
      ·exact JB (JB hl)
      ·cases l with
       |o i p=>
        show((kx.w.set (.o tk) _).set (.o j) _).look (.o i)≠none
        rw[look]
        split
        ·simp
        ·split
         ·simp
         ·rename_i h1 h2
          exfalso
          refine hl ?_
          simp only[St.look]
          have b1:(bE.o j).beq (.o i)=false:=by
           cases hb:(bE.o j).beq (.o i)with
           |false=>rfl
           |true=>exact absurd (bE.beq_iff.1 hb) h1
          have b2:(bE.o tk).beq (.o i)=false:=by
           cases hb:(bE.o tk).beq (.o i)with
           |false=>rfl
           |true=>exact absurd (bE.beq_iff.1 hb) h2
          simp[b1,b2]
       |f=>exact hl.elim
       |x b=>exact absurd rfl (by exact hl)
     ·show(((kA.em .lj [m,lo,y]).1.w.set (.o tk) _).set (.o j) _).look r=(WA.look r).or (((kx.w.set (.o tk) _).set (.o j) _).look r)
      rw[look (kA.em .lj [m,lo,y]).1,look kx]
      by_cases h1:bE.o j=r
      ·subst h1;simp[hnj]
      ·rw[if_neg h1,if_neg h1]
       by_cases h2:bE.o tk=r
       ·subst h2;simp[nx]
       ·rw[if_neg h2,if_neg h2];exact ho.2 r
     ·intro l hl
      cases l with
      |o i p=>
       refine⟨i,p,rfl,?_⟩
       have hh:i=j∨i=tk:=by
        by_cases h1:i=j
        ·exact .inl h1
        ·by_cases h2:i=tk
         ·exact .inr h2
         ·exfalso
          refine hl ?_
          have b1:(bE.o j).beq (.o i)=false:=by
           cases hb:(bE.o j).beq (.o i)with
           |false=>rfl
           |true=>have:=bE.beq_iff.1 hb;cases this;exact absurd rfl h1
          have b2:(bE.o tk).beq (.o i)=false:=by
           cases hb:(bE.o tk).beq (.o i)with
           |false=>rfl
           |true=>have:=bE.beq_iff.1 hb;cases this;exact absurd rfl h2
          simp[St.look,b1,b2]
       rcases hh with rfl|rfl
       ·exact hnj
       ·exact nx
      |f=>exact hl.elim
      |x b=>exact absurd rfl hl
     ·by_cases hi:i=j
      ·subst hi;simp[G2,Gh.gJ]
      ·simp[G2,Gh.gJ,hi]
   ·cases h
  ·cases h
 ·cases h
end
section
variable {M:Nat->Prop} {B:e_} {d:Nat} {up:Nat->Nat->Value} {ρ:List T} {G:Gh} {a:Act} {w:World} {S:Nat->af} {P:Program}
variable {cx:Cx} {cJ fA oi:Nat} {s:St} {R:List bE} {ct:Ct} {k':Wk} {o:Oper} {Q:Exit->Act->World->Prop}
theorem aip(ek:eL P cx)(h:Rel M B d up s ρ G a w)(hn:∀n,o.dst=some n->n<a.tmps.size){c:Call}{x y:Operand}(ho:o.op=.call c)(hc:c.callee=.builtin .append)(fD:c.args.toList=[x,y])
  (hk:jf cx cJ fA d o oi ⟨s.only R,[],ct,[]⟩=some k')(hd:k'.bJ S ρ)(hM:∀i,ct.i<=i->i<k'.ct.i->¬M i):bV P (Mn M ct.i k'.ct.i) B d up ρ a w s o k'.w Q:=by
 have hw:=dD.start h R ct
 simp only[jf,ho,hc,fD]at hk
 split at hk
 ·rename_i t tx bI
  simp only[cN]at hk
  obtain⟨ti,f_,tj,htj,te,qs,hk⟩:=hk
  cases TO:(Nat.beq ti.kd 3&&Nat.beq tj.kd 3&&Nat.ble te.bytes 32768&&Nat.blt 0 te.sz)with
  |false=>simp[TO]at hk
  |true=>
   simp only[TO,cond_true,cN,bG]at hk
   simp only[bD]at TO
   obtain⟨⟨⟨c1,c2⟩,c3⟩,c4⟩:=TO
   obtain⟨⟨kA,la,JL⟩,hA,⟨kB,lb,EF⟩,hB,hk⟩:=hk
   simp only at hB hk
   have iw:0<te.sz:=Nat.lt_of_succ_le (by simpa[Nat.blt]using c4)
   have c_:ca d o {(kB.em (.app (!te.zero.any fT) te.sz) [la,lb]).1.set (.o (fw kB.ct.i)) (.ob (JL&&EF) (kB.em (.app (!te.zero.any fT) te.sz) [la,lb]).2)with
     ct:=⟨(kB.em (.app (!te.zero.any fT) te.sz) [la,lb]).1.ct.a,fw kB.ct.i+1⟩} (.v false [.o (fw kB.ct.i) []])=k':=hk
   have fR:(kB.em (.app (!te.zero.any fT) te.sz) [la,lb]).1.bJ S ρ:=by
    rw[<-c_]at hd
    have h2:=cX.1 hd
    exact h2
   obtain⟨hdB,r,hr,pn⟩:=Wk.bX fR
   obtain⟨q1,q2,kx,G2,WA,xs,wA,azw,Lx,hla,uM⟩:=ah8 (k_:=JL&&EF) hw (hw.iV x).1 (hw.iV x).2 hA (λhe=>by simp at he;exact he.1)
   have TP:∀r u,WA.look r=some u->u=.un:=by
    intro r u hu
    rcases uM with⟨_,_,rfl⟩|⟨j,rfl,_⟩
    ·cases hu
    ·rcases j8 hu with⟨_,e2⟩|hl
     ·exact e2
     ·cases hl
   have hB0:∃EG,kA.ww (te.zero.any fT&& !cx.fz cJ fA oi) (cn d (Wk.get ⟨s.only R,[],ct,[]⟩) y)=EG:=⟨_,rfl⟩
   obtain⟨EG,BJ⟩:=hB0
   rw[BJ]at hB
   have aiq:EG.bJ S ρ:=ah9 hB hdB
   obtain⟨q1',kx,G2,wA,Lx,uM⟩:EG.ct.i=kA.ct.i∧∃EH Ru,dD M B d up ρ G a w EH Ru∧ll EG EH WA∧
     ((a.eval x=.slice none 0 0∧xs=[]∧WA=[])∨∃lD,WA=[(.o lD,.un)]∧M lD∧lD%4≠2∧a.eval x=Ru.H lD []∧fB Ru w lD (JL&&EF) [] (.l xs)):=by
    unfold Wk.ww at BJ
    split at BJ
    ·rename_i kz hz
     subst BJ
     have Rz:kA.gJ (cn d (Wk.get ⟨s.only R,[],ct,[]⟩) y)=some kz:=by
      cases hb:(te.zero.any fT&& !cx.fz cJ fA oi)with
      |true=>rw[hb]at hz;exact hz
      |false=>rw[hb]at hz;cases hz
     obtain⟨_,g2,EH,Ru,g3,g4,g5,g6⟩:=aio wA Lx TP Rz aiq
     refine⟨g2,EH,Ru,g3,g4,uM.imp_right ?_⟩
     rintro⟨j,e1,e2,e3,e4,e5⟩
     subst e1
     refine⟨j,rfl,e2,e3,by rw[g6];exact e4,e5.bm g5 (λp hp=>?_) λhf=>hf⟩
     obtain⟨i',p',f1,f2⟩:=hp
     cases f1
     rw[vS]at f2
     simp at f2
    ·subst BJ
     exact⟨rfl,kx,G2,wA,Lx,uM⟩
   have hy:cK G2 w ρ (cn d (Wk.get ⟨s.only R,[],ct,[]⟩) y) (a.eval y):=(hw.iV y).1.bm wA.bm λ_ _ hf=>hf
   obtain⟨_,p2,ky,G3,WB,t2,mQ,wB,Ly,TF,hlb,Tm,kp,_,oC⟩:=ah_ (k_:=JL&&EF) (P:=P) wA Lx TP hy (hw.iV y).2 hB hdB (λhe=>by simp at he;exact he.2)
   simp only[List.map_cons,List.map_nil,Lf.bW hla,Lf.bW hlb]at hr
   obtain⟨ys,rfl,bf,mF,Lz,zl,rfl⟩:=aib hr
   have sX:=(ek.ty _ _ htj).sl (ef c2)
   obtain⟨cv,s1,s2,s3⟩:=oC ys te.sz tx tj.el rfl iw zl (λhf=>mF (by rw[hf];rfl)) sX
   have kY:kB.ct.i=ct.i:=by rw[p2,q1',q1]
   have pV:k'.ct.i=fw ct.i+1:=by rw[<-c_,nu,<-kY]
   have jy:=A5 ct.i
   rw[pV,<-c_,<-kY]
   refine bV.mono (M:=Mn M (fw kB.ct.i) (fw kB.ct.i+1)) ?_ (λi hi=>hi.imp_right λhi=>by rw[kY]at hi⊢;exact⟨by omega,hi.2⟩)
   refine aih (k5:={(kB.em (.app (!te.zero.any fT) te.sz) [la,lb]).1 with ct:=⟨(kB.em (.app (!te.zero.any fT) te.sz) [la,lb]).1.ct.a,fw kB.ct.i⟩}) (lD:=WA.head?.bind λz=>match z.1 with| .o j=>some j|_=>none) (WA:=WA) (WB:=WB) (G3:=G3) ek f_ htj qs (ef c1) (ef c2) (Nat.le_of_ble_eq_true c3) iw
    h hn ho hc fD bI wB ⟨(Ly.same (Wk.bR kB (.app (!te.zero.any fT) te.sz) [la,lb])).1,(Ly.same (Wk.bR kB (.app (!te.zero.any fT) te.sz) [la,lb])).2⟩ (TE _) (hM _ (by show ct.i<=fw kB.ct.i;rw[kY];exact jy) (by rw[pV];show fw kB.ct.i<_;rw[kY];omega)) ?_ TF Lz bf (e':=tj.el) s1 s2 s3 pn (λr'=>?_)
   ·rcases uM with⟨e1,e2,e3⟩|⟨j,e1,e2,e22,e3,e4⟩
    ·left
     subst e3
     exact⟨rfl,rfl,e1,e2⟩
    ·right
     subst e1
     refine⟨j,rfl,rfl,e2,e22,by rw[Tm];exact e3,e4.bm kp (λp hp=>?_) λhf=>hf⟩
     obtain⟨i',p',e5,e6⟩:=hp
     cases e5
     rw[vS]at e6
     simp at e6
   ·show((kB.em (.app (!te.zero.any fT) te.sz) [la,lb]).1.w.set (.o (fw kB.ct.i)) _).look r'=_
    rw[show((kB.em (.app (!te.zero.any fT) te.sz) [la,lb]).1.w.set (.o (fw kB.ct.i)) (.ob (JL&&EF) (kB.em (.app (!te.zero.any fT) te.sz) [la,lb]).2)).look r'=_ from vT (k:=(kB.em (.app (!te.zero.any fT) te.sz) [la,lb]).1) r']
    rw[show(Wk.w (kB.em (.app (!te.zero.any fT) te.sz) [la,lb]).1).look r'=kB.w.look r' from rfl,Ly.2 r',<-Option.or_assoc]
    congr 1
    show _=St.look ((bE.o (fw kB.ct.i),_)::(WB++WA)) r'
    simp only[St.look]
    cases(bE.o (fw kB.ct.i)).beq r'<;>simp
 ·cases hk
def sZ(ω:Nat->Option Lb)(w:World)(ρ:List T)(dp:Bool):List Ce->List Lf->List Value->Prop
 | [],[],[]=>True
 |z::zs,x::xs,v::vs=>(∃t,x.fW ρ=some t∧fm ω w t v∧(dp=true->fT z=true->t=.l []∧v=.slice none 0 0))∧sZ ω w ρ dp zs xs vs
 |_,_,_=>False
theorem sZ.bm{ω wL:Nat->Option Lb}{w':World}(hs:w.heap.size<=w'.heap.size)(hf:∀b,b<w.heap.size->ω b=none->wL b=none∧w'.heap[b]?=w.heap[b]?){dp vL:Bool}(hd:vL=true->dp=true):
  ∀{zs:List Ce} {xs:List Lf} {vs:List Value},sZ ω w ρ dp zs xs vs->sZ wL w' ρ vL zs xs vs
 | [],[],[],_=>trivial
 |_::_,_::_,_::_,h=>by
  obtain⟨⟨t,h1,h2,h3⟩,h4⟩:=h
  exact⟨⟨t,h1,h2.bm hs hf,λe=>h3 (hd e)⟩,sZ.bm hs hf hd h4⟩
 | [],[],_::_,h=>h.elim
 | [],_::_,_,h=>h.elim
 |_::_,[],_,h=>h.elim
 |_::_,_::_,[],h=>h.elim
theorem BK:∀{zs cs:List Ce} {vs:List Value} {k k1:Wk} {xs:List Lf} {dp:Bool} {G1:Gh},dD M B d up ρ G a w k G1->bk G1 w ρ cs vs->k.fU true zs cs=some (k1,xs,dp)->
  k1.ct=k.ct∧k1.is=k.is∧xs.length=zs.length∧∃G2,dD M B d up ρ G a w k1 G2∧G2.H=G1.H∧(∀b,G1.q b=none->G2.q b=none)∧sZ G2.q w ρ dp zs xs vs
 | [],[],vs,k,k1,xs,dp,G1,hk,hr,h=>by
  simp only[Wk.fU,bG,Prod.mk.injEq]at h
  obtain⟨rfl,rfl,rfl⟩:=h
  cases vs with
  |nil=>exact⟨rfl,rfl,rfl,G1,hk,rfl,λ_ h=>h,trivial⟩
  |cons _ _=>exact hr.elim
 |z::zs,.p x::cs,vs,k,k1,xs,dp,G1,hk,hr,h=>by
  cases vs with
  |nil=>exact hr.elim
  |cons v vs=>
   simp only[Wk.fU,cN,bG,Prod.mk.injEq]at h
   obtain⟨⟨k2,ys,dp2⟩,h2,rfl,rfl,rfl⟩:=h
   obtain⟨e1,e2,e3,G2,w2,e4,e5,e6⟩:=BK hk hr.2 h2
   obtain⟨t,ht,hd⟩:=hr.1
   refine⟨e1,e2,by simp[e3],G2,w2,e4,e5,⟨t,ht,hd.bm (Nat.le_refl _) λb _ hb=>⟨e5 b hb,rfl⟩,λgR hz=>by simp[hz]at gR⟩,e6.bm (Nat.le_refl _) (λb _ hb=>⟨hb,rfl⟩) λgR=>by simp at gR;exact gR.1⟩
 |z::zs,.n::cs,vs,k,k1,xs,dp,G1,hk,hr,h=>by
  cases vs with
  |nil=>exact hr.elim
  |cons v vs=>
   simp only[Wk.fU,cN,bG,Prod.mk.injEq]at h
   obtain⟨⟨k2,ys,dp2⟩,h2,rfl,rfl,rfl⟩:=h
   obtain⟨e1,e2,e3,G2,w2,e4,e5,e6⟩:=BK hk hr.2 h2
   have hv:v=.slice none 0 0:=hr.1
   subst hv
   exact⟨e1,e2,by simp[e3],G2,w2,e4,e5,⟨.l [],rfl,.nil,λ_ _=>⟨rfl,rfl⟩⟩,e6⟩
 |z::zs,.o id []::cs,vs,k,k1,xs,dp,G1,hk,hr,h=>by
  cases vs with
  |nil=>exact hr.elim
  |cons v vs=>
   obtain⟨⟨p,hp,hv⟩,rK⟩:=hr
   simp only[mD,bG]at hp
   subst hp
   have eH:=hk.obj id
   simp only[Wk.fU]at h
   split at h
   ·rename_i pv x hx
    simp only[cN,bG,Prod.mk.injEq]at h
    obtain⟨⟨k2,ys,dp2⟩,h2,rfl,rfl,rfl⟩:=h
    obtain⟨e1,e2,e3,G2,w2,e4,e5,e6⟩:=BK hk rK h2
    rw[hx]at eH
    obtain⟨t,ht,hd,_⟩:=eH
    rw[<-hv]at hd
    exact⟨e1,e2,by simp[e3],G2,w2,e4,e5,⟨t,ht,hd.bm (Nat.le_refl _) λb _ hb=>⟨e5 b hb,rfl⟩,λgR=>by cases gR⟩,e6.bm (Nat.le_refl _) (λb _ hb=>⟨hb,rfl⟩) λgR=>by cases gR⟩
   ·rename_i dd x hx
    simp only[cond_true,cN,bG,Prod.mk.injEq]at h
    obtain⟨⟨k2,ys,dp2⟩,h2,rfl,rfl,rfl⟩:=h
    have TD:=hx
    rw[Wk.a_]at TD
    have wt:dD M B d up ρ G a w (k.set (.o id) (.fz .z x)) (G1.free id true):=by
     refine⟨(hk.rel.mw TD).congr (JC _ _ _ _),(hk.bm.mono (λl hl=>JB hl) λ_ hn=>hn).trans ((G1.fM id true w).mono ?_ λ_ hn=>hn)⟩
     rintro l ⟨p,rfl⟩
     show(k.w.set _ _).look (.o id)≠none
     rw[St.bz];simp
    rw[hx]at eH
    obtain⟨t,ht,bU⟩:=eH
    have hd:fm (G1.free id true).q w t v:=by rw[hv];exact bU.xN
    have EB:bk (G1.free id true) w ρ cs vs:=rK.bm (G1.fM id true w) λ_ _ hf=>hf
    obtain⟨e1,e2,e3,G2,w2,e4,e5,e6⟩:=BK wt EB h2
    exact⟨e1,e2,by simp[e3],G2,w2,e4,λb hb=>e5 b (Gh.sM hb),⟨t,ht,hd.bm (Nat.le_refl _) λb _ hb=>⟨e5 b hb,rfl⟩,λgR=>by cases gR⟩,e6.bm (Nat.le_refl _) (λb _ hb=>⟨hb,rfl⟩) λgR=>by cases gR⟩
   ·cases h
 | [],_::_,vs,k,k1,xs,dp,G1,hk,hr,h=>by simp[Wk.fU]at h
 |_::_,[],vs,k,k1,xs,dp,G1,hk,hr,h=>by simp[Wk.fU]at h
 |z::zs,.o id (_::_)::cs,vs,k,k1,xs,dp,G1,hk,hr,h=>by simp[Wk.fU]at h
 |z::zs,.d::cs,vs,k,k1,xs,dp,G1,hk,hr,h=>by simp[Wk.fU]at h
theorem sZ.at:∀{ω:Nat->Option Lb} {dp:Bool} {zs:List Ce} {xs:List Lf} {vs:List Value},sZ ω w ρ dp zs xs vs->xs.length=vs.length∧zs.length=vs.length∧
  ∀(j:Nat) (t:T),(xs.map (Lf.ev ρ))[j]?=some t->∃z v,zs[j]?=some z∧vs[j]?=some v∧fm ω w t v∧(dp=true->fT z=true->t=.l []∧v=.slice none 0 0)
 |_,_,[],[],[],_=>⟨rfl,rfl,λj t h=>by simp at h⟩
 |ω,dp,z::zs,x::xs,v::vs,h=>by
  obtain⟨⟨t,h1,h2,h3⟩,h4⟩:=h
  obtain⟨e1,e2,e3⟩:=sZ.at h4
  refine⟨by simp[e1],by simp[e2],λj t' hj=>?_⟩
  cases j with
  |zero=>
   simp only[List.map_cons,List.getElem?_cons_zero,bG]at hj
   rw[Lf.bW h1]at hj
   subst hj
   exact⟨z,v,rfl,rfl,h2,h3⟩
  |succ j=>simpa using e3 j t' (by simpa using hj)
 |_,_,[],[],_::_,h=>h.elim
 |_,_,[],_::_,_,h=>h.elim
 |_,_,_::_,[],_,h=>h.elim
 |_,_,_::_,_::_,[],h=>h.elim
theorem bk.BL{G1:Gh}:∀{cs:List Ce} {vs:List Value},cs.length=vs.length->(∀(j:Nat) (c:Ce) (v:Value),cs[j]?=some c->vs[j]?=some v->gv G1 w ρ c v)->bk G1 w ρ cs vs
 | [],[],_,_=>trivial
 | [],_::_,h,_=>by simp at h
 |_::_,[],h,_=>by simp at h
 |c::cs,v::vs,h,hf=>⟨hf 0 c v rfl rfl,bk.BL (by simpa using h) λj c v h1 h2=>hf (j+1) c v (by simpa using h1) (by simpa using h2)⟩
theorem bk.get{G1:Gh}:∀{cs:List Ce} {vs:List Value},bk G1 w ρ cs vs->∀(j:Nat) (c:Ce) (v:Value),cs[j]?=some c->vs[j]?=some v->gv G1 w ρ c v
 | [],[],_,j,c,v,h,_=>by simp at h
 | [],_::_,h,_,_,_,_,_=>h.elim
 |_::_,[],h,_,_,_,_,_=>h.elim
 |c::cs,v::vs,h,j,_,_,h1,h2=>by
  cases j with
  |zero=>simp at h1 h2;subst h1 h2;exact h.1
  |succ j=>exact bk.get h.2 j _ _ (by simpa using h1) (by simpa using h2)
theorem F3(zs:List Ce):∀n,(nC zs n).length=n*zs.length
 |0=>by simp[nC]
 |n+1=>by simp[nC,F3 zs n,Nat.add_mul];omega
theorem TQ(zs:List Ce):∀(n i j:Nat),i<n->j<zs.length->(nC zs n)[i*zs.length+j]?=zs[j]?
 |0,i,j,h,_=>by omega
 |n+1,0,j,_,hj=>by simp only[nC,Nat.zero_mul,Nat.zero_add];rw[List.getElem?_append_left hj]
 |n+1,i+1,j,h,hj=>by
  simp only[nC]
  rw[List.getElem?_append_right (by rw[Nat.add_mul];omega),show(i+1)*zs.length+j-zs.length=i*zs.length+j by rw[Nat.add_mul];omega]
  exact TQ zs n i j (by omega) hj
theorem TR{zs:List Ce}(h:dV zs=[]):∀n,dV (nC zs n)=[]
 |0=>rfl
 |n+1=>by rw[nC,K6,h,TR h n];rfl
theorem ait{k n sz:Nat}(h:k<n*sz):k/sz<n∧k%sz<sz∧(k/sz)*sz+k%sz=k:=by
 have iw:0<sz:=by
  rcases Nat.eq_zero_or_pos sz with h0|h0
  ·rw[h0]at h;omega
  ·exact h0
 exact⟨Nat.div_lt_of_lt_mul (by rw[Nat.mul_comm];exact h),Nat.mod_lt _ iw,by rw[Nat.mul_comm];exact Nat.div_add_mod k sz⟩
theorem aiu{zs:List Ce}{z:Array Value}{G1:Gh}(h:bk G1 w ρ zs z.toList)(n:Nat):bk G1 w ρ (nC zs n) (madeCells z (n*z.size)).toList:=by
 have hl:=h.length
 simp only[Array.length_toList]at hl
 refine bk.BL (by rw[F3,hl,Array.length_toList,size_madeCells]) λk c v hc hv=>?_
 have hk:k<n*z.size:=by have:=(List.getElem?_eq_some_iff.1 hc).1;rw[F3,hl]at this;exact this
 obtain⟨q1,q2,q3⟩:=ait hk
 have h1:=TQ zs n _ _ q1 (by rw[hl];exact q2)
 rw[hl,q3,hc]at h1
 have h2:=Tw q2 q1
 rw[q3,<-Array.getElem?_toList,hv]at h2
 have hc:=h1.symm
 have hv:=h2.symm
 exact h.get _ c v hc (by simpa using hv)
theorem LA(w:Nat):∀(n:Nat) (ts:List T) (i j:Nat),ts.length=n*w->i<n->j<w->d_ (rl w n ts) i j=ts[i*w+j]?
 |0,_,_,_,_,h,_=>by omega
 |n+1,ts,0,j,hl,_,hj=>by
  simp only[rl,d_,List.getElem?_cons_zero,Option.bind_some,Nat.zero_mul,Nat.zero_add,List.getElem?_take,hj,if_true]
 |n+1,ts,i+1,j,hl,h,hj=>by
  have:=LA w n (ts.drop w) i j (by simp[hl,Nat.add_mul]) (by omega) hj
  simp only[d_,rl,List.getElem?_cons_succ]at this⊢
  rw[this,List.getElem?_drop]
  congr 1
  rw[Nat.add_mul];omega
theorem LB(w:Nat):∀(n:Nat) (ts:List T),(rl w n ts).length=n
 |0,_=>rfl
 |n+1,ts=>by simp[rl,LB w n]
theorem BM(w:Nat):∀(n:Nat) (ts:List T),ts.length=n*w->∀r∈rl w n ts,r.length=w
 |0,_,_,r,h=>by cases h
 |n+1,ts,hl,r,h=>by
  simp only[rl,List.mem_cons]at h
  rcases h with rfl|h
  ·rw[List.length_take,hl,Nat.add_mul];omega
  ·exact BM w n (ts.drop w) (by simp[hl,Nat.add_mul]) r h
theorem BN:∀(ms:List Bool) (ts:List T),r9 ms ts=true->∀(j:Nat) (t:T),ms[j]?=some true->ts[j]?=some t->eQ t=true
 | [],_,_,j,t,h,_=>by simp at h
 |true::ms,[],h,_,_,_,h2=>by simp at h2
 |false::ms,[],h,_,_,_,h2=>by simp at h2
 |true::ms,t::ts,h,j,u,h1,h2=>by
  simp only[r9,bD]at h
  cases j with
  |zero=>simp at h2;subst h2;exact h.1
  |succ j=>exact BN ms ts h.2 j u (by simpa using h1) (by simpa using h2)
 |false::ms,t::ts,h,j,u,h1,h2=>by
  simp only[r9]at h
  cases j with
  |zero=>simp at h1
  |succ j=>exact BN ms ts h j u (by simpa using h1) (by simpa using h2)
theorem TS{t e n:Nat}{i:TypeInfo}{z:Value}(hu:P.underlying t=some (.slice e))(hi:P.info? e=some i)(hz:i.zero=some z)(hs:z.cells.size=i.size)(hb:n*i.size<=65536)
  {parts:Array (Nat×Value)}{b9:Array Value}(g:Instr.fill (λf=>some (f*i.size,i.size)) (madeCells z.cells (n*i.size)) parts.toList=some b9):
  (Instr.buildSlice t n parts).run P w=.ok (.slice (some ⟨w.heap.size,0,none⟩) n n) (w.alloc (.cells b9 e)):=by
 have aiv:¬(n*i.size>2^24):=by omega
 unfold madeCells at g
 by_cases h0:n*i.size=0
 ·simp only[h0,Array.range_zero',List.map_toArray,List.map_nil]at g
  simp[Instr.buildSlice,run_underlying hu,sizeOf,typeInfo,hi,h0,g,newRow,Array.range_zero']
 ·simp[Instr.buildSlice,run_underlying hu,sizeOf,typeInfo,hi,h0,aiv,zeroValue,hz,g,newRow]
abbrev Mv:=List (Nat×Nat)
def h_:Mv->Nat->Option Nat
 | [],_=>none
 |(p,i)::mv,q=>bif Nat.beq p q then some i else h_ mv q
def lm:Mv->Nat->Option Nat
 | [],_=>none
 |(p,i)::mv,j=>bif Nat.beq i j then some p else lm mv j
theorem BO:∀{mv:Mv} {q i:Nat},h_ mv q=some i->(q,i)∈mv
 | [],q,i,h=>by simp[h_]at h
 |(p,j)::mv,q,i,h=>by
  simp only[h_]at h
  cases hb:Nat.beq p q with
  |true=>simp[hb]at h;subst h;rw[ef hb];exact List.mem_cons_self
  |false=>simp[hb]at h;exact List.mem_cons_of_mem _ (BO h)
theorem F4:∀{mv:Mv} {q i:Nat},lm mv i=some q->(q,i)∈mv
 | [],q,i,h=>by simp[lm]at h
 |(p,j)::mv,q,i,h=>by
  simp only[lm]at h
  cases hb:Nat.beq j i with
  |true=>simp[hb]at h;subst h;rw[ef hb];exact List.mem_cons_self
  |false=>simp[hb]at h;exact List.mem_cons_of_mem _ (F4 h)
def TT(G:Gh)(w:World)(ρ:List T)(mv:Mv):Nat->List Lf->List Value->Prop
 |_,[],[]=>True
 |q,x::xs,v::vs=>(∃t,x.fW ρ=some t∧((∃u,t=.c u∧v=u∧kW u=true)∨(t=.l []∧v=.slice none 0 0∧h_ mv q=none)∨∃i,h_ mv q=some i∧v=G.H i []∧fB G w i true [] t))∧TT G w ρ mv (q+1) xs vs
 |_,_,_=>False
theorem RA{G1:Gh}:∀{zs cs:List Ce} {vs:List Value} {k k1:Wk} {xs:List Lf} {k0:Wk} {W0:St},dD M B d up ρ G a w k0 G1->ll k k0 W0->(∀r u,W0.look r=some u->∃j,r=.o j∧u=.un)->bk G1 w ρ cs vs->(∀i∈dV cs,M i)->
  k.ew zs cs=some (k1,xs)->∀q,k1.ct=k.ct∧k1.is=k.is∧xs.length=zs.length∧zs.length=cs.length∧∃mv W1,ll k1 k0 (W1++W0)∧(∀p i,(p,i)∈mv->q<=p∧M i∧W1.look (.o i)=some .un∧W0.look (.o i)=none)∧(∀r u,W1.look r=some u->∃p j,r=.o j∧u=.un∧M j∧(p,j)∈mv)∧
   (∀p i,(p,i)∈mv->h_ mv p=some i∧lm mv i=some p)∧
   (∀(EI:Mv),(∀p,q<=p->h_ EI p=h_ mv p)->(∀(j:Nat) (t:T),(∃x,xs[j]?=some x∧x.fW ρ=some t)->zs[j]?.map fT=some false->eQ t=true)->TT G1 w ρ EI q xs vs)
 | [],[],vs,k,k1,xs,k0,W0,hk,ho,hW,hr,hm,h,q=>by
  simp only[Wk.ew,bG,Prod.mk.injEq]at h
  obtain⟨rfl,rfl⟩:=h
  cases vs with
  |nil=>exact⟨rfl,rfl,rfl,rfl,[],[],ho,(λp i h=>by cases h),(λr u h=>by cases h),(λp i h=>by cases h),λ_ _ _=>trivial⟩
  |cons _ _=>exact hr.elim
 |z::zs,.p x::cs,vs,k,k1,xs,k0,W0,hk,ho,hW,hr,hm,h,q=>by
  cases vs with
  |nil=>exact hr.elim
  |cons v vs=>
   simp only[Wk.ew]at h
   cases hz:fT z with
   |true=>simp[hz]at h
   |false=>
    simp only[hz,cond_false,cN,bG,Prod.mk.injEq]at h
    obtain⟨⟨k2,ys⟩,h2,rfl,rfl⟩:=h
    obtain⟨e1,e2,e3,e4,mv,W1,e5,e6,e7,e8,e9⟩:=RA hk ho hW hr.2 (λi hi=>hm i (by simpa[dV]using hi)) h2 (q+1)
    refine⟨e1,e2,by simp[e3],by simp[e4],mv,W1,e5,λp i hp=>by have:=e6 p i hp;exact⟨by omega,this.2⟩,e7,e8,λEI tZ mF=>?_⟩
    obtain⟨t,ht,hd⟩:=hr.1
    have cf:=mF 0 t ⟨x,rfl,ht⟩ (by simp[hz])
    obtain⟨u,rfl⟩:=zd cf
    obtain⟨rfl,hu⟩:=hd.scalar
    exact⟨⟨.c v,ht,.inl ⟨v,rfl,rfl,hu⟩⟩,e9 EI (λp hp=>tZ p (by omega)) λj t hj s5=>mF (j+1) t (by simpa using hj) (by simpa using s5)⟩
 |z::zs,.n::cs,vs,k,k1,xs,k0,W0,hk,ho,hW,hr,hm,h,q=>by
  cases vs with
  |nil=>exact hr.elim
  |cons v vs=>
   simp only[Wk.ew,cN,bG,Prod.mk.injEq]at h
   obtain⟨⟨k2,ys⟩,h2,rfl,rfl⟩:=h
   obtain⟨e1,e2,e3,e4,mv,W1,e5,e6,e7,e8,e9⟩:=RA hk ho hW hr.2 (λi hi=>hm i (by simpa[dV]using hi)) h2 (q+1)
   refine⟨e1,e2,by simp[e3],by simp[e4],mv,W1,e5,λp i hp=>by have:=e6 p i hp;exact⟨by omega,this.2⟩,e7,e8,λEI tZ mF=>?_⟩
   have hv:v=.slice none 0 0:=hr.1
   have dj:h_ mv q=none:=by
    cases hm:h_ mv q with
    |none=>rfl
    |some i=>
     have:=BO hm
     have:=(e6 q i this).1
     omega
   exact⟨⟨.l [],rfl,.inr (.inl ⟨rfl,hv,by rw[tZ q (Nat.le_refl _)];exact dj⟩)⟩,e9 EI (λp hp=>tZ p (by omega)) λj t hj s5=>mF (j+1) t (by simpa using hj) (by simpa using s5)⟩
 |z::zs,.o id []::cs,vs,k,k1,xs,k0,W0,hk,ho,hW,hr,hm,h,q=>by
  cases vs with
  |nil=>exact hr.elim
  |cons v vs=>
   simp only[Wk.ew]at h
   split at h
   ·rename_i x hx
    simp only[cN,bG,Prod.mk.injEq]at h
    obtain⟨⟨k2,ys⟩,h2,rfl,rfl⟩:=h
    have dj:W0.look (.o id)=none:=by
     cases hl:W0.look (.o id)with
     |none=>rfl
     |some u=>
      exfalso
      obtain⟨j,_,rfl⟩:=hW _ _ hl
      have:k.get (.o id)=.un:=by unfold Wk.get;rw[ho.2,hl];simp
      rw[this]at hx;cases hx
    have JN:ll (k.set (.o id) .un) k0 ([(.o id,.un)]++W0):=⟨ho.1,λr=>by rw[show(k.set (.o id) .un).w.look r=_ from vT r,mG,ho.2,Option.or_assoc]⟩
    obtain⟨e1,e2,e3,e4,mv,W1,e5,e6,e7,e8,e9⟩:=RA hk JN (λr u hl=>by
     rw[mG]at hl
     cases h1:St.look [(bE.o id,SV.un)] r with
     |some u'=>rw[h1]at hl;simp at hl;subst hl;rcases j8 h1 with⟨q1,q2⟩|q1;exact⟨id,q1,q2⟩;cases q1
     |none=>rw[h1]at hl;exact hW r u (by simpa using hl)) hr.2 (λi hi=>hm i (by simp[dV,hi])) h2 (q+1)
    have gG:∀p i,(p,i)∈mv->i≠id:=by
     intro p i hp he
     subst he
     have:=(e6 p i hp).2.2.2
     rw[mG,vS]at this
     simp at this
    refine⟨e1,e2,by simp[e3],by simp[e4],(q,id)::mv,W1++[(.o id,.un)],by rw[List.append_assoc];exact e5,λp i hp=>?_,λr u hl=>?_,λp i hp=>?_,λEI tZ mF=>?_⟩
    ·rcases List.mem_cons.1 hp with hp|hp
     ·cases hp
      have:W1.look (.o id)=none:=by
       cases hl:W1.look (.o id)with
       |none=>rfl
       |some u=>obtain⟨p,j,q1,_,_,q2⟩:=e7 _ _ hl;cases q1;exact absurd rfl (gG p _ q2)
      exact⟨Nat.le_refl _,hm id (by simp[dV]),by rw[mG,this,vS];simp,dj⟩
     ·obtain⟨q1,q2,q3,q4⟩:=e6 p i hp
      refine⟨by omega,q2,by rw[mG,q3];rfl,?_⟩
      rw[mG]at q4
      exact(Option.or_eq_none_iff.1 q4).2
    ·rw[mG]at hl
     cases h1:W1.look r with
     |some u'=>
      rw[h1]at hl
      simp at hl
      subst hl
      obtain⟨p,j,q1,q2,q3,q4⟩:=e7 r u' h1
      exact⟨p,j,q1,q2,q3,by simp[q4]⟩
     |none=>
      rw[h1]at hl
      simp only[Option.none_or]at hl
      rcases j8 hl with⟨q1,q2⟩|q1
      ·exact⟨q,id,q1,q2,hm id (by simp[dV]),by simp⟩
      ·cases q1
    ·rcases List.mem_cons.1 hp with hp|hp
     ·cases hp;simp[h_,lm]
     ·have h1:=(e6 p i hp).1
      have h2:=gG p i hp
      have b1:Nat.beq q p=false:=by
       cases hb:Nat.beq q p with
       |false=>rfl
       |true=>have:=ef hb;omega
      have b2:Nat.beq id i=false:=by
       cases hb:Nat.beq id i with
       |false=>rfl
       |true=>exact absurd (ef hb).symm h2
      simp only[h_,lm,b1,b2,cond_false]
      exact e8 p i hp
    ·have eH:=hk.obj id
     have EE:k0.get (.o id)=.ob true x:=by rw[<-ho.get dj];exact hx
     rw[EE]at eH
     obtain⟨t,ht,bU⟩:=eH
     obtain⟨p,hp,hv⟩:=hr.1
     simp only[mD,bG]at hp
     subst hp
     refine⟨⟨t,ht,.inr (.inr ⟨id,by rw[tZ q (Nat.le_refl _)];simp[h_],hv,bU⟩)⟩,e9 EI (λp hp=>?_) λj t hj s5=>mF (j+1) t (by simpa using hj) (by simpa using s5)⟩
     rw[tZ p (by omega)]
     have b1:Nat.beq q p=false:=by
      cases hb:Nat.beq q p with
      |false=>rfl
      |true=>have:=ef hb;omega
     simp only[h_,b1,cond_false]
   ·rename_i x hx
    simp only[cN,bG,Prod.mk.injEq]at h
    obtain⟨⟨k2,ys⟩,h2,rfl,rfl⟩:=h
    have dj:W0.look (.o id)=none:=by
     cases hl:W0.look (.o id)with
     |none=>rfl
     |some u=>
      exfalso
      obtain⟨j,_,rfl⟩:=hW _ _ hl
      have:k.get (.o id)=.un:=by unfold Wk.get;rw[ho.2,hl];simp
      rw[this]at hx;cases hx
    have JN:ll (k.set (.o id) .un) k0 ([(.o id,.un)]++W0):=⟨ho.1,λr=>by rw[show(k.set (.o id) .un).w.look r=_ from vT r,mG,ho.2,Option.or_assoc]⟩
    obtain⟨e1,e2,e3,e4,mv,W1,e5,e6,e7,e8,e9⟩:=RA hk JN (λr u hl=>by
     rw[mG]at hl
     cases h1:St.look [(bE.o id,SV.un)] r with
     |some u'=>rw[h1]at hl;simp at hl;subst hl;rcases j8 h1 with⟨q1,q2⟩|q1;exact⟨id,q1,q2⟩;cases q1
     |none=>rw[h1]at hl;exact hW r u (by simpa using hl)) hr.2 (λi hi=>hm i (by simp[dV,hi])) h2 (q+1)
    have gG:∀p i,(p,i)∈mv->i≠id:=by
     intro p i hp he
     subst he
     have:=(e6 p i hp).2.2.2
     rw[mG,vS]at this
     simp at this
    refine⟨e1,e2,by simp[e3],by simp[e4],(q,id)::mv,W1++[(.o id,.un)],by rw[List.append_assoc];exact e5,λp i hp=>?_,λr u hl=>?_,λp i hp=>?_,λEI tZ mF=>?_⟩
    ·rcases List.mem_cons.1 hp with hp|hp
     ·cases hp
      have:W1.look (.o id)=none:=by
       cases hl:W1.look (.o id)with
       |none=>rfl
       |some u=>obtain⟨p,j,q1,_,_,q2⟩:=e7 _ _ hl;cases q1;exact absurd rfl (gG p _ q2)
      exact⟨Nat.le_refl _,hm id (by simp[dV]),by rw[mG,this,vS];simp,dj⟩
     ·obtain⟨q1,q2,q3,q4⟩:=e6 p i hp
      refine⟨by omega,q2,by rw[mG,q3];rfl,?_⟩
      rw[mG]at q4
      exact(Option.or_eq_none_iff.1 q4).2
    ·rw[mG]at hl
     cases h1:W1.look r with
     |some u'=>
      rw[h1]at hl
      simp at hl
      subst hl
      obtain⟨p,j,q1,q2,q3,q4⟩:=e7 r u' h1
      exact⟨p,j,q1,q2,q3,by simp[q4]⟩
     |none=>
      rw[h1]at hl
      simp only[Option.none_or]at hl
      rcases j8 hl with⟨q1,q2⟩|q1
      ·exact⟨q,id,q1,q2,hm id (by simp[dV]),by simp⟩
      ·cases q1
    ·rcases List.mem_cons.1 hp with hp|hp
     ·cases hp;simp[h_,lm]
     ·have h1:=(e6 p i hp).1
      have h2:=gG p i hp
      have b1:Nat.beq q p=false:=by
       cases hb:Nat.beq q p with
       |false=>rfl
       |true=>have:=ef hb;omega
      have b2:Nat.beq id i=false:=by
       cases hb:Nat.beq id i with
       |false=>rfl
       |true=>exact absurd (ef hb).symm h2
      simp only[h_,lm,b1,b2,cond_false]
      exact e8 p i hp
    ·have eH:=hk.obj id
     have EE:k0.get (.o id)=.fl x:=by rw[<-ho.get dj];exact hx
     rw[EE]at eH
     obtain⟨_,t,ht,bU⟩:=eH
     obtain⟨p,hp,hv⟩:=hr.1
     simp only[mD,bG]at hp
     subst hp
     refine⟨⟨t,ht,.inr (.inr ⟨id,by rw[tZ q (Nat.le_refl _)];simp[h_],hv,bU⟩)⟩,e9 EI (λp hp=>?_) λj t hj s5=>mF (j+1) t (by simpa using hj) (by simpa using s5)⟩
     rw[tZ p (by omega)]
     have b1:Nat.beq q p=false:=by
      cases hb:Nat.beq q p with
      |false=>rfl
      |true=>have:=ef hb;omega
     simp only[h_,b1,cond_false]
   ·cases h
 | [],_::_,vs,k,k1,xs,k0,W0,_,_,_,_,_,h,_=>by simp[Wk.ew]at h
 |_::_,[],vs,k,k1,xs,k0,W0,_,_,_,_,_,h,_=>by simp[Wk.ew]at h
 |_::_,.d::_,vs,k,k1,xs,k0,W0,_,_,_,_,_,h,_=>by simp[Wk.ew]at h
 |_::_,.o _ (_::_)::_,vs,k,k1,xs,k0,W0,_,_,_,_,_,h,_=>by simp[Wk.ew]at h
theorem TT.at{G1:Gh}{mv:Mv}:∀{xs:List Lf} {vs:List Value} {q:Nat},TT G1 w ρ mv q xs vs->xs.length=vs.length∧∀(j:Nat) (t:T),(xs.map (Lf.ev ρ))[j]?=some t->∃v,vs[j]?=some v∧
  ((∃u,t=.c u∧v=u∧kW u=true)∨(t=.l []∧v=.slice none 0 0∧h_ mv (q+j)=none)∨∃i,h_ mv (q+j)=some i∧v=G1.H i []∧fB G1 w i true [] t)
 | [],[],q,_=>⟨rfl,λj t h=>by simp at h⟩
 |x::xs,v::vs,q,h=>by
  obtain⟨⟨t,h1,h2⟩,h3⟩:=h
  obtain⟨e1,e2⟩:=TT.at h3
  refine⟨by simp[e1],λj t' hj=>?_⟩
  cases j with
  |zero=>
   simp only[List.map_cons,List.getElem?_cons_zero,bG]at hj
   rw[Lf.bW h1]at hj
   subst hj
   exact⟨v,rfl,h2⟩
  |succ j=>
   have:=e2 j t' (by simpa using hj)
   rw[show q+1+j=q+(j+1) by omega]at this
   simpa using this
 | [],_::_,q,h=>h.elim
 |_::_,[],q,h=>h.elim
def RB(mv:Mv)(sz i:Nat):Lb->Option Lb
 | .o j p=>match lm mv j with
  |some q=>some (.o i ((q/sz,q%sz)::p))
  |none=>some (.o j p)
 |l=>some l
theorem aiw{mv:Mv}{sz i:Nat}(hi:i%2=0)(l l':Lb)(hq:qt l=true)(h:RB mv sz i l=some l'):qt l'=true:=by
 cases l with
 |o j p=>
  simp only[RB]at h
  split at h
  ·cases h;exact wN hi (by simp)
  ·cases h;exact hq
 |_=>simp[qt]at hq
def JO(G:Gh)(mv:Mv)(sz:Nat)(v:Value):List (Nat×Nat)->Value
 | []=>v
 |(r,c)::p=>match h_ mv (r*sz+c)with
  |some j=>G.H j p
  |none=>.slice none 0 0
theorem aix(ek:eL P cx)(h:Rel M B d up s ρ G a w)(hn:∀n,o.dst=some n->n<a.tmps.size){t n:Nat}{ps:Array (Nat×Operand)}(ho:o.op=.buildSlice t n ps){ti te:TI}(f_:cx.ty t=some ti)(qs:cx.ty ti.el=some te)
  {i:TypeInfo}{z:Value}(hu:P.underlying t=some (.slice ti.el))(vV:P.info? ti.el=some i)(nw:i.size=te.sz)(JJ:i.zero=some z)(s6:z.cells.size=te.sz)(iw:0<te.sz)(hb:n*te.sz<=65536)
  (FP:bk G w ρ te.zero z.cells.toList)(tU:dV te.zero=[]){cs:List Ce}{b9:Array Value}(g1:Instr.fill (λi=>some (i*te.sz,te.sz)) (madeCells z.cells (n*z.cells.size)) (ps.toList.map λp=>(p.1,a.eval p.2))=some b9)(g2:bk G w ρ cs b9.toList∧∀i∈dV cs,M i)
  (y_:b9.size=n*te.sz){k1:Wk}{xs:List Lf}(hD:Wk.ew ⟨s.only R,[],ct,[]⟩ (nC te.zero n) cs=some (k1,xs))
  (hk:(let r:=k1.em (.lit te.sz (bif true then(nC te.zero n).map (λz=>!fT z)else [])) xs;ca d o {r.1.set (.o (fw r.1.ct.i)) (.ob true r.2)with ct:=⟨r.1.ct.a,fw r.1.ct.i+1⟩} (.v false [.o (fw r.1.ct.i) []]))=k')(hd:k'.bJ S ρ)(hM:∀i,ct.i<=i->i<k'.ct.i->¬M i):
  bV P (Mn M ct.i k'.ct.i) B d up ρ a w s o k'.w Q:=by
 have hw:=dD.start h R ct
 obtain⟨a1,a2,a3,a4,mv,W1,a5,a6,a7,a8,a9⟩:=RA hw (show ll ⟨s.only R,[],ct,[]⟩ ⟨s.only R,[],ct,[]⟩ [] from⟨rfl,λr=>by simp[St.look]⟩) (λr u h=>by cases h) g2.1 g2.2 hD 0
 rw[List.append_nil]at a5
 generalize hy:k1.em (.lit te.sz (bif true then(nC te.zero n).map (λz=>!fT z)else [])) xs=ky at hk
 obtain⟨k2,y⟩:=ky
 have BP:k2=(k1.em (.lit te.sz (bif true then(nC te.zero n).map (λz=>!fT z)else [])) xs).1:=by rw[hy]
 have hye:y=(k1.em (.lit te.sz (bif true then(nC te.zero n).map (λz=>!fT z)else [])) xs).2:=by rw[hy]
 have oB:k1.fq k2:=by rw[BP];exact Wk.bR _ _ _
 have jz:ca d o {k2.set (.o (fw k2.ct.i)) (.ob true y)with ct:=⟨k2.ct.a,fw k2.ct.i+1⟩} (.v false [.o (fw k2.ct.i) []])=k':=hk
 have kY:k2.ct.i=ct.i:=by rw[oB.i,a1]
 have fR:(k1.em (.lit te.sz (bif true then(nC te.zero n).map (λz=>!fT z)else [])) xs).1.bJ S ρ:=by
  rw[<-BP]
  rw[<-jz]at hd
  have h2:=cX.1 hd
  exact h2
 obtain⟨F2,r,hr,pn⟩:=Wk.bX fR
 rw[<-hye]at pn
 have rJ:te.zero.length=te.sz:=by have:=FP.length;rw[this];simpa using s6
 have BQ:(xs.map (Lf.ev ρ)).length=n*te.sz:=by rw[List.length_map,a3,F3,rJ]
 have uQ:r=.l (rl te.sz n (xs.map (Lf.ev ρ)))∧r9 ((nC te.zero n).map (λz=>!fT z)) (xs.map (Lf.ev ρ))=true:=by
  simp only[Prim.ev,BQ,Nat.mul_div_cancel _ iw,if_pos iw,cond_true]at hr
  split at hr
  ·rename_i hm
   exact⟨(Option.some.inj hr).symm,hm⟩
  ·cases hr
 obtain⟨rfl,uR⟩:=uQ
 have tZ:=a9 mv (λ_ _=>rfl) λj t ⟨x,hx,ht⟩ s5=>by
  refine BN _ _ uR j t ?_ ?_
  ·cases BR:(nC te.zero n)[j]? with
   |none=>rw[BR]at s5;cases s5
   |some zc=>rw[BR]at s5;simp at s5;simp[BR,s5]
  ·rw[List.getElem?_map,hx];simp[Lf.bW ht]
 obtain⟨b1,b3⟩:=tZ.at
 have pV:k'.ct.i=fw ct.i+1:=by rw[<-jz,nu,<-kY]
 have jy:=A5 ct.i
 let Hn:=JO G mv te.sz (.slice (some ⟨w.heap.size,0,none⟩) n n)
 have nH:∀p,∃a n c,Hn p=.slice a n c:=λp=>by
  cases p with
  |nil=>exact⟨_,_,_,rfl⟩
  |cons x p=>
   obtain⟨r0,c0⟩:=x
   cases hm:h_ mv (r0*te.sz+c0)with
   |none=>exact⟨none,0,0,by simp only[Hn,JO,hm]⟩
   |some j=>obtain⟨a0,n0,c1,h0⟩:=G.hs j p;exact⟨a0,n0,c1,by simp only[Hn,JO,hm];exact h0⟩
 have eR:(Instr.buildSlice t n (ps.map λ(i,x)=>(i,a.eval x))).run P w=.ok (.slice (some ⟨w.heap.size,0,none⟩) n n) (w.alloc (.cells b9 ti.el)):=by
  have Ax:(ps.map λ(x:Nat×Operand)=>(x.1,a.eval x.2)).toList=ps.toList.map λp=>(p.1,a.eval p.2):=by simp
  rw[<-Ax,<-nw]at g1
  exact TS hu vV JJ (by rw[s6,nw]) (by rw[nw];exact hb) (by rw[nw]at g1⊢;rw[<-s6]at g1⊢;exact g1)
 have iN:(execOp a.eval o).run P w=.ok (.value (Hn [])) (w.alloc (.cells b9 ti.el)):=by
  unfold execOp
  simp only[ho]
  rw[Sem.run_bind,eR]
  rfl
 rw[pV,<-jz,<-kY]
 have LC:¬M (fw k2.ct.i):=hM _ (by rw[kY];exact jy) (by rw[pV,kY];omega)
 refine bV.mono (M:=Mn M (fw k2.ct.i) (fw k2.ct.i+1)) ?_ (λi hi=>hi.imp_right λhi=>by rw[kY]at hi⊢;exact⟨by omega,hi.2⟩)
 refine FZ (nb:=some w.heap.size) (f:=RB mv te.sz (fw k2.ct.i)) (Hn:=Hn) (nH:=nH) (w':=w.alloc (.cells b9 ti.el)) (k:={(⟨s.only R,[],ct,[]⟩:Wk)with ct:=⟨k2.ct.a,fw k2.ct.i⟩}) (W1:=W1) (dp:=true) (y:=y) (t:=.l (rl te.sz n (xs.map (Lf.ev ρ))))
  h (show dD M B d up ρ G a w {(⟨s.only R,[],ct,[]⟩:Wk)with ct:=⟨k2.ct.a,fw k2.ct.i⟩} G from⟨hw.rel,hw.bm⟩) hn LC (λr=>?_) (λr u hu=>by obtain⟨p,j,q1,q2,q3,_⟩:=a7 r u hu;subst q2;exact⟨j,q1,trivial,q3,λi hi=>by simp[dA]at hi⟩) (λl hl=>?_) (λl l' ⟨b,hb⟩ he=>?_)
  (aiw (TE _)) (λc hc=>by cases hc;exact .inl rfl) (by simp) (λc hc=>by cases hc;simp) (λb hb _=>heap_alloc_old w _ b hb) (FQ _ _) rfl pn ?_ iN
 ·show((k2.w.set (.o (fw k2.ct.i)) _)).look r=_
  rw[show(k2.w.set (.o (fw k2.ct.i)) (.ob true y)).look r=_ from vT (k:=k2) r]
  rw[show k2.w.look r=k1.w.look r by rw[oB.w],a5.2 r,<-Option.or_assoc]
  congr 1
  show _=St.look ((bE.o (fw k2.ct.i),_)::W1) r
  simp only[St.look]
  cases(bE.o (fw k2.ct.i)).beq r<;>simp
 ·cases l with
  |f=>rfl
  |x b=>rfl
  |o j p=>
   have h0:=hl j p rfl
   have:lm mv j=none:=by
    cases hm:lm mv j with
    |none=>rfl
    |some q=>have:=(a6 q j (F4 hm)).2.2.1;rw[h0]at this;cases this
   simp[RB,this]
 ·have mP:=hw.rel.iG b _ hb
  cases l with
  |f=>cases he;exact .inl mP.1
  |x b=>cases he;exact .inl mP.1
  |o j p=>
   simp only[RB]at he
   split at he
   ·cases he;exact .inr rfl
   ·cases he;exact .inl mP.1
 ·have hlen:(rl te.sz n (xs.map (Lf.ev ρ))).length=n:=LB _ _ _
  have wU:∀(ii j:Nat) (t:T),d_ (rl te.sz n (xs.map (Lf.ev ρ))) ii j=some t->ii<n∧j<te.sz∧∃v,b9[ii*te.sz+j]?=some v∧
    ((∃u,t=.c u∧v=u∧kW u=true)∨(t=.l []∧v=.slice none 0 0∧h_ mv (ii*te.sz+j)=none)∨∃i,h_ mv (ii*te.sz+j)=some i∧v=G.H i []∧fB G w i true [] t):=by
   intro ii j t ht
   obtain⟨rr,_,hm,JG,q1,q2⟩:=xL ht
   rw[hlen]at q1
   rw[BM _ _ _ BQ rr hm]at q2
   rw[LA _ _ _ _ _ BQ q1 q2]at ht
   obtain⟨v,c2,c3⟩:=b3 _ t ht
   rw[Nat.zero_add]at c3
   exact⟨q1,q2,v,by simpa using c2,c3⟩
  refine .l (wd:=te.sz) (cv:=λii j=>b9.getD (ii*te.sz+j) undef) (by rw[hlen];simp[Gh.dP,Hn,JO]) ⟨by rw[hlen];exact Nat.le_refl _,λhe=>by have:=congrArg List.length he;rw[hlen]at this;simpa using this⟩ (by simp[Gh.dP]) (heap_alloc_new w _) y_ (BM _ _ _ BQ) ?_ ?_ (λ_ _ _ _ hf=>by cases hf) ?_ ?_
  ·intro ii j t ht
   obtain⟨q1,q2,v,q3,_⟩:=wU ii j t ht
   simp[Array.getD_eq_getD_getElem?,q3]
  ·intro ii j v ht
   obtain⟨q1,q2,u,q3,q4⟩:=wU ii j _ ht
   rcases q4 with⟨u',e1,e2,e3⟩|⟨e1,_⟩|⟨i',_,_,e1⟩
   ·cases e1;subst e2;exact⟨by simp[Array.getD_eq_getD_getElem?,q3],e3⟩
   ·cases e1
   ·cases e1
  ·intro ii j ys ht _
   obtain⟨q1,q2,u,q3,q4⟩:=wU ii j _ ht
   rcases q4 with⟨u',e1,e2,e3⟩|⟨e1,e2,e3⟩|⟨i',e1,e2,e3⟩
   ·cases e1
   ·simp[Array.getD_eq_getD_getElem?,q3,e2,Gh.dP,Hn,JO,e3]
   ·simp[Array.getD_eq_getD_getElem?,q3,e2,Gh.dP,Hn,JO,e1]
  ·intro ii j ys ht _
   obtain⟨q1,q2,u,q3,q4⟩:=wU ii j _ ht
   rcases q4 with⟨u',e1,e2,e3⟩|⟨e1,e2,e3⟩|⟨i',e1,e2,e3⟩
   ·cases e1
   ·cases e1;exact .nil (by simp[Gh.dP,Hn,JO,e3])
   ·have pD:=(a8 _ i' (BO e1)).2
    refine e3.move rfl (λc p hc=>?_) λp=>?_
    ·have bf:=(hw.rel.iG c _ hc).2
     have dH:¬(w.heap.size=c):=by omega
     simp only[List.nil_append]at hc
     refine⟨?_,heap_alloc_old w _ c bf⟩
     have hdiv:(ii*te.sz+j)/te.sz=ii:=by rw[Nat.add_comm,Nat.add_mul_div_right _ _ iw,Nat.div_eq_of_lt q2];omega
     have aiz:(ii*te.sz+j)%te.sz=j:=by rw[Nat.add_comm,Nat.add_mul_mod_self_right,Nat.mod_eq_of_lt q2]
     simp[Gh.dP,dH,hc,RB,pD,hdiv,aiz]
    ·simp[Gh.dP,Hn,JO,e1]
theorem aiA(ek:eL P cx)(h:Rel M B d up s ρ G a w)(hn:∀n,o.dst=some n->n<a.tmps.size){t n:Nat}{ps:Array (Nat×Operand)}(ho:o.op=.buildSlice t n ps)
  (hk:jf cx cJ fA d o oi ⟨s.only R,[],ct,[]⟩=some k')(hd:k'.bJ S ρ)(hM:∀i,ct.i<=i->i<k'.ct.i->¬M i):bV P (Mn M ct.i k'.ct.i) B d up ρ a w s o k'.w Q:=by
 have hw:=dD.start h R ct
 simp only[jf,ho,cN]at hk
 obtain⟨ti,f_,te,qs,hk⟩:=hk
 cases hc:(Nat.beq ti.kd 3&&Nat.ble (n*te.sz) 65536&&Nat.blt 0 te.sz)with
 |false=>simp[hc]at hk
 |true=>
  simp only[hc,cond_true,cN,bG]at hk
  simp only[bD]at hc
  obtain⟨⟨po,jX⟩,hc3⟩:=hc
  obtain⟨l,hl,cs,kZ,⟨k1,xs,dp⟩,ln,hk⟩:=hk
  simp only at hk
  have hT:=ek.ty _ _ f_
  have hE:=ek.ty _ _ qs
  obtain⟨i,z,vV,nw,hi3,JJ,y7⟩:=hE.info
  have hu:=hT.sl (ef po)
  obtain⟨FP,tU⟩:=K7 (G:=G) (w:=w) (ρ:=ρ) y7
  have s6:z.cells.size=te.sz:=by
   have:=FP.length
   rw[hE.FI]at this
   simpa using this.symm
  have iw:0<te.sz:=Nat.lt_of_succ_le (by simpa[Nat.blt]using hc3)
  obtain⟨b9,g1,g2,g3,g4⟩:=K8 (a:=a) hw (fs:=(List.range n).map λi=>(i*te.sz,te.sz)) (place:=λi=>some (i*te.sz,te.sz)) (λf o hf=>by
   rw[List.getElem?_map]at hf
   cases hr:(List.range n)[f]? with
   |none=>simp[hr]at hf
   |some f'=>
    have bf:=(List.getElem?_eq_some_iff.1 hr).1
    rw[List.getElem?_eq_getElem bf,List.getElem_range,bG]at hr
    subst hr
    rw[List.getElem?_eq_getElem bf]at hf
    simpa using hf) ps.toList l (nC te.zero n) cs (madeCells z.cells (n*z.cells.size)) hl kZ (aiu FP n) (λi hi=>by rw[TR tU]at hi;cases hi)
  cases hD:(bif cx.fz cJ fA oi then none else Wk.ew ⟨s.only R,[],ct,[]⟩ (nC te.zero n) cs)with
  |some r=>
   obtain⟨kD,xsD⟩:=r
   simp only[Wk.sE,hD,bG,Prod.mk.injEq]at ln
   obtain⟨rfl,rfl,rfl⟩:=ln
   have hD':Wk.ew ⟨s.only R,[],ct,[]⟩ (nC te.zero n) cs=some (kD,xsD):=by
    cases tX:cx.fz cJ fA oi with
    |true=>rw[tX]at hD;cases hD
    |false=>rw[tX]at hD;exact hD
   exact aix ek h hn ho f_ qs hu vV nw JJ s6 iw (Nat.le_of_ble_eq_true jX) FP tU g1 ⟨g2,g3⟩ (by rw[g4,size_madeCells,s6]) hD' hk hd hM
  |none=>
  simp only[Wk.sE,hD]at ln
  obtain⟨a1,a2,a3,G2,w2,a4,a5,a6⟩:=BK hw g2 ln
  generalize hy:k1.em (.lit te.sz (bif dp then(nC te.zero n).map (λz=>!fT z)else [])) xs=ky at hk
  obtain⟨k2,y⟩:=ky
  have BP:k2=(k1.em (.lit te.sz (bif dp then(nC te.zero n).map (λz=>!fT z)else [])) xs).1:=by rw[hy]
  have hye:y=(k1.em (.lit te.sz (bif dp then(nC te.zero n).map (λz=>!fT z)else [])) xs).2:=by rw[hy]
  have oB:k1.fq k2:=by rw[BP];exact Wk.bR _ _ _
  have jz:ca d o {k2.set (.o (fw k2.ct.i)) (.ob dp y)with ct:=⟨k2.ct.a,fw k2.ct.i+1⟩} (.v false [.o (fw k2.ct.i) []])=k':=hk
  have kY:k2.ct.i=ct.i:=by rw[oB.i,a1]
  have fR:(k1.em (.lit te.sz (bif dp then(nC te.zero n).map (λz=>!fT z)else [])) xs).1.bJ S ρ:=by
   rw[<-BP]
   rw[<-jz]at hd
   have h2:=cX.1 hd
   exact h2
  obtain⟨F2,r,hr,pn⟩:=Wk.bX fR
  rw[<-hye]at pn
  obtain⟨b1,b2,b3⟩:=a6.at
  have y_:b9.size=n*te.sz:=by rw[g4,size_madeCells,s6]
  have BQ:(xs.map (Lf.ev ρ)).length=n*te.sz:=by rw[List.length_map,b1,Array.length_toList,y_]
  have uQ:r=.l (rl te.sz n (xs.map (Lf.ev ρ)))∧r9 (bif dp then(nC te.zero n).map (λz=>!fT z)else []) (xs.map (Lf.ev ρ))=true:=by
   simp only[Prim.ev,BQ,Nat.mul_div_cancel _ iw,if_pos iw]at hr
   split at hr
   ·rename_i hm
    exact⟨(Option.some.inj hr).symm,hm⟩
   ·cases hr
  obtain⟨rfl,uR⟩:=uQ
  have pV:k'.ct.i=fw ct.i+1:=by rw[<-jz,nu,<-kY]
  have jy:=A5 ct.i
  let Hn:List (Nat×Nat)->Value:=λp=>match p with| []=>.slice (some ⟨w.heap.size,0,none⟩) n n|_=>.slice none 0 0
  have nH:∀p,∃a n c,Hn p=.slice a n c:=λp=>by cases p<;>exact⟨_,_,_,rfl⟩
  have eR:(Instr.buildSlice t n (ps.map λ(i,x)=>(i,a.eval x))).run P w=.ok (.slice (some ⟨w.heap.size,0,none⟩) n n) (w.alloc (.cells b9 ti.el)):=by
   have Ax:(ps.map λ(x:Nat×Operand)=>(x.1,a.eval x.2)).toList=ps.toList.map λp=>(p.1,a.eval p.2):=by simp
   rw[<-Ax,<-nw]at g1
   have:=Nat.le_of_ble_eq_true jX
   exact TS hu vV JJ (by rw[s6,nw]) (by rw[nw];omega) (by rw[nw]at g1⊢;rw[<-s6]at g1⊢;exact g1)
  have iN:(execOp a.eval o).run P w=.ok (.value (Hn [])) (w.alloc (.cells b9 ti.el)):=
   by
   unfold execOp
   simp only[ho]
   rw[Sem.run_bind,eR]
   rfl
  rw[pV,<-jz,<-kY]
  refine bV.mono (M:=Mn M (fw k2.ct.i) (fw k2.ct.i+1)) ?_ (λi hi=>hi.imp_right λhi=>by rw[kY]at hi⊢;exact⟨by omega,hi.2⟩)
  have w3:=w2.same oB
  refine FZ (nb:=some w.heap.size) (f:=some) (Hn:=Hn) (nH:=nH) (w':=w.alloc (.cells b9 ti.el)) (k:={k2 with ct:=⟨k2.ct.a,fw k2.ct.i⟩}) (W1:=[]) (t:=.l (rl te.sz n (xs.map (Lf.ev ρ))))
   h (show dD M B d up ρ G a w {k2 with ct:=⟨k2.ct.a,fw k2.ct.i⟩} G2 from⟨w3.rel,w3.bm⟩) hn (hM _ (by show ct.i<=fw k2.ct.i;rw[kY];exact jy) (by rw[pV];show fw k2.ct.i<_;rw[kY];omega)) (λr=>by exact vT (k:=k2) r) (λr u hu=>by cases hu) (λl _=>rfl) (λl l' ⟨b,hb⟩ he=>by cases he;exact .inl (w2.rel.iG b _ hb).1)
   (λl l' hq he=>by cases he;exact hq) (λc hc=>by cases hc;exact .inl rfl) (by simp) (λc hc=>by cases hc;simp) (λb hb _=>heap_alloc_old w _ b hb) (FQ _ _) rfl pn ?_ iN
  have hlen:(rl te.sz n (xs.map (Lf.ev ρ))).length=n:=LB _ _ _
  have qz:∀b,b<w.heap.size->G2.q b=none->(G2.dP (some w.heap.size) (fw k2.ct.i) some Hn nH).q b=none∧(w.alloc (.cells b9 ti.el)).heap[b]?=w.heap[b]?:=by
   intro b hb h0
   have dH:some w.heap.size≠some b:=by simp;omega
   exact⟨FY (λl l' hq he=>by cases he;exact hq) dH h0,heap_alloc_old w _ b hb⟩
  have wU:∀(ii j:Nat) (t:T),d_ (rl te.sz n (xs.map (Lf.ev ρ))) ii j=some t->ii<n∧j<te.sz∧∃v,b9[ii*te.sz+j]?=some v∧fm G2.q w t v∧(dp=true->∀ys,t=.l ys->t=.l []∧v=.slice none 0 0):=by
   intro ii j t ht
   obtain⟨rr,_,hm,JG,q1,q2⟩:=xL ht
   rw[hlen]at q1
   rw[BM _ _ _ BQ rr hm]at q2
   rw[LA _ _ _ _ _ BQ q1 q2]at ht
   obtain⟨zc,v,c1,c2,c3,c4⟩:=b3 _ t ht
   refine⟨q1,q2,v,by simpa using c2,c3,λgR ys TU=>?_⟩
   subst gR
   cases hzn:fT zc with
   |true=>exact c4 rfl hzn
   |false=>
    have:=BN _ _ uR (ii*te.sz+j) t (by simp[c1,hzn]) ht
    subst TU
    simp[eQ]at this
  refine .l (wd:=te.sz) (cv:=λii j=>b9.getD (ii*te.sz+j) undef) (by rw[hlen];simp[Gh.dP,Hn]) ⟨by rw[hlen];exact Nat.le_refl _,λhe=>by have:=congrArg List.length he;rw[hlen]at this;simpa using this⟩ (by simp[Gh.dP]) (heap_alloc_new w _) y_ (BM _ _ _ BQ) ?_ ?_ ?_ ?_ ?_
  ·intro ii j t ht
   obtain⟨q1,q2,v,q3,_⟩:=wU ii j t ht
   simp[Array.getD_eq_getD_getElem?,q3]
  ·intro ii j v ht
   obtain⟨q1,q2,u,q3,q4,_⟩:=wU ii j _ ht
   obtain⟨rfl,hs⟩:=q4.scalar
   exact⟨by simp[Array.getD_eq_getD_getElem?,q3],hs⟩
  ·intro ii j ys ht gR
   obtain⟨q1,q2,u,q3,q4,_⟩:=wU ii j _ ht
   have:=q4.bm (by simp) qz
   simpa[Array.getD_eq_getD_getElem?,q3]using this
  ·intro ii j ys ht gR
   obtain⟨q1,q2,u,q3,q4,q5⟩:=wU ii j _ ht
   obtain⟨_,rfl⟩:=q5 gR ys rfl
   simp[Array.getD_eq_getD_getElem?,q3,Gh.dP,Hn]
  ·intro ii j ys ht gR
   obtain⟨q1,q2,u,q3,q4,q5⟩:=wU ii j _ ht
   obtain⟨e1,rfl⟩:=q5 gR ys rfl
   cases e1
   exact .nil (by simp[Gh.dP,Hn])
theorem TV{t:TypeId}{cs:Array Value}{off:Nat}{v:Value}(ht:(∃k,P.underlying t=some (.int k))∨P.underlying t=some .bool∨P.underlying t=some .string)(hv:cs[off]?=some v):
  (part t cs off).run P w=.ok v w:=by
 have od:(isAgg t).run P w=.ok false w:=by
  rcases ht with⟨k,ht⟩|ht|ht<;>simp[isAgg,run_underlying ht]
 simp[part,od,hv]
def FTy(P:Program)(t:TypeId)(k:Nat):Prop:=(k=1∧∃i,P.underlying t=some (.int i))∨(k=4∧P.underlying t=some .bool)∨(k=2∧P.underlying t=some .string)
theorem aiB{d:Nat}{t:TypeId}{k:Nat}{x y:Value}{b:Bool}(ht:FTy P t k)(h:Ro k x y=some b):(Op.equalIn (d+1) t x y).run P w=.ok b w:=by
 unfold Ro at h
 split at h
 ·rename_i k a k' b'
  obtain⟨_,i,hu⟩:=ht.resolve_right (by simp)
  split at h
  ·rename_i hk;subst hk;cases h
   exact run_equalIn_int w d t _ _ _ _ hu
  ·cases h
 ·cases h
  have hu:P.underlying t=some .bool:=by rcases ht with⟨h,_⟩|⟨_,h⟩|⟨h,_⟩<;>simp_all
  exact run_equalIn_bool' w d t _ _ hu
 ·cases h
  have hu:P.underlying t=some .string:=by rcases ht with⟨h,_⟩|⟨h,_⟩|⟨_,h⟩<;>simp_all
  rw[run_equalIn_string w d t _ _ hu,<-beq_toListBytes]
 ·cases h
theorem aiC{i:Nat}{z:Ce}{zs:List Ce}{f:Field}{fs:List Field}(h:sO P i (z::zs) (f::fs)=true):f.offset=i∧f.name≠"_"∧FTy P f.type (my z)∧sO P (i+1) zs fs=true:=by
 simp only[sO,bD,decide_eq_true_eq]at h
 obtain⟨⟨⟨h1,h2⟩,h3⟩,h4⟩:=h
 refine⟨ef h1,h2,?_,h4⟩
 split at h3
 ·rename_i k hu;exact .inl ⟨ef h3,k,hu⟩
 ·rename_i hu;exact .inr (.inl ⟨ef h3,hu⟩)
 ·rename_i hu;exact .inr (.inr ⟨ef h3,hu⟩)
 ·cases h3
theorem TW{d:Nat}{xs ys:Array Value}:∀{fs:List Field} {zs:List Ce} {i:Nat} {us vs:List T} {b:Bool},sO P i zs fs=true->xH (zs.map my) us vs=some b->
  (∀(j:Nat) (v:Value),us[j]?=some (.c v)->xs[i+j]?=some v)->(∀(j:Nat) (v:Value),vs[j]?=some (.c v)->ys[i+j]?=some v)->(Op.eqFields (d+1) xs ys fs).run P w=.ok b w
 | [],[],i,[],[],b,_,h,_,_=>by simp[xH]at h;subst h;rfl
 | [],[],i,[],_::_,b,_,h,_,_=>by simp[xH]at h
 | [],[],i,_::_,vs,b,_,h,_,_=>by simp[xH]at h
 | [],_::_,i,us,vs,b,hf,h,_,_=>by simp[sO]at hf
 |_::_,[],i,us,vs,b,hf,h,_,_=>by simp[sO]at hf
 |f::fs,z::zs,i,[],vs,b,hf,h,_,_=>by simp[xH]at h
 |f::fs,z::zs,i,.l _::us,vs,b,hf,h,_,_=>by simp[xH]at h
 |f::fs,z::zs,i,.c x::us,[],b,hf,h,_,_=>by simp[xH]at h
 |f::fs,z::zs,i,.c x::us,.l _::vs,b,hf,h,_,_=>by simp[xH]at h
 |f::fs,z::zs,i,.c x::us,.c y::vs,b,hf,h,hx,hy=>by
  obtain⟨h1,h2,h3,h4⟩:=aiC hf
  simp only[List.map_cons,xH,cN,bG]at h
  obtain⟨b1,mH,b2,pw,rfl⟩:=h
  have ht:(∃k,P.underlying f.type=some (.int k))∨P.underlying f.type=some .bool∨P.underlying f.type=some .string:=by
   rcases h3 with⟨_,h⟩|⟨_,h⟩|⟨_,h⟩
   ·exact .inl h
   ·exact .inr (.inl h)
   ·exact .inr (.inr h)
  have p1:=TV (P:=P) (w:=w) ht (show xs[f.offset]?=some x by rw[h1];exact hx 0 x rfl)
  have p2:=TV (P:=P) (w:=w) ht (show ys[f.offset]?=some y by rw[h1];exact hy 0 y rfl)
  have ih:=TW (d:=d) (xs:=xs) (ys:=ys) h4 pw (λj v hj=>by have:=hx (j+1) v (by simpa using hj);rw[<-this];congr 1;omega) (λj v hj=>by have:=hy (j+1) v (by simpa using hj);rw[<-this];congr 1;omega)
  simp only[Op.eqFields,h2,ne_eq,not_false_iff,if_true,Sem.run_bind]
  rw[p1]
  simp only[Result.andThen_ok]
  rw[p2]
  simp only[Result.andThen_ok,aiB h3 mH]
  cases b1
  ·rfl
  ·exact ih
theorem TX{cs:List Ce}{k k1:Wk}{xs:List Lf}{G1:Gh}{vs:List Value}(h:k.jB cs=some (k1,xs))(hd:k1.bJ S ρ)(hr:bk G1 w ρ cs vs)(hk:dD M B d up ρ G a w k G1):
  (xs.map (Lf.ev ρ)).length=cs.length∧∀(j:Nat) (v:Value),(xs.map (Lf.ev ρ))[j]?=some (.c v)->vs[j]?=some v:=by
 obtain⟨ts,e1,e2,_,e4⟩:=Wk.hZ h hd hr hk
 refine⟨by rw[List.length_map,e4,hr.length],λj v hj=>?_⟩
 rw[e1]at hj
 have bf:j<vs.length:=by rw[<-e2.length];exact(List.getElem?_eq_some_iff.1 hj).1
 have:=(e2.get j _ vs[j] hj (List.getElem?_eq_getElem bf)).scalar
 rw[List.getElem?_eq_getElem bf,this.1]
theorem aiD(ek:eL P cx)(h:Rel M B d up s ρ G a w)(hn:∀n,o.dst=some n->n<a.tmps.size){op:BinOp}{t yt:TypeId}{x y:Operand}(ho:o.op=.binOp op t x y yt)
  {es bs:List Ce}(y8:cn d (Wk.get ⟨s.only R,[],ct,[]⟩) x=.v true es)(FK:cn d (Wk.get ⟨s.only R,[],ct,[]⟩) y=.v true bs)
  (hk:jf cx cJ fA d o oi ⟨s.only R,[],ct,[]⟩=some k')(hd:k'.bJ S ρ):bV P M B d up ρ a w s o k'.w Q∧k'.ct.i=ct.i:=by
 have hw:=dD.start h R ct
 simp only[jf,ho,y8,FK,cN]at hk
 obtain⟨ti,f_,hk⟩:=hk
 cases hc:(Nat.beq ti.kd 5&&Nat.beq es.length ti.sz)with
 |false=>simp[hc]at hk
 |true=>
  simp only[hc,cond_true,cN]at hk
  simp only[bD]at hc
  have hT:=ek.ty _ _ f_
  obtain⟨fs,hu,vO,hp,hg,hef⟩:=hT.eq (ef hc.1)
  have ED:=ef hc.2
  obtain⟨xO,uS⟩:=hw.iV x
  obtain⟨KW,hmy⟩:=hw.iV y
  rw[y8]at xO
  rw[FK]at KW
  obtain⟨us,TY,rv⟩:=xO
  obtain⟨vs,pU,pn⟩:=KW
  obtain⟨⟨k1,r1⟩,RC,qD⟩:=hk
  simp only[SJ,cN]at RC
  obtain⟨⟨k2,xs⟩,h1,⟨k3,ys⟩,h2,RC⟩:=RC
  simp only at RC
  have nv:=Wk.hY h1
  have oB:=Wk.hY h2
  have hfo:P.fieldsOf t=fs:=by simp[Program.fieldsOf,hu]
  have LD:∀op,(eqGuard op t x y (.agg us.toArray) (.agg vs.toArray)).run P w=.ok () w:=λop=>run_eqGuard_agg w op t x y _ _ hg
  have key:(k3.em (.uw (ti.zero.map my)) (xs++ys)).1.bJ S ρ->∃b,(k3.em (.uw (ti.zero.map my)) (xs++ys)).2.fW ρ=some (.c (.bool b))∧(Op.equalIn 10000 t (.agg us.toArray) (.agg vs.toArray)).run P w=.ok b w:=by
   intro Aw
   obtain⟨F2,r,hr,LF⟩:=Wk.bX Aw
   obtain⟨l2,g2⟩:=TX h2 F2 pn (hw.same nv)
   obtain⟨l1,g1⟩:=TX h1 (Wk.lL h2 F2) rv hw
   simp only[Prim.ev,List.map_append,List.length_map]at hr
   have hz:ti.zero.length=(xs.map (Lf.ev ρ)).length:=by rw[l1,ED,hT.FI]
   rw[hz,List.take_left,List.drop_left]at hr
   obtain⟨b,hb,hr⟩:=Option.bind_eq_some_iff.1 hr
   cases hr
   refine⟨b,LF,?_⟩
   rw[run_equalIn_struct w 9999 t _ _ (by rw[hfo];exact hu) hp,hfo]
   exact TW (d:=9998) hef hb (λj v hj=>by simpa using g1 j v hj) (λj v hj=>by simpa using g2 j v hj)
  have fin:∀(kk:Wk) (y1:Lf) (b:Bool),ca d o kk (.v false [.p y1])=k'->dD M B d up ρ G a w kk G->kk.ct.i=ct.i->y1.fW ρ=some (.c (.bool b))->
    ((do eqGuard op t x y (a.eval x) (a.eval y);binOp op t (a.eval x) (a.eval y):Sem Value)).run P w=.ok (.bool b) w->bV P M B d up ρ a w s o k'.w Q∧k'.ct.i=ct.i:=by
   intro kk y1 b hp vQ hi hv hr
   subst hp
   refine⟨sP h vQ hn ?_ (FJ (v:=.bool b) hv rfl) (λi hi=>by simp[dA,dV]at hi) Q,by rw[nu];exact hi⟩
   unfold execOp
   rw[ho]
   show Sem.run P (do let v <-(do eqGuard op t x y (a.eval x) (a.eval y);binOp op t (a.eval x) (a.eval y):Sem Value);pure (Next.value v)) w=_
   rw[Sem.run_bind,hr];rfl
  have vQ:=((hw.same nv).same oB).same (Wk.bR k3 (.uw (ti.zero.map my)) (xs++ys))
  have kY:(k3.em (.uw (ti.zero.map my)) (xs++ys)).1.ct.i=ct.i:=by rw[(Wk.bR _ _ _).i,oB.i,nv.i]
  have hpd:∀{kk:Wk} {y1:Lf},ca d o kk (.v false [.p y1])=k'->kk.bJ S ρ:=λhp=>by rw[<-hp]at hd;exact cX.1 hd
  cases op<;>simp only at RC<;>try cases RC
  ·have hp:ca d o (k3.em (.uw (ti.zero.map my)) (xs++ys)).1 (.v false [.p (k3.em (.uw (ti.zero.map my)) (xs++ys)).2])=k':=Option.some.inj qD
   obtain⟨b,hb,eR⟩:=key (hpd hp)
   refine fin _ _ b hp vQ kY hb ?_
   rw[TY,pU,Sem.run_bind,LD]
   simp only[Result.andThen_ok]
   rw[run_eql_struct,eR];rfl
  ·have hp:ca d o ((k3.em (.uw (ti.zero.map my)) (xs++ys)).1.em (.un .not) [(k3.em (.uw (ti.zero.map my)) (xs++ys)).2]).1 (.v false [.p ((k3.em (.uw (ti.zero.map my)) (xs++ys)).1.em (.un .not) [(k3.em (.uw (ti.zero.map my)) (xs++ys)).2]).2])=k':=Option.some.inj qD
   obtain⟨Aw,r,hr,LF⟩:=Wk.bX (hpd hp)
   obtain⟨b,hb,eR⟩:=key Aw
   simp only[List.map_cons,List.map_nil,Lf.bW hb,Prim.ev,T.val,Option.bind_some,unV,bG]at hr
   subst hr
   refine fin _ _ (!b) hp (vQ.same (Wk.bR _ _ _)) (by rw[(Wk.bR _ _ _).i];exact kY) LF ?_
   rw[TY,pU,Sem.run_bind,LD]
   simp only[Result.andThen_ok]
   rw[run_neq_struct,eR];rfl
end
def Gh.stored(G:Gh)(id i off n:Nat)(mv:Mv):Gh where
 ω:=λc=>match G.ω c with
  |some (.o j p)=>if j=id then(match p with
    | []=>some (.o id [])
    |(r,k)::p=>if r=i∧off<=k∧k<off+n then none else some (.o id ((r,k)::p)))
   else(match lm mv j with
    |some q=>some (.o id ((i,off+q)::p))
    |none=>some (.o j p))
  |l=>l
 β:=G.β
 H:=λj p=>if j=id then(match p with
   | []=>G.H id []
   |(r,k)::p=>if r=i∧off<=k∧k<off+n then(match h_ mv (k-off)with
     |some j2=>G.H j2 p
     |none=>.slice none 0 0)
    else G.H id ((r,k)::p))
  else G.H j p
 hs:=λj p=>by
  by_cases hj:j=id
  ·simp only[hj,if_true]
   cases p with
   |nil=>exact G.hs id []
   |cons x p=>
    obtain⟨r,k⟩:=x
    by_cases hc:r=i∧off<=k∧k<off+n
    ·simp only[if_pos hc]
     cases h_ mv (k-off)with
     |none=>exact⟨_,_,_,rfl⟩
     |some j2=>exact G.hs j2 p
    ·simp only[if_neg hc];exact G.hs id _
  ·simp only[hj,if_false];exact G.hs j p
section
variable {M:Nat->Prop} {B:e_} {d:Nat} {up:Nat->Nat->Value} {ρ:List T} {G:Gh} {a:Act} {w:World} {S:Nat->af} {P:Program}
variable {cx:Cx} {cJ fA oi:Nat} {s:St} {R:List bE} {ct:Ct} {k':Wk} {o:Oper} {Q:Exit->Act->World->Prop}
theorem Gh.zm{G:Gh}{id i off n:Nat}{mv:Mv}(jy:id%4=0){c:Nat}{l:Lb}(hl:G.ω c=some l)(hq:qt l=true):
  (G.stored id i off n mv).ω c=none∨∃l',(G.stored id i off n mv).ω c=some l'∧qt l'=true:=by
 cases l with
 |o j p=>
  simp only[Gh.stored,hl]
  by_cases hj:j=id
  ·subst hj
   rw[if_pos rfl]
   cases p with
   |nil=>exact absurd hq (by rw[sJ (by omega)];simp)
   |cons x p=>
    obtain⟨r,k⟩:=x
    simp only
    split
    ·exact .inl rfl
    ·exact .inr ⟨_,rfl,hq⟩
  ·rw[if_neg hj]
   cases lm mv j with
   |some q=>exact .inr ⟨_,rfl,wN (by omega) (by simp)⟩
   |none=>exact .inr ⟨_,rfl,hq⟩
 |_=>simp[qt]at hq
theorem aiE{x ix:Lf}{ms:List Bool}{wd off i:Nat}{xs:List (List T)}{ts:List T}{t:T}(hx:x.fW ρ=some (.l xs))(hi:mf ρ ix=some i)
  (h:Prim.ev (.gH ms wd off) (x.ev ρ::ix.ev ρ::ts)=some t):∃r,xs[i]?=some r∧r.length=wd∧off+ts.length<=r.length∧r9 ms ts=true∧t=.l (setRow xs i off ts):=by
 obtain⟨k,hk⟩:=yX hi
 rw[Lf.bW hx,hk]at h
 simp only[Prim.ev,Bg,T.rows,T.int,Option.bind_some,Int.toNat_natCast]at h
 cases hr:xs[i]? with
 |none=>simp[hr]at h
 |some r=>
  simp only[hr,Option.bind_some]at h
  split at h
  ·rename_i g1
   split at h
   ·rename_i g2
    split at h
    ·rename_i g3
     simp only[bG]at h
     exact⟨r,rfl,g1,by omega,g3,h.symm⟩
    ·cases h
   ·cases h
  ·cases h
theorem aiF(ek:eL P cx)(h:Rel M B d up s ρ G a w)(hn:∀n,o.dst=some n->n<a.tmps.size){t:Nat}{x y:Operand}(ho:o.op=.store t x y)
  (hk:∃k1,KA cx ⟨s.only R,[],ct,[]⟩ t (cn d (Wk.get ⟨s.only R,[],ct,[]⟩) x) (cn d (Wk.get ⟨s.only R,[],ct,[]⟩) y)=some k1∧ca d o k1 .un=k')(hd:k'.bJ S ρ):bV P M B d up ρ a w s o k'.w Q∧k'.ct.i=ct.i:=by
 have hw:=dD.start h R ct
 obtain⟨k1,cf,rfl⟩:=hk
 have fR:=cX.1 hd
 unfold KA at cf
 split at cf
 ·rename_i id ix wd off hx
  simp only[cN]at cf
  obtain⟨ti,f_,cs,kZ,cf⟩:=cf
  cases hl:(Nat.beq cs.length ti.sz&&ti.zero.any fT&&Nat.beq (id%4) 0)with
  |false=>simp[hl]at cf
  |true=>
   simp only[hl,cond_true]at cf
   simp only[bD]at hl
   have hlen:=ef hl.1.1
   have jy:id%4=0:=ef hl.2
   split at cf
   ·rename_i x0 EE
    simp only[cN]at cf
    obtain⟨⟨k2,xs⟩,ln,cf⟩:=cf
    simp only at cf
    split at cf
    ·rename_i x1 TZ
     simp only[bG]at cf
     subst cf
     obtain⟨hr,hm⟩:=hw.iV y
     obtain⟨xO,_⟩:=hw.iV x
     rw[hx]at xO
     obtain⟨p,b,n,cap,i,hp,hH,hi,km,aiG⟩:=xO
     simp only[mD,bG]at hp
     subst hp
     unfold cellsOf at kZ
     split at kZ
     ·rename_i ag es0 eo
      cases kZ
      rw[eo]at hr hm
      have tW:=Tc hr
      have p_:=tW.length
      have hvl:(a.eval y).cells.toList.length=ti.sz:=by rw[<-p_,hlen]
      obtain⟨a1,a2,a3,a4,mv,W1,a5,a6,a7,a8,a9⟩:=RA hw (show ll ⟨s.only R,[],ct,[]⟩ ⟨s.only R,[],ct,[]⟩ [] from⟨rfl,λr=>by simp[St.look]⟩) (λr u h=>by cases h) tW hm ln 0
      rw[List.append_nil]at a5
      have eH:=hw.obj id
      rw[EE]at eH
      obtain⟨tt,Av,bU⟩:=eH
      have xV:W1.look (.o id)=none:=by
       cases hl:W1.look (.o id)with
       |none=>rfl
       |some u=>
        obtain⟨_,j,_,rfl,_,_⟩:=a7 _ _ hl
        have:k2.get (.o id)=.un:=by unfold Wk.get;rw[a5.2,hl];simp
        rw[this]at TZ;cases TZ
      have T0:∀q j,(q,j)∈mv->j≠id:=by
       intro q j hq he
       subst he
       have:=(a6 q j hq).2.2.1
       rw[xV]at this;cases this
      have aAQ:lm mv id=none:=by
       cases hm:lm mv id with
       |none=>rfl
       |some q=>exact absurd rfl (T0 q id (F4 hm))
      obtain⟨aAR,t',jP,EA⟩:=Wk.bX fR
      cases bU with
      |nil sW=>rw[hH]at sW;cases sW
      | @l _ _ rows b' FM za b9 elem cv g1 g2 g3 g4 g5 g6 g7 g8 g9 zb FN=>
       rw[hH]at g1
       cases g1
       simp only[List.map_cons]at jP
       obtain⟨r,pu,rK,EB,uR,rfl⟩:=aiE Av hi jP
       have tZ:=a9 mv (λ_ _=>rfl) λj t ⟨xx,hxx,ht⟩ s5=>by
        refine BN _ _ uR j t ?_ ?_
        ·cases BR:ti.zero[j]? with
         |none=>rw[BR]at s5;cases s5
         |some zc=>rw[BR]at s5;simp at s5;simp[BR,s5]
        ·rw[List.getElem?_map,hxx];simp[Lf.bW ht]
       obtain⟨b1,b3⟩:=tZ.at
       have rL:r.length=FM:=g6 r (List.mem_of_getElem? pu)
       have rq:wd=FM:=by rw[<-rK,rL]
       subst rq
       have qw:(xs.map (Lf.ev ρ)).length=(a.eval y).cells.toList.length:=by rw[List.length_map,b1]
       have hT:=ek.ty _ _ f_
       have hib:i<rows.length:=(List.getElem?_eq_some_iff.1 pu).1
       have lJ:i*wd+off+(a.eval y).cells.toList.length<=b9.size:=by
        rw[g5]
        have:(i+1)*wd<=cap*wd:=Nat.mul_le_mul_right _ (by omega)
        rw[Nat.add_mul]at this
        omega
       have eR:=jL_ (P:=P) (t:=t) hT (b:=b) (off:=i*wd+off) (v:=a.eval y) (by rw[<-hvl];simp) g4 (by simpa using lJ) (λu hu=>tW.one u hu)
       rw[<-aiG]at eR
       have iN:=FU (P:=P) ho eR
       generalize T1:(b9.toList.take (i*wd+off)++(a.eval y).cells.toList++b9.toList.drop (i*wd+off+(a.eval y).cells.toList.length)).toArray=lk at iN
       have BS:lk=zf (a.eval y).cells.toList (i*wd+off) b9:=by
        rw[<-T1]
        exact Array.ext' (by rw[ku_ _ _ _ lJ])
       have uI:∀k,lk[k]?=if i*wd+off<=k∧k<i*wd+off+(a.eval y).cells.toList.length then(a.eval y).cells.toList[k-(i*wd+off)]? else b9[k]?:=λk=>by rw[BS];exact Rs _ _ _ _ lJ
       have uT:M id:=(hw.rel.iG b _ g3).1
       have F5:∀i' j' ,i'<rows.length->j'<wd->((i*wd+off<=i'*wd+j'∧i'*wd+j'<i*wd+off+(a.eval y).cells.toList.length)↔(i'=i∧off<=j'∧j'<off+(a.eval y).cells.toList.length)):=by
        intro i' j' eg vU
        rw[qw]at EB
        constructor
        ·rintro⟨h1,h2⟩
         have sN:i'=i:=by
          rcases Nat.lt_trichotomy i' i with bf|heq|Li
          ·have:(i'+1)*wd<=i*wd:=Nat.mul_le_mul_right _ bf
           rw[Nat.add_mul]at this;omega
          ·exact heq
          ·have:(i+1)*wd<=i'*wd:=Nat.mul_le_mul_right _ Li
           rw[Nat.add_mul]at this;omega
         subst sN
         exact⟨rfl,by omega,by omega⟩
        ·rintro⟨rfl,h1,h2⟩
         omega
       let ts:=xs.map (Lf.ev ρ)
       let G':=G.stored id i off (a.eval y).cells.toList.length mv
       have hK:dF (pk (fN d o .un++((bE.o id,SV.ob true (k2.em (.gH (ti.zero.map λz=>!fT z) wd off) (x0::ix::xs)).2)::W1))) (λ_=>False) G w G' (w.setRow b lk):=by
        have jQ:∀j p,¬pk (fN d o .un++((bE.o id,SV.ob true (k2.em (.gH (ti.zero.map λz=>!fT z) wd off) (x0::ix::xs)).2)::W1)) (.o j p)->j≠id∧lm mv j=none:=by
         intro j p hj
         constructor
         ·intro e
          subst e
          refine hj ?_
          show St.look _ (bE.o j)≠none
          rw[mG]
          intro e
          have:=(Option.or_eq_none_iff.1 e).2
          simp[St.look,bE.beq]at this
         ·cases hm:lm mv j with
          |none=>rfl
          |some q=>
           exfalso
           refine hj ?_
           show St.look _ (bE.o j)≠none
           rw[mG]
           intro e
           have h1:=(Option.or_eq_none_iff.1 e).2
           have h2:=(a6 q j (F4 hm)).2.2.1
           simp only[St.look]at h1
           cases hb:(bE.o id).beq (.o j)with
           |true=>rw[hb]at h1;cases h1
           |false=>rw[hb]at h1;simp only[cond_false]at h1;rw[h2]at h1;cases h1
        refine⟨by rw[JH];exact Nat.le_refl _,λc hc h0=>⟨uB h0 (λh1=>by simp[G',Gh.stored,h1]) λl hl hq=>?_,setRow_other _ _ _ _ λe=>?_⟩,λc hc h0=>by simp[G',Gh.stored,h0],λc l hc hn=>⟨?_,setRow_other _ _ _ _ λe=>?_⟩,λj _=>⟨rfl,λp hp=>?_⟩⟩
        ·exact Gh.zm (by omega) hl hq
        ·subst e;exact wK g3 (sJ (by omega)) h0
        ·cases l with
         |f=>simp[G',Gh.stored,hc]
         |x j=>simp[G',Gh.stored,hc]
         |o j p=>obtain⟨h1,h2⟩:=jQ j p hn;simp[G',Gh.stored,hc,h1,h2]
        ·subst e
         rw[g3]at hc
         cases hc
         exact(jQ id [] hn).1 rfl
        ·by_cases hj:j=id
         ·subst hj
          rcases hp with rfl|hp|hp
          ·simp[G',Gh.stored]
          ·omega
          ·exact absurd rfl (jQ j [] (hp [])).1
         ·simp[G',Gh.stored,hj]
       refine⟨?_,by rw[nu];show k2.ct.i=ct.i;rw[a1]⟩
       simp only[bV,Oper.wp,iN,Oper.upon]
       have hWk:∀r',(ca d o ((k2.em (.gH (ti.zero.map λz=>!fT z) wd off) (x0::ix::xs)).1.set (.o id) (.ob true (k2.em (.gH (ti.zero.map λz=>!fT z) wd off) (x0::ix::xs)).2)) .un).w.look r'=
         (St.look (fN d o .un++((bE.o id,SV.ob true (k2.em (.gH (ti.zero.map λz=>!fT z) wd off) (x0::ix::xs)).2)::W1)) r').or (St.look (Wk.w ⟨s.only R,[],ct,[]⟩) r'):=by
        refine zh (W2:=(bE.o id,SV.ob true (k2.em (.gH (ti.zero.map λz=>!fT z) wd off) (x0::ix::xs)).2)::W1) (λr'=>?_)
        rw[show((k2.em (.gH (ti.zero.map λz=>!fT z) wd off) (x0::ix::xs)).1.set (.o id) (.ob true (k2.em (.gH (ti.zero.map λz=>!fT z) wd off) (x0::ix::xs)).2)).w.look r'=_ from vT r']
        rw[show(k2.em (.gH (ti.zero.map λz=>!fT z) wd off) (x0::ix::xs)).1.w.look r'=k2.w.look r' from rfl,a5.2 r',<-Option.or_assoc]
        congr 1
        simp only[St.look]
        cases(bE.o id).beq r'<;>simp
       refine⟨G',K_ h hw (W2:=fN d o .un++((bE.o id,SV.ob true (k2.em (.gH (ti.zero.map λz=>!fT z) wd off) (x0::ix::xs)).2)::W1)) hWk hK (λi hi=>hi.elim) (λi hi=>hi) (λn pA=>Lc pA) (Lk _ _ _) ?_,Bj _ _ _⟩
       have BT:∀c,c≠b->(w.setRow b lk).heap[c]?=w.heap[c]?:=λc hc=>setRow_other _ _ _ _ hc
       have T2:(w.setRow b lk).heap[b]?=some (.cells lk elem (0,0)):=setRow_heap _ _ _ _ _ _ g4
       have T3:fB G' (w.setRow b lk) id true [] (.l (setRow rows i off ts)):=by
        have LG:=λi' j'=>Le (xs:=rows) (ts:=ts) pu EB i' j'
        have RD:ts.length=(a.eval y).cells.toList.length:=qw
        refine .l (wd:=wd) (cv:=λi' j'=>lk.getD (i'*wd+j') undef) (by rw[Ez];simpa[G',Gh.stored]using hH) ⟨by rw[Ez];exact g2.1,λhe=>g2.2 (by have:=congrArg List.length he;rw[Ez]at this;exact List.eq_nil_of_length_eq_zero this)⟩ (by simp[G',Gh.stored,g3]) T2
         (by rw[BS,Rr];exact g5) (Th g6 pu EB) ?_ ?_ (λ_ _ _ _ hf=>by cases hf) ?_ ?_
        all_goals
         intro i' j'
         have lp:∀t,d_ (setRow rows i off ts) i' j'=some t->i'<rows.length∧j'<wd:=by
          intro t ht
          obtain⟨rr,_,iX,_,q1,q2⟩:=xL ht
          rw[Ez]at q1
          exact⟨q1,by rw[<-Th g6 pu EB rr iX];exact q2⟩
        ·intro t ht
         obtain⟨q1,q2⟩:=lp t ht
         have bf:i'*wd+j'<lk.size:=by
          rw[BS,Rr,g5]
          exact Nat.lt_of_lt_of_le (BE q1 q2) (Nat.mul_le_mul_right _ g2.1)
         simp[Array.getD_eq_getD_getElem?,bf]
        ·intro v ht
         obtain⟨q1,q2⟩:=lp _ ht
         rw[LG]at ht
         rw[Array.getD_eq_getD_getElem?,uI]
         split at ht
         ·rename_i hc
          rw[RD]at hc
          rw[if_pos ((F5 i' j' q1 q2).2 hc)]
          obtain⟨u,hu,nL⟩:=b3 (j'-off) _ ht
          rw[show i'*wd+j'-(i*wd+off)=j'-off by rw[hc.1];omega,hu]
          rcases nL with⟨u',e1,e2,e3⟩|⟨e1,_⟩|⟨_,_,_,e1⟩
          ·cases e1;subst e2;exact⟨rfl,e3⟩
          ·cases e1
          ·cases e1
         ·rename_i hc
          rw[RD]at hc
          rw[if_neg (λhh=>hc ((F5 i' j' q1 q2).1 hh)),g7 i' j' _ ht]
          exact g8 i' j' v ht
        ·intro ys ht _
         obtain⟨q1,q2⟩:=lp _ ht
         rw[LG]at ht
         rw[Array.getD_eq_getD_getElem?,uI]
         split at ht
         ·rename_i hc
          rw[RD]at hc
          rw[if_pos ((F5 i' j' q1 q2).2 hc)]
          obtain⟨u,hu,nL⟩:=b3 (j'-off) _ ht
          rw[show i'*wd+j'-(i*wd+off)=j'-off by rw[hc.1];omega,hu]
          rw[Nat.zero_add]at nL
          rcases nL with⟨u',e1,_⟩|⟨e1,e2,e3⟩|⟨i2,e1,e2,_⟩
          ·cases e1
          ·have wW:i'=i∧off<=j'∧j'<off+(a.eval y).cells.size:=by simpa using hc
           simp[G',Gh.stored,wW,e2,e3]
          ·have wW:i'=i∧off<=j'∧j'<off+(a.eval y).cells.size:=by simpa using hc
           simp[G',Gh.stored,wW,e2,e1]
         ·rename_i hc
          rw[RD]at hc
          rw[if_neg (λhh=>hc ((F5 i' j' q1 q2).1 hh)),g7 i' j' _ ht]
          have:=zb i' j' ys ht rfl
          simp only[List.nil_append]at this
          simp only[Option.getD_some,this,List.nil_append]
          show _=(if id=id then _ else _)
          rw[if_pos rfl]
          simp only[if_neg hc]
        ·intro ys ht _
         obtain⟨q1,q2⟩:=lp _ ht
         rw[LG]at ht
         split at ht
         ·rename_i hc
          rw[RD]at hc
          obtain⟨u,hu,nL⟩:=b3 (j'-off) _ ht
          rw[Nat.zero_add]at nL
          rcases nL with⟨u',e1,_⟩|⟨e1,e2,e3⟩|⟨i2,e1,e2,e3⟩
          ·cases e1
          ·cases e1
           have wW:i'=i∧off<=j'∧j'<off+(a.eval y).cells.size:=by simpa using hc
           exact .nil (by simp[G',Gh.stored,wW,e3])
          ·have pD:=(a8 _ i2 (BO e1)).2
           have dH:=T0 _ i2 (BO e1)
           refine e3.move rfl (λc q jX=>?_) λq=>?_
           ·simp only[List.nil_append]at jX
            refine⟨?_,BT c λe=>?_⟩
            ·simp only[G',Gh.stored,jX,if_neg dH,pD]
             rw[hc.1,show off+(j'-off)=j' by omega]
             rfl
            ·subst e;rw[g3]at jX;cases jX;exact dH rfl
           ·simp only[G',Gh.stored,List.nil_append,List.cons_append,if_true,if_pos hc,e1]
         ·rename_i hc
          rw[RD]at hc
          have:=FN i' j' ys ht rfl
          simp only[List.nil_append]at this⊢
          refine this.move rfl (λc q jX=>?_) λq=>?_
          ·refine⟨?_,BT c λe=>?_⟩
           ·simp only[List.cons_append,List.nil_append]at jX⊢
            simp only[G',Gh.stored,jX,if_true,if_neg hc]
           ·subst e;rw[g3]at jX;cases jX
          ·simp only[G',Gh.stored,List.cons_append,List.nil_append,if_true,if_neg hc]
       refine⟨λe n u he hl=>?_,λb u hl=>?_,λj u hl=>?_,λr u hl j hj=>?_,λj hj=>?_,λc l hc=>?_⟩
       ·rcases lK hl with⟨n',iW,e1,rfl⟩|hl
        ·trivial
        ·rcases j8 hl with⟨e1,_⟩|hl
         ·cases e1
         ·obtain⟨_,j,e1,_⟩:=a7 _ _ hl;cases e1
       ·rcases lK hl with⟨n',iW,e1,rfl⟩|hl
        ·cases e1
        ·rcases j8 hl with⟨e1,_⟩|hl
         ·cases e1
         ·obtain⟨_,j,e1,_⟩:=a7 _ _ hl;cases e1
       ·rcases lK hl with⟨n',iW,e1,rfl⟩|hl
        ·cases e1
        ·rcases j8 hl with⟨e1,rfl⟩|hl
         ·cases e1;exact⟨_,EA,T3⟩
         ·obtain⟨_,j',e1,rfl,_⟩:=a7 _ _ hl;trivial
       ·rcases lK hl with⟨n',iW,e1,rfl⟩|hl
        ·simp[dA]at hj
        ·rcases j8 hl with⟨e1,rfl⟩|hl
         ·simp[dA]at hj
         ·obtain⟨_,j',e1,rfl,_⟩:=a7 _ _ hl;simp[dA]at hj
       ·have:∀r:bE,(r=.x j∨r=.o j)->St.look (fN d o .un++((bE.o id,SV.ob true (k2.em (.gH (ti.zero.map λz=>!fT z) wd off) (x0::ix::xs)).2)::W1)) r≠none->M j:=by
         intro r hr hl
         obtain⟨u,hu⟩:=Option.ne_none_iff_exists'.1 hl
         rcases lK hu with⟨n',iW,e1,rfl⟩|hl
         ·rcases hr with rfl|rfl<;>cases e1
         ·rcases j8 hl with⟨e1,_⟩|hl
          ·rcases hr with rfl|rfl
           ·cases e1
           ·cases e1;exact uT
          ·obtain⟨_,j',e1,_,hm,_⟩:=a7 _ _ hl
           rcases hr with rfl|rfl
           ·cases e1
           ·cases e1;exact hm
        rcases hj with hj|hj
        ·exact this _ (.inl rfl) hj
        ·exact this _ (.inr rfl) hj
       ·rw[JH]
        cases T4:G.ω c with
        |none=>simp[G',Gh.stored,T4]at hc
        |some l'=>
         have kX:=hw.rel.iG c l' T4
         refine⟨?_,kX.2⟩
         cases l' with
         |f=>simp[G',Gh.stored,T4]at hc;subst hc;exact kX.1
         |x j=>simp[G',Gh.stored,T4]at hc;subst hc;exact kX.1
         |o j p=>
          simp only[G',Gh.stored,T4]at hc
          split at hc
          ·rename_i hj
           subst hj
           split at hc
           ·cases hc;exact uT
           ·split at hc
            ·cases hc
            ·cases hc;exact uT
          ·split at hc
           ·cases hc;exact uT
           ·cases hc;exact kX.1
     ·cases kZ
    ·cases cf
   ·cases cf
 ·cases cf
end
end Go.Proofs.YtjimmglpkndemaaGreatC

/- The walk by reflection: a part of its laws, for any function. Conditions: none. -/
import Derived.Test.YtjimmglpkndemaaGreatKa
import Derived.Laws.Slices
import Derived.Deep.AppendSrc
namespace Go.Proofs.YtjimmglpkndemaaGreatC
set_option linter.unusedVariables false
theorem HU{xs:List (List T)}{i off:Nat}{r ts:List T}(hr:xs[i]?=some r)(hf:off+ts.length<=r.length)(i' j':Nat):
  dr (setRow xs i off ts) i' j'=if i'=i∧off<=j'∧j'<off+ts.length then ts[j'-off]? else dr xs i' j':=by
 unfold dr setRow
 rw[List.getElem?_modify]
 by_cases hi:i=i'
 ·subst hi
  simp only[hr,if_true,Option.map_eq_map,Option.map_some,Option.bind_some,true_and]
  have hl:(r.take off).length=off:=by simp;omega
  by_cases h1:j'<off
  ·rw[if_neg (by omega),List.append_assoc,List.getElem?_append_left (by omega),List.getElem?_take,if_pos h1]
  ·rw[List.append_assoc,List.getElem?_append_right (by omega),hl]
   by_cases h2:j'<off+ts.length
   ·rw[if_pos ⟨by omega,h2⟩,List.getElem?_append_left (by omega)]
   ·rw[if_neg (by omega),List.getElem?_append_right (by omega),List.getElem?_drop]
    congr 1
    omega
 ·rw[if_neg (by omega:¬(i'=i∧_))]
  cases xs[i']? <;>simp[hi]
theorem BE{xs:List (List T)}{i off:Nat}{ts:List T}:(setRow xs i off ts).length=xs.length:=by simp[setRow]
theorem Po{xs:List (List T)}{i off wd:Nat}{r ts:List T}(hw:∀r∈xs,r.length=wd)(hr:xs[i]?=some r)(hf:off+ts.length<=r.length):
  ∀r∈setRow xs i off ts,r.length=wd:=by
 intro r' jc
 obtain⟨n,hn⟩:=List.getElem?_of_mem jc
 unfold setRow at hn
 rw[List.getElem?_modify]at hn
 by_cases hi:i=n
 ·subst hi
  simp only[hr,if_true,Option.map_eq_map,Option.map_some,bc]at hn
  have:=hw r (List.mem_of_getElem? hr)
  subst hn
  simp
  omega
 ·simp only[if_neg hi]at hn
  cases hx:xs[n]? with
  |none=>simp[hx]at hn
  |some r''=>simp[hx]at hn;subst hn;exact hw _ (List.mem_of_getElem? hx)
theorem eg.sib{G:Gh}{w w':World}{id:Nat}{p:List (Nat×Nat)}{t:T}{dp:Bool}(h:eg G w id dp p t)(fA:dp=true)
  (hh:∀c q,G.ω c=some (.o id (p++q))->w'.heap[c]?=w.heap[c]?):eg G w' id dp p t:=by
 induction h with
 |nil h=>exact .nil h
 | @l dp p xs b wd cap bE elem cv h1 h2 h3 h4 h5 h6 h7 h8 h9 lP pK ih=>
  refine .l h1 h2 h3 ((hh b [] (by simpa using h3)).trans h4) h5 h6 h7 h8 (λi j ys hy hd=>by rw[fA]at hd;cases hd) lP λi j ys hy hd=>?_
  exact ih i j ys hy hd rfl λc q hc=>hh c ((i,j)::q) (by simpa using hc)
theorem eg.put{G:Gh}{w w':World}{id:Nat}{dp:Bool}{p:List (Nat×Nat)}{xs:List (List T)}{b n cap:Nat}(h:eg G w id dp p (.l xs))
  (hH:G.H id p=.slice (some ⟨b,0,none⟩) n cap)(C0:qt (.o id p)=false){i off:Nat}{r ts:List T}{vs:List Value}(hr:xs[i]?=some r)(hf:off+ts.length<=r.length)(hl:vs.length=ts.length)
  {bE:Array Value}{elem:TypeId}(hb:w.heap[b]?=some (.cells bE elem (0,0)))
  (ji:w'.heap[b]?=some (.cells (bE.toList.take (i*r.length+off)++vs++bE.toList.drop (i*r.length+off+vs.length)).toArray elem (0,0)))
  (hs:w'.heap.size=w.heap.size)(hh:∀c,c≠b->w'.heap[c]?=w.heap[c]?)
  (hd:∀(j:Nat) (t:T) (v:Value),ts[j]?=some t->vs[j]?=some v->eB G.q w' t v)(lR:dp=true->ts.all eh=true):eg G w' id dp p (.l (setRow xs i off ts)):=by
 cases h with
 |nil F9=>rw[hH]at F9;cases F9
 | @l _ _ _ b2 wd C1 acC Pp cv h1 h2 h3 h4 h5 h6 h7 h8 h9 lP pK=>
  rw[hH]at h1
  cases h1
  rw[hb]at h4
  cases h4
  have hrl:r.length=wd:=h6 r (List.mem_of_getElem? hr)
  rw[hrl]at ji
  have Pq:i<xs.length:=(List.getElem?_eq_some_iff.1 hr).1
  have kQ:i*wd+off+vs.length<=bE.size:=by
   rw[h5]
   have:(i+1)*wd<=cap*wd:=Nat.mul_le_mul_right _ (by omega)
   rw[Nat.add_mul]at this
   omega
  have oY:∀c,c<w.heap.size->G.q c=none->G.q c=none∧w'.heap[c]?=w.heap[c]?:=λc _ hc=>⟨hc,hh c λe=>by subst e;exact sB h3 C0 hc⟩
  let qU:Nat->Nat->Value:=λi' j'=>if i'=i∧off<=j'∧j'<off+ts.length then vs.getD (j'-off) undef else cv i' j'
  have bq:=HU hr hf
  have oZ:∀i' j',j'<wd->(bE.toList.take (i*wd+off)++vs++bE.toList.drop (i*wd+off+vs.length)).toArray[i'*wd+j']? =
    if i'=i∧off<=j'∧j'<off+ts.length then vs[j'-off]? else bE[i'*wd+j']?:=by
   intro i' j' pM
   rw[List.getElem?_toArray,<-jy_ _ _ _ kQ,Array.getElem?_toList,Nv _ _ _ _ kQ]
   have key:(i*wd+off<=i'*wd+j'∧i'*wd+j'<i*wd+off+vs.length)↔(i'=i∧off<=j'∧j'<off+ts.length):=by
    constructor
    ·rintro⟨g1,g2⟩
     have:i'=i:=by
      rcases Nat.lt_trichotomy i' i with a_|he|C2
      ·have:(i'+1)*wd<=i*wd:=Nat.mul_le_mul_right _ a_
       rw[Nat.add_mul]at this
       omega
      ·exact he
      ·have:(i+1)*wd<=i'*wd:=Nat.mul_le_mul_right _ C2
       rw[Nat.add_mul]at this
       omega
     subst this
     exact⟨rfl,by omega,by omega⟩
    ·rintro⟨rfl,g1,g2⟩
     exact⟨by omega,by omega⟩
   by_cases hc:i'=i∧off<=j'∧j'<off+ts.length
   ·rw[if_pos (key.2 hc),if_pos hc]
    congr 1
    obtain⟨rfl,_,_⟩:=hc
    omega
   ·rw[if_neg (λg=>hc (key.1 g)),if_neg hc]
  have inn:∀i' j' t,dr (setRow xs i off ts) i' j'=some t->(i'=i∧off<=j'∧j'<off+ts.length)->∃v,vs[j'-off]?=some v∧qU i' j'=v∧eB G.q w' t v:=by
   intro i' j' t ht hc
   rw[bq,if_pos hc]at ht
   have a_:j'-off<vs.length:=by omega
   refine⟨vs[j'-off],List.getElem?_eq_getElem a_,?_,hd _ _ _ ht (List.getElem?_eq_getElem a_)⟩
   simp[qU,hc,List.getD,List.getElem?_eq_getElem a_]
  have out:∀i' j' t,dr (setRow xs i off ts) i' j'=some t->¬(i'=i∧off<=j'∧j'<off+ts.length)->dr xs i' j'=some t∧qU i' j'=cv i' j':=by
   intro i' j' t ht hc
   rw[bq,if_neg hc]at ht
   exact⟨ht,by simp only[qU,if_neg hc]⟩
  have vI:∀i' j' t,dr (setRow xs i off ts) i' j'=some t->(i'=i∧off<=j'∧j'<off+ts.length)->dp=true->eh t=true:=by
   intro i' j' t ht hc fA
   rw[bq,if_pos hc]at ht
   exact List.all_eq_true.1 (lR fA) t (List.mem_of_getElem? ht)
  refine .l (cv:=qU) (b:=b) (wd:=wd) (cap:=cap) (elem:=elem) (by rw[hH,BE]) (by rw[BE];exact⟨h2.1,λhe=>h2.2 (List.eq_nil_of_length_eq_zero (by rw[<-BE,he];rfl))⟩) h3 ji ?_ (Po h6 hr hf) ?_ ?_ ?_ ?_ ?_
  ·rw[List.size_toArray,<-jy_ _ _ _ kQ,Array.length_toList,HO];exact h5
  ·intro i' j' t ht
   have pM:j'<wd:=by
    obtain⟨r',jc,ic,_,_,a_⟩:=rO ht
    have:=Po h6 hr hf r' ic
    omega
   rw[oZ i' j' pM]
   by_cases hc:i'=i∧off<=j'∧j'<off+ts.length
   ·obtain⟨v,g1,g2,_⟩:=inn i' j' t ht hc
    rw[if_pos hc,g1,g2]
   ·obtain⟨g1,g2⟩:=out i' j' t ht hc
    rw[if_neg hc,g2]
    exact h7 i' j' t g1
  ·intro i' j' v ht
   by_cases hc:i'=i∧off<=j'∧j'<off+ts.length
   ·obtain⟨u,g1,g2,g3⟩:=inn i' j' _ ht hc
    obtain⟨e,hs⟩:=g3.scalar
    exact⟨g2.trans e,hs⟩
   ·obtain⟨g1,g2⟩:=out i' j' _ ht hc
    rw[g2];exact h8 i' j' v g1
  ·intro i' j' ys ht fA
   by_cases hc:i'=i∧off<=j'∧j'<off+ts.length
   ·obtain⟨u,g1,g2,g3⟩:=inn i' j' _ ht hc
    rw[g2];exact g3
   ·obtain⟨g1,g2⟩:=out i' j' _ ht hc
    rw[g2];exact(h9 i' j' ys g1 fA).aU (by omega) oY
  ·intro i' j' ys ht fA
   by_cases hc:i'=i∧off<=j'∧j'<off+ts.length
   ·have:=vI i' j' _ ht hc fA
    simp[eh]at this
   ·obtain⟨g1,g2⟩:=out i' j' _ ht hc
    rw[g2];exact lP i' j' ys g1 fA
  ·intro i' j' ys ht fA
   by_cases hc:i'=i∧off<=j'∧j'<off+ts.length
   ·have:=vI i' j' _ ht hc fA
    simp[eh]at this
   ·obtain⟨g1,g2⟩:=out i' j' _ ht hc
    refine(pK i' j' ys g1 fA).sib rfl λc q HV=>hh c λe=>?_
    subst e
    rw[h3]at HV
    simp at HV
def mF:List (Nat×Nat)->T->T->Option T
 | [],_,u=>some u
 |(i,j)::p,.l xs,u=>(dr xs i j).bind λs=>(mF p s u).bind λs'=>some (.l (setRow xs i j [s']))
 |_,_,_=>none
theorem acE:∀{p:List (Nat×Nat)} {t:T} {ys:List (List T)},gW p t=some (.l ys)->∃xs,t=.l xs
 | [],t,ys,h=>by simp[gW]at h;exact⟨ys,h⟩
 |(i,j)::p,.l xs,ys,h=>⟨xs,rfl⟩
 |(i,j)::p,.c v,ys,h=>by simp[gW]at h
theorem acF:∀{p:List (Nat×Nat)} {t t':T} {zs:List (List T)},mF p t (.l zs)=some t'->∃xs,t'=.l xs
 | [],t,t',zs,h=>by simp[mF]at h;exact⟨zs,h.symm⟩
 |(i,j)::p,.l xs,t',zs,h=>by
  simp only[mF,cm,bc]at h
  obtain⟨s,hs,s',C3,rfl⟩:=h
  exact⟨_,rfl⟩
 |(i,j)::p,.c v,t',zs,h=>by simp[mF]at h
theorem eg.mF{G:Gh}{w w':World}{id b:Nat}(hh:∀c,c≠b->w'.heap[c]?=w.heap[c]?):∀{p p0:List (Nat×Nat)} {t t':T} {ys zs:List (List T)},
  eg G w id true p0 t->gW p t=some (.l ys)->mF p t (.l zs)=some t'->G.ω b=some (.o id (p0++p))->eg G w' id true (p0++p) (.l zs)->eg G w' id true p0 t'
 | [],p0,t,t',ys,zs,h,hd,hb,gj,hs=>by
  simp only[Go.Proofs.YtjimmglpkndemaaGreatC.mF,bc]at hb
  subst hb
  simpa using hs
 |(i,j)::p,p0,t,t',ys,zs,h,hd,hb,gj,hs=>by
  cases h with
  |nil hH=>simp[gW,dr]at hd
  | @l _ _ xs b2 wd cap bE elem cv h1 h2 h3 h4 h5 h6 h7 h8 h9 lP pK=>
   simp only[gW,cm]at hd
   obtain⟨s,kF,my⟩:=hd
   simp only[Go.Proofs.YtjimmglpkndemaaGreatC.mF,kF,Option.bind_some,cm,bc]at hb
   obtain⟨s',C3,rfl⟩:=hb
   obtain⟨us,rfl⟩:=acE my
   obtain⟨us',rfl⟩:=acF C3
   have ih:=eg.mF hh (p:=p) (p0:=p0++[(i,j)]) (pK i j us kF rfl) my C3 (by simpa using gj) (by simpa using hs)
   obtain⟨r,hr,ic,F_,_,hjl⟩:=rO kF
   have hf:j+[T.l us'].length<=r.length:=by simp;omega
   have dj:b2≠b:=by intro e;subst e;rw[h3]at gj;simp at gj
   have bq:∀i' j',dr (setRow xs i j [T.l us']) i' j'=if i'=i∧j'=j then some (T.l us')else dr xs i' j':=by
    intro i' j'
    rw[HU hr hf]
    by_cases hc:i'=i∧j'=j
    ·obtain⟨rfl,rfl⟩:=hc
     rw[if_pos ⟨rfl,Nat.le_refl _,by simp⟩,if_pos ⟨rfl,rfl⟩];simp
    ·rw[if_neg (by simp only[List.length_singleton];omega),if_neg hc]
   refine .l (cv:=cv) (by rw[BE];exact h1) (by rw[BE];exact⟨h2.1,λhe=>h2.2 (List.eq_nil_of_length_eq_zero (by rw[<-BE,he];rfl))⟩) h3 ((hh b2 dj).trans h4) h5 (Po h6 hr hf) ?_ ?_ (λi' j' ys' ht jk=>by cases jk) ?_ ?_
   ·intro i' j' t ht
    rw[bq]at ht
    split at ht
    ·rename_i hc;obtain⟨rfl,rfl⟩:=hc;exact h7 _ _ _ kF
    ·exact h7 _ _ _ ht
   ·intro i' j' v ht
    rw[bq]at ht
    split at ht
    ·cases ht
    ·exact h8 _ _ _ ht
   ·intro i' j' ys' ht _
    rw[bq]at ht
    split at ht
    ·rename_i hc;obtain⟨rfl,rfl⟩:=hc;exact lP _ _ _ kF rfl
    ·exact lP _ _ _ ht rfl
   ·intro i' j' ys' ht _
    rw[bq]at ht
    split at ht
    ·rename_i hc;obtain⟨rfl,rfl⟩:=hc;cases ht;exact ih
    ·rename_i hc
     refine(pK i' j' ys' ht rfl).sib rfl λc q HV=>hh c λe=>?_
     subst e
     rw[gj]at HV
     simp at HV
     exact hc ⟨HV.1.1.symm,HV.1.2.symm⟩
section
variable {S:Nat->af} {ρ:List T}
theorem Wk.qV:∀(q:mq) (k:Wk) (x y:Lf),k.eO (k.up x y q).1
 | [],k,x,y=>.refl k
 |(ix,w,j)::q,k,x,y=>by
  simp only[Wk.up]
  exact((Wk.bB k _ _).trans (Wk.qV q _ _ _)).trans (Wk.bB _ _ _)
theorem Wk.uM:∀(q:mq) (k:Wk) (x y:Lf),(k.up x y q).1.bm S ρ->k.bm S ρ
 | [],_,_,_,h=>h
 |(ix,w,j)::q,k,x,y,h=>by
  simp only[Wk.up]at h
  exact(Wk.bK (Wk.uM q _ _ _ (Wk.bK h).1)).1
theorem acH{x ix z:Lf}{w j i:Nat}{xs:List (List T)}{t u:T}(hx:x.fq ρ=some (.l xs))(hi:ll ρ ix=some i)(hz:z.fq ρ=some u)
  (h:Prim.ev (.dT w j) [x.ev ρ,ix.ev ρ,z.ev ρ]=some t):t=.l (setRow xs i j [u]):=by
 obtain⟨k,hk⟩:=Ns hi
 rw[Lf.bG hx,hk,Lf.bG hz]at h
 simp only[Prim.ev,zb,T.rows,T.int,Option.bind_some,Int.toNat_natCast]at h
 cases hr:xs[i]? with
 |none=>simp[hr]at h
 |some r=>
  simp only[hr,Option.bind_some]at h
  split at h
  ·split at h
   ·simp only[bc]at h;exact h.symm
   ·cases h
  ·cases h
theorem Wk.vJ:∀(q:mq) (k:Wk) (x y:Lf) {t:T} {zs:List (List T)} {p:List (Nat×Nat)},(k.up x y q).1.bm S ρ->x.fq ρ=some t->y.fq ρ=some (.l zs)->fW ρ q=some p->
  (q=[]∨∃xs,t=.l xs)->∃t',mF p t (.l zs)=some t'∧(k.up x y q).2.fq ρ=some t'
 | [],k,x,y,t,zs,p,h,hx,hy,hp,_=>by
  simp only[fW]at hp
  cases hp
  exact⟨.l zs,rfl,hy⟩
 |(ix,w,j)::q,k,x,y,t,zs,p,h,hx,hy,hp,ht=>by
  simp only[Wk.up]at h⊢
  obtain⟨xs,rfl⟩:=ht.resolve_left (by simp)
  simp only[fW]at hp
  cases hi:ll ρ ix with
  |none=>simp[hi]at hp
  |some i=>
   cases hq:fW ρ q with
   |none=>simp[hi,hq]at hp
   |some p'=>
    simp[hi,hq]at hp
    subst hp
    obtain⟨h2,t',jj,jl⟩:=Wk.bK h
    obtain⟨_,u,hu,huv⟩:=Wk.bK (Wk.uM q _ _ _ h2)
    obtain⟨ys,rfl,bq,_⟩:=CS hx hi hu
    obtain⟨v,hv,rM⟩:=Wk.vJ q _ _ _ h2 huv hy hq (.inr ⟨ys,rfl⟩)
    have:=acH hx hi rM jj
    subst this
    exact⟨_,by simp[mF,bq,hv],jl⟩
end
section
variable {M:Nat->Prop} {B:eu} {d:Nat} {up:Nat->Nat->Value} {ρ:List T} {G:Gh} {a:Act} {w:World} {S:Nat->af} {P:Program}
variable {cx:Cx} {cw eW oi:Nat} {s:St} {R:List bf} {ct:Ct} {k':Wk} {o:Oper} {Q:Exit->Act->World->Prop}
theorem qU_{t:Nat}{ti:TI}(hT:sF P t ti){b off:Nat}{v:Value}(hl:v.cells.size=ti.sz){bE:Array Value}{elem:TypeId}
  (hb:w.heap[b]?=some (.cells bE elem (0,0)))(hf:off+v.cells.size<=bE.size)(h1:∀u∈v.cells.toList,u.oneCell'=true):
  (Instr.storeAt t (.pointer (some ⟨b,off,none⟩)) v).run P w=.ok () (w.setRow b (bE.toList.take off++v.cells.toList++bE.toList.drop (off+v.cells.toList.length)).toArray):=by
 obtain⟨i,z,hi,hs,_,_,_⟩:=hT.info
 have cf:=run_storeCells_at (P:=P) b off elem v.cells.toList 0 bE w hb (by simpa using hf) h1
 simp only[Nat.add_zero]at cf
 simp[Instr.storeAt,Instr.sureAddr,storeVar,sizeOf,typeInfo,hi,hs,hl]
 simpa[hl]using cf
theorem HW(w:World)(b:Nat)(cs:Array Value):iU w (w.setRow b cs):=⟨rfl,rfl,rfl⟩
theorem Ga(w:World)(b:Nat)(cs:Array Value):(w.setRow b cs).heap.size=w.heap.size:=by simp[World.setRow]
theorem Pr{b:Nat}{l:Lb}(hl:G.ω b=some l)(C0:qt l=false)(cs:Array Value){I:Lb->Prop}(hI:I l){N:Nat->Prop}:da I N G w G (w.setRow b cs):=by
 refine⟨by rw[Ga];exact Nat.le_refl _,λc _ hc=>⟨hc,setRow_other _ _ _ _ λe=>?_⟩,λc _ hc=>hc,λc l' hc hn=>⟨hc,setRow_other _ _ _ _ λe=>?_⟩,λ_ _=>⟨rfl,λ_ _=>rfl⟩⟩
 ·subst e;exact sB hl C0 hc
 ·subst e;rw[hl]at hc;cases hc;exact hn hI
theorem C4{t:Nat}{x y:Operand}(ho:o.op=.store t x y){w':World}(h:(Instr.storeAt t (a.eval x) (a.eval y)).run P w=.ok () w'):
  (execOp a.eval o).run P w=.ok .skip w':=by
 unfold execOp
 rw[ho]
 show Sem.run P (do Instr.storeAt t (a.eval x) (a.eval y);pure Next.skip) w=_
 rw[Sem.run_bind,h];rfl
theorem acI(dC:dU P cx)(h:Rel M B d up s ρ G a w)(hn:∀n,o.dst=some n->n<a.tmps.size){t:Nat}{x y:Operand}(ho:o.op=.store t x y)
  {bx off:Nat}(hx:bY d (Wk.get ⟨s.only R,[],ct,[]⟩) x=.pt bx off)
  (hk:∃k1,storeAt cx ⟨s.only R,[],ct,[]⟩ t (bY d (Wk.get ⟨s.only R,[],ct,[]⟩) x) (bY d (Wk.get ⟨s.only R,[],ct,[]⟩) y)=some k1∧bP d o k1 .un=k'):bH P M B d up ρ a w s o k'.w Q∧k'.ct.i=ct.i:=by
 have hw:=db.start h R ct
 obtain⟨k1,cf,hk⟩:=hk
 have cJ:bP d o k1 .un=k':=hk
 subst cJ
 simp only[storeAt,hx,cm]at cf
 obtain⟨ti,fj,cs,jW,cf⟩:=cf
 cases hl:Nat.beq cs.length ti.sz with
 |false=>simp[hl]at cf
 |true=>
  simp only[hl,cond_true]at cf
  have hlen:=du hl
  obtain⟨hr,hm⟩:=hw.gX y
  obtain⟨vG,_⟩:=hw.gX x
  rw[hx]at vG
  unfold cellsOf at jW
  split at jW
  ·rename_i ag es0 dN
   cases jW
   rw[dN]at hr hm
   have rS:=Pj hr
   split at cf
   ·rename_i ag0 wC hold
    cases hle:Nat.ble (off+cs.length) wC.length with
    |false=>simp[hle]at cf
    |true=>
     simp only[hle,cond_true,bc]at cf
     subst cf
     have kQ:=Nat.le_of_ble_eq_true hle
     have tS:=hw.rel.bx bx
     rw[<-Wk.aM,hold]at tS
     obtain⟨gj,bE,elem,hb,Gb⟩:=tS
     have m5:=rS.length
     have tT:=Gb.length
     simp only[Array.length_toList]at m5 tT
     have d_:=qU_ (w:=w) (dC.ty _ _ fj) (v:=a.eval y) (by rw[<-m5];exact hlen) hb (off:=off) (by omega) (λu hu=>rS.one u hu)
     have kR:=Gb.fU off rS
     have CZ:=Pg wC cs off
     have hmo:∀i∈dt wC,M i:=λi hi=>hw.rel.fD (.x bx) i (by rw[<-Wk.aM,hold];exact hi)
     have hmM:∀i∈dt (fU wC off cs),M i:=λi hi=>(CZ i hi).elim (hmo i) (hm i)
     refine⟨?_,by rw[mw];rfl⟩
     have hK:da (ng (eP d o .un++[(.x bx,.v ag0 (fU wC off cs))])) (λ_=>False) G w G
       (w.setRow (G.β bx) (bE.toList.take off++(a.eval y).cells.toList++bE.toList.drop (off+(a.eval y).cells.toList.length)).toArray):=by
      refine Pr gj rfl _ ?_
      show St.look _ (bf.x bx)≠none
      rw[jX,sH];simp
     simp only[bH,Oper.wp,C4 ho (by rw[show a.eval x=_ from vG];exact d_),Oper.upon]
     refine⟨G,F7 h hw (W2:=eP d o .un++[(.x bx,.v ag0 (fU wC off cs))]) (uL (W2:=[(.x bx,.v ag0 (fU wC off cs))]) λr=>by exact rT r)
      hK (λi hi=>hi.elim) (λi hi=>hi) (λn m4=>F8 m4) (HW _ _ _) ?_,x_ _ _ _⟩
     refine⟨λe n u he hl=>?_,λb u hl=>?_,λi u hl=>?_,λr u hl i hi=>?_,λi hi=>?_,λb l hb=>?_⟩
     ·rcases jD hl with⟨n',gm,e1,rfl⟩|hl
      ·trivial
      ·rcases iH hl with⟨e1,_⟩|hl
       ·cases e1
       ·cases hl
     ·rcases jD hl with⟨n',gm,e1,rfl⟩|hl
      ·cases e1
      ·rcases iH hl with⟨e1,rfl⟩|hl
       ·cases e1
        refine⟨gj,_,elem,setRow_heap w _ bE _ elem _ hb,?_⟩
        exact kR.aU hK λi _ hf=>hf
       ·cases hl
     ·rcases jD hl with⟨n',gm,e1,rfl⟩|hl
      ·cases e1
      ·rcases iH hl with⟨e1,rfl⟩|hl
       ·cases e1
       ·cases hl
     ·rcases jD hl with⟨n',gm,e1,rfl⟩|hl
      ·simp[cT]at hi
      ·rcases iH hl with⟨e1,rfl⟩|hl
       ·exact hmM i hi
       ·cases hl
     ·have:∀r:bf,(r=.x i∨r=.o i)->St.look (eP d o .un++[(bf.x bx,SV.v ag0 (fU wC off cs))]) r≠none->i=bx:=by
       intro r hr hl
       obtain⟨u,hu⟩:=Option.ne_none_iff_exists'.1 hl
       rcases jD hu with⟨n',gm,e1,rfl⟩|hl
       ·rcases hr with rfl|rfl<;>cases e1
       ·rcases iH hl with⟨e1,rfl⟩|hl
        ·rcases hr with rfl|rfl
         ·cases e1;rfl
         ·cases e1
        ·cases hl
      have hMb:M bx:=hw.rel.key bx (.inl (by rw[<-Wk.aM,hold];simp))
      rcases hi with hi|hi
      ·rw[this _ (.inl rfl) hi];exact hMb
      ·rw[this _ (.inr rfl) hi];exact hMb
     ·rw[Ga];exact h.gx b l hb
   ·cases cf
  ·cases jW
def ei(ω:Nat->Option Lb)(w:World):List T->List Value->Prop
 | [],[]=>True
 |t::ts,v::vs=>eB ω w t v∧ei ω w ts vs
 |_,_=>False
theorem ei.length{ω:Nat->Option Lb}:∀{ts:List T} {vs:List Value},ei ω w ts vs->ts.length=vs.length
 | [],[],_=>rfl
 | [],_::_,h=>h.elim
 |_::_,[],h=>h.elim
 |_::ts,_::vs,h=>by simp[ei.length h.2]
theorem ei.get{ω:Nat->Option Lb}:∀{ts:List T} {vs:List Value},ei ω w ts vs->∀(j:Nat) (t:T) (v:Value),ts[j]?=some t->vs[j]?=some v->eB ω w t v
 | [],[],_,j,t,v,h,_=>by simp at h
 | [],_::_,h,_,_,_,_,_=>h.elim
 |_::_,[],h,_,_,_,_,_=>h.elim
 |t::ts,v::vs,h,0,_,_,h1,h2=>by simp at h1 h2;subst h1 h2;exact h.1
 |t::ts,v::vs,h,j+1,_,_,h1,h2=>ei.get h.2 j _ _ (by simpa using h1) (by simpa using h2)
theorem ei.eh{ω uD:Nat->Option Lb}{w':World}:∀{ts:List T} {vs:List Value},ei ω w ts vs->ts.all eh=true->ei uD w' ts vs
 | [],[],_,_=>trivial
 | [],_::_,h,_=>h.elim
 |_::_,[],h,_=>h.elim
 |t::ts,v::vs,h,hs=>by
  simp only[List.all_cons,bA]at hs
  refine⟨?_,ei.eh h.2 hs.2⟩
  obtain⟨u,rfl⟩:=uJ hs.1
  obtain⟨rfl,hu⟩:=h.1.scalar
  exact .c hu
theorem ei.aU{ω uD:Nat->Option Lb}{w':World}(hs:w.heap.size<=w'.heap.size)(hf:∀b,b<w.heap.size->ω b=none->uD b=none∧w'.heap[b]?=w.heap[b]?):
  ∀{ts:List T} {vs:List Value},ei ω w ts vs->ei uD w' ts vs
 | [],[],_=>trivial
 | [],_::_,h=>h.elim
 |_::_,[],h=>h.elim
 |t::ts,v::vs,h=>⟨h.1.aU hs hf,ei.aU hs hf h.2⟩
def zo(k:Wk)(cs:List Ce):Prop:=∀id∈dt cs,∃pv x,k.get (.o id)=.fz pv x
theorem Wk.qn{k k1:Wk}{c:Ce}{x:Lf}{G1:Gh}{v:Value}(h:k.val c=some (k1,x))(hr:fH G1 w ρ c v)(hk:db M B d up ρ G a w k G1)(hf:zo k [c]):
  ∃t,x.fq ρ=some t∧eB G1.q w t v:=by
 cases c with
 |p y=>simp[Wk.val]at h;obtain⟨_,rfl⟩:=h;exact hr
 |n=>simp[Wk.val]at h;obtain⟨_,rfl⟩:=h;cases hr;exact⟨_,rfl,.nil⟩
 |d=>simp[Wk.val]at h
 |o id q=>
  obtain⟨pv,y,hy⟩:=hf id (by simp[dt])
  have dJ:=hk.obj id
  obtain⟨p,hp,rfl⟩:=hr
  simp only[Wk.val,hy]at h
  rw[hy]at dJ
  split at h
  ·simp at h
   obtain⟨_,rfl⟩:=h
   simp only[lO]at hp
   cases hp
   exact⟨_,dJ.choose_spec.1,dJ.choose_spec.2.1⟩
  ·cases h
theorem Wk.gB:∀{cs:List Ce} {k k1:Wk} {xs:List Lf},k.iQ cs=some (k1,xs)->k.eO k1
 | [],k,k1,xs,h=>by simp[Wk.iQ]at h;obtain⟨rfl,_⟩:=h;exact .refl _
 |c::cs,k,k1,xs,h=>by
  simp only[Wk.iQ,cm,bc,Prod.mk.injEq]at h
  obtain⟨⟨k2,x⟩,h1,⟨k3,ys⟩,h2,rfl,rfl⟩:=h
  exact(Wk.dF h1).trans (Wk.gB h2)
theorem Wk.kU:∀{cs:List Ce} {k k1:Wk} {xs:List Lf},k.iQ cs=some (k1,xs)->k1.bm S ρ->k.bm S ρ
 | [],k,k1,xs,h,hd=>by simp[Wk.iQ]at h;obtain⟨rfl,_⟩:=h;exact hd
 |c::cs,k,k1,xs,h,hd=>by
  simp only[Wk.iQ,cm,bc,Prod.mk.injEq]at h
  obtain⟨⟨k2,x⟩,h1,⟨k3,ys⟩,h2,rfl,rfl⟩:=h
  exact Wk.lm h1 (Wk.kU h2 hd)
theorem Wk.gC:∀{cs:List Ce} {k k1:Wk} {xs:List Lf} {G1:Gh} {vs:List Value},k.iQ cs=some (k1,xs)->k1.bm S ρ->aS G1 w ρ cs vs->db M B d up ρ G a w k G1->
  ∃ts,xs.map (Lf.ev ρ)=ts∧ei (er G1.ω) w ts vs∧(zo k cs->ei G1.q w ts vs)∧xs.length=vs.length
 | [],k,k1,xs,G1,vs,h,hd,hr,hk=>by
  simp[Wk.iQ]at h
  obtain⟨_,rfl⟩:=h
  cases vs with
  |nil=>exact⟨[],rfl,trivial,λ_=>trivial,rfl⟩
  |cons _ _=>exact hr.elim
 |c::cs,k,k1,xs,G1,[],h,hd,hr,hk=>hr.elim
 |c::cs,k,k1,xs,G1,v::vs,h,hd,hr,hk=>by
  simp only[Wk.iQ,cm,bc,Prod.mk.injEq]at h
  obtain⟨⟨k2,x⟩,h1,⟨k3,ys⟩,h2,rfl,rfl⟩:=h
  have hs:=Wk.dF h1
  obtain⟨ts,e1,e2,e3,e4⟩:=Wk.gC h2 hd hr.2 (hk.same hs)
  obtain⟨t,ht,lQ⟩:=Wk.kN h1 (Wk.kU h2 hd) hr.1 λid _=>hk.obj id
  refine⟨t::ts,by simp[e1,Lf.bG ht],⟨lQ,e2⟩,λhf=>⟨?_,e3 λid ie=>?_⟩,by simp[e4]⟩
  ·obtain⟨t',jj,l_⟩:=Wk.qn h1 hr.1 hk λid ie=>hf id (by rw[wO];exact List.mem_append_left _ ie)
   rw[ht]at jj
   cases jj
   exact l_
  ·rw[hs.get]
   exact hf id (by rw[wO];exact List.mem_append_right _ ie)
theorem db.ef:∀{cs:List Ce} {k k1:Wk} {G1:Gh},db M B d up ρ G a w k G1->k.ef cs=some k1->
  ∃G2,db M B d up ρ G a w k1 G2∧G2.β=G1.β∧G2.H=G1.H∧k1.ct=k.ct∧k1.is=k.is∧zo k1 cs∧(∀id pv x,k.get (.o id)=.fz pv x->k1.get (.o id)=.fz pv x)∧
   (∀id dp x,k1.get (.o id)=.ob dp x->k.get (.o id)=.ob dp x)
 | [],k,k1,G1,h,hk=>by
  simp[Wk.ef]at hk
  subst hk
  exact⟨G1,h,rfl,rfl,rfl,rfl,(λ_ h=>by cases h),(λ_ _ _ h=>h),λ_ _ _ h=>h⟩
 |c::cs,k,k1,G1,h,hk=>by
  cases c with
  |o id q=>
   simp only[Wk.ef,cm]at hk
   obtain⟨k2,h1,h2⟩:=hk
   obtain⟨G2,g1,g2,g3,g4,g5,g6⟩:=h.lE h1
   obtain⟨G3,f1,f2,f3,f4,f5,f6,f7,f8⟩:=db.ef g1 h2
   have sJ:∃pv x,k2.get (.o id)=.fz pv x:=by
    unfold Wk.lE at h1
    split at h1
    ·rename_i dp x hx;cases h1;exact⟨.z,x,by simp[Wk.get,Wk.set,St.be]⟩
    ·rename_i pv x hx;cases h1;exact⟨pv,x,hx⟩
    ·cases h1
   have uN:∀i,i≠id->k2.get (.o i)=k.get (.o i):=by
    intro i hi
    unfold Wk.lE at h1
    split at h1
    ·cases h1;simp only[Wk.get,Wk.set];rw[St.cg _ _ (by simpa using Ne.symm hi)]
    ·cases h1;rfl
    ·cases h1
   have Ps:∀pv x,k.get (.o id)=.fz pv x->k2.get (.o id)=.fz pv x:=by
    intro pv x hx
    unfold Wk.lE at h1
    rw[hx]at h1
    cases h1
    exact hx
   refine⟨G3,f1,f2.trans g2,f3.trans g3,f4.trans g5,f5.trans g6,?_,?_,?_⟩
   ·intro i hi
    rw[wO]at hi
    rcases List.mem_append.1 hi with hi|hi
    ·simp[dt]at hi
     subst hi
     obtain⟨pv,x,hx⟩:=sJ
     exact⟨pv,x,f7 _ _ _ hx⟩
    ·exact f6 i hi
   ·intro i pv x hx
    refine f7 i pv x ?_
    by_cases hi:i=id
    ·subst hi;exact Ps pv x hx
    ·rw[uN i hi];exact hx
   ·intro i dp x hx
    have:=f8 i dp x hx
    by_cases hi:i=id
    ·subst hi;obtain⟨pv,y,hy⟩:=sJ;rw[hy]at this;cases this
    ·rwa[uN i hi]at this
  |p x=>
   obtain⟨G2,g1,g2,g3,g4,g5,g6,g7⟩:=db.ef h (show k.ef cs=some k1 from hk)
   exact⟨G2,g1,g2,g3,g4,g5,by intro i hi;rw[wO]at hi;exact g6 i (by simpa[dt]using hi),g7⟩
  |n=>
   obtain⟨G2,g1,g2,g3,g4,g5,g6,g7⟩:=db.ef h (show k.ef cs=some k1 from hk)
   exact⟨G2,g1,g2,g3,g4,g5,by intro i hi;rw[wO]at hi;exact g6 i (by simpa[dt]using hi),g7⟩
  |d=>
   obtain⟨G2,g1,g2,g3,g4,g5,g6,g7⟩:=db.ef h (show k.ef cs=some k1 from hk)
   exact⟨G2,g1,g2,g3,g4,g5,by intro i hi;rw[wO]at hi;exact g6 i (by simpa[dt]using hi),g7⟩
theorem Pu{k:Wk}{G1:Gh}(h:Rel M B d up s ρ G a w)(hk:db M B d up ρ G a w k G1)(hn:∀n,o.dst=some n->n<a.tmps.size){id b:Nat}{p:List (Nat×Nat)}{dp:Bool}{y:Lf}
  {t':T}{cells:Array Value}(gj:G1.ω b=some (.o id p))(C0:p=[]∨id%2=1)(qW:id%4≠2)(hy:y.fq ρ=some t')(bu:eg G1 (w.setRow b cells) id dp [] t')
  (hx:(execOp a.eval o).run P w=.ok .skip (w.setRow b cells)):bH P M B d up ρ a w s o (bP d o (k.set (.o id) (.ob dp y)) .un).w Q:=by
 have hM:M id:=(hk.rel.gx b _ gj).1
 have hK:da (ng (eP d o .un++[(.o id,.ob dp y)])) (λ_=>False) G1 w G1 (w.setRow b cells):=by
  refine Pr gj (CL (ρ:=ρ) C0 qW) _ ?_
  show St.look _ (bf.o id)≠none
  rw[jX,sH];simp
 simp only[bH,Oper.wp,hx,Oper.upon]
 refine⟨G1,F7 h hk (W2:=eP d o .un++[(.o id,.ob dp y)]) (uL (W2:=[(.o id,.ob dp y)]) λr=>by exact rT r)
  hK (λi hi=>hi.elim) (λi hi=>hi) (λn m4=>F8 m4) (HW _ _ _) ?_,x_ _ _ _⟩
 refine⟨λe n u he hl=>?_,λb u hl=>?_,λi u hl=>?_,λr u hl i hi=>?_,λi hi=>?_,λb l hb=>?_⟩
 ·rcases jD hl with⟨n',gm,e1,rfl⟩|hl
  ·trivial
  ·rcases iH hl with⟨e1,_⟩|hl
   ·cases e1
   ·cases hl
 ·rcases jD hl with⟨n',gm,e1,rfl⟩|hl
  ·cases e1
  ·rcases iH hl with⟨e1,rfl⟩|hl
   ·cases e1
   ·cases hl
 ·rcases jD hl with⟨n',gm,e1,rfl⟩|hl
  ·cases e1
  ·rcases iH hl with⟨e1,rfl⟩|hl
   ·cases e1
    exact⟨t',hy,bu⟩
   ·cases hl
 ·rcases jD hl with⟨n',gm,e1,rfl⟩|hl
  ·simp[cT]at hi
  ·rcases iH hl with⟨e1,rfl⟩|hl
   ·simp[cT]at hi
   ·cases hl
 ·have:∀r:bf,(r=.x i∨r=.o i)->St.look (eP d o .un++[(bf.o id,SV.ob dp y)]) r≠none->i=id:=by
   intro r hr hl
   obtain⟨u,hu⟩:=Option.ne_none_iff_exists'.1 hl
   rcases jD hu with⟨n',gm,e1,rfl⟩|hl
   ·rcases hr with rfl|rfl<;>cases e1
   ·rcases iH hl with⟨e1,rfl⟩|hl
    ·rcases hr with rfl|rfl
     ·cases e1
     ·cases e1;rfl
    ·cases hl
  rcases hi with hi|hi
  ·rw[this _ (.inl rfl) hi];exact hM
  ·rw[this _ (.inr rfl) hi];exact hM
 ·rw[Ga];exact hk.rel.gx b l hb
theorem Pw{x ix:Lf}{sc:Bool}{wd off n i:Nat}{xs:List (List T)}{ts:List T}{t:T}(hx:x.fq ρ=some (.l xs))(hi:ll ρ ix=some i)
  (h:Prim.ev (.put sc wd off n) (x.ev ρ::ix.ev ρ::ts)=some t):∃r,xs[i]?=some r∧r.length=wd∧off+ts.length<=r.length∧(sc=true->ts.all eh=true)∧t=.l (setRow xs i off ts):=by
 obtain⟨k,hk⟩:=Ns hi
 rw[Lf.bG hx,hk]at h
 simp only[Prim.ev,zb,T.rows,T.int,Option.bind_some,Int.toNat_natCast]at h
 cases hr:xs[i]? with
 |none=>simp[hr]at h
 |some r=>
  simp only[hr,Option.bind_some]at h
  split at h
  ·rename_i g1
   split at h
   ·rename_i g2
    split at h
    ·rename_i g3
     split at h
     ·rename_i g4
      simp only[bc]at h
      refine⟨r,rfl,g1,by omega,λhs=>?_,h.symm⟩
      subst hs
      simpa using g4
     ·cases h
    ·cases h
   ·cases h
  ·cases h
theorem Wk.bN(k:Wk)(r:bf)(v:SV):(k.set r v).get r=v:=by
 simp[Wk.get,Wk.set,St.be]
theorem acJ(dC:dU P cx)(h:Rel M B d up s ρ G a w)(hn:∀n,o.dst=some n->n<a.tmps.size){t:Nat}{x y:Operand}(ho:o.op=.store t x y)
  {id:Nat}{q:mq}{ix:Lf}{wd off:Nat}(hx:bY d (Wk.get ⟨s.only R,[],ct,[]⟩) x=.ep id q ix wd off)
  (hk:∃k1,storeAt cx ⟨s.only R,[],ct,[]⟩ t (bY d (Wk.get ⟨s.only R,[],ct,[]⟩) x) (bY d (Wk.get ⟨s.only R,[],ct,[]⟩) y)=some k1∧bP d o k1 .un=k')(hd:k'.bm S ρ):bH P M B d up ρ a w s o k'.w Q∧k'.ct.i=ct.i:=by
 have hw:=db.start h R ct
 obtain⟨k1,cf,hk⟩:=hk
 have cJ:bP d o k1 .un=k':=hk
 subst cJ
 have fi:=cF.1 hd
 simp only[storeAt,hx,cm]at cf
 obtain⟨ti,fj,cs,jW,cf⟩:=cf
 cases hl:Nat.beq cs.length ti.sz with
 |false=>simp[hl]at cf
 |true=>
  simp only[hl,cond_true]at cf
  have hlen:=du hl
  obtain⟨hr,hm⟩:=hw.gX y
  obtain⟨vG,_⟩:=hw.gX x
  rw[hx]at vG
  obtain⟨p,b,n,cap,i,hp,hH,hi,jI,jl⟩:=vG
  unfold cellsOf at jW
  split at jW
  ·rename_i ag es0 dN
   cases jW
   rw[dN]at hr hm
   have rS:=Pj hr
   have m5:=rS.length
   cases qW:Nat.beq (id%4) 2 with
   |true=>simp[qW]at cf
   |false=>
   have qW:id%4≠2:=λe=>by rw[e]at qW;cases qW
   simp only[show Nat.beq (id%4) 2=false from(by cases hb:Nat.beq (id%4) 2 with|false=>rfl|true=>exact absurd (du hb) qW),cond_false]at cf
   cases hN:ti.zero.any eX with
   |true=>
    simp only[hN,cond_true]at cf
    split at cf
    ·simp only[lO,bc]at hp
     subst hp
     simp only[cm]at cf
     obtain⟨k2,sK,k3,wY,⟨k4,xs⟩,oA,cf⟩:=cf
     obtain⟨G2,w2,e1,e2,e3,e4,e5⟩:=hw.flat sK
     obtain⟨G3,w3,f1,f2,f4,f5,f6,f7,f8⟩:=w2.ef wY
     have C5:=Wk.gB oA
     have w4:=w3.same C5
     simp only at cf
     split at cf
     ·rename_i dp0 z hz
      simp only[bc]at cf
      subst cf
      have dJ:=w4.obj id
      rw[hz]at dJ
      obtain⟨tt,ya,bu⟩:=dJ
      have ov:(k4.em (.put false wd off xs.length) (z::ix::xs)).1.bm S ρ:=fi
      obtain⟨F5,t',kj,BF⟩:=Wk.bK ov
      have Px:G3.H id []=.slice (some ⟨b,0,none⟩) n cap:=by rw[f2,e2];exact hH
      have acK:aS G3 w ρ cs (a.eval y).cells.toList:=by
       have k3:da (ng k3.w) (λ_=>False) G w G3 w:=w3.aU
       exact rS.aU k3 λ_ _ hf=>hf
      obtain⟨ts,g1,_,g3,g4⟩:=Wk.gC oA F5 acK w3
      simp only[List.map_cons]at kj
      rw[g1]at kj
      obtain⟨rows,rfl⟩:∃ys,tt=.l ys:=by cases bu<;>exact⟨_,rfl⟩
      obtain⟨r,nY,pY,BG,_,rfl⟩:=Pw ya hi kj
      have C6:=g3 λj hj=>f6 j hj
      have zp:=C6.length
      have fA:dp0=false:=by
       have h3:k3.get (.o id)=.ob dp0 z:=by rw[<-C5.get];exact hz
       have h2:=f8 _ _ _ h3
       unfold Wk.flat at sK
       split at sK
       ·cases sK;rw[Wk.bN]at h2;cases h2;rfl
       ·rename_i z2 rP;cases sK;rw[rP]at h2;cases h2
       ·cases sK
      subst fA
      have sL:∃bE elem,G3.ω b=some (.o id [])∧w.heap[b]?=some (.cells bE elem (0,0))∧(i*wd+off)+(a.eval y).cells.size<=bE.size:=by
       cases bu with
       |nil F9=>rw[Px]at F9;cases F9
       | @l _ _ _ b2 BH C1 bE elem cv h1 h2 h3 h4 h5 h6 _ _ _ _ _=>
        rw[Px]at h1
        cases h1
        refine⟨bE,elem,h3,h4,?_⟩
        have mz:BH=wd:=by rw[<-pY];exact(h6 r (List.mem_of_getElem? nY)).symm
        subst mz
        rw[h5]
        have:(i+1)*BH<=cap*BH:=Nat.mul_le_mul_right _ (by omega)
        rw[Nat.add_mul]at this
        simp only[Array.length_toList]at zp
        omega
      obtain⟨bE,elem,gj,hb,kQ⟩:=sL
      have d_:=qU_ (P:=P) (w:=w) (dC.ty _ _ fj) (v:=a.eval y) (by simp only[Array.length_toList]at m5;rw[<-m5];exact hlen) hb (off:=i*wd+off) kQ (λu hu=>rS.one u hu)
      have oX:=bu.put (w':=w.setRow b (bE.toList.take (i*wd+off)++(a.eval y).cells.toList++bE.toList.drop (i*wd+off+(a.eval y).cells.toList.length)).toArray)
       Px (CM qW) nY BG zp.symm hb (by rw[pY];exact setRow_heap w _ bE _ elem _ hb) (Ga _ _ _) (λc hc=>setRow_other _ _ _ _ hc)
       (ei.get (C6.aU (by rw[Ga];exact Nat.le_refl _) λc _ hc=>⟨hc,setRow_other _ _ _ _ λe=>by subst e;exact sB gj (CM qW) hc⟩)) (λhf=>by cases hf)
      refine⟨Pu h (w4.same (Wk.bB _ _ _)) hn (gj:=gj) (C0:=.inl rfl) (qW:=qW) (hy:=BF) (bu:=oX) (C4 ho (by rw[jl];exact d_)),?_⟩
      rw[mw]
      show k4.ct.i=ct.i
      rw[C5.i,f4,e4]
     ·cases cf
    ·cases cf
   |false=>
    simp only[hN,cond_false,cm]at cf
    obtain⟨⟨k4,xs⟩,oA,cf⟩:=cf
    have C5:=Wk.gB oA
    have w4:=hw.same C5
    simp only at cf
    split at cf
    ·rename_i dp z hz
     cases hdq:(dp||q.isEmpty)with
     |false=>simp[hdq]at cf
     |true=>
      simp only[hdq,cond_true,bc]at cf
      subst cf
      have dJ:=w4.obj id
      rw[hz]at dJ
      obtain⟨tt,ya,bu⟩:=dJ
      obtain⟨rows,rfl⟩:∃ys,tt=.l ys:=by cases bu<;>exact⟨_,rfl⟩
      have hdu:(Wk.up ((k4.down z q).1.em (.put true wd off xs.length) ((k4.down z q).2::ix::xs)).1 z ((k4.down z q).1.em (.put true wd off xs.length) ((k4.down z q).2::ix::xs)).2 q).1.bm S ρ:=fi
      have acL:=Wk.uM _ _ _ _ hdu
      obtain⟨m4,t',kj,BF⟩:=Wk.bK acL
      obtain⟨u,hu,hzu,HD⟩:=Wk.gy q k4 z m4 ya (CN hp) (.inr ⟨_,rfl⟩)
      obtain⟨ys,rfl⟩:∃ys,u=.l ys:=by
       rcases HD with rfl|h'
       ·simp only[lO]at hp;cases hp;simp[gW]at hu;exact⟨rows,hu.symm⟩
       ·exact h'
      obtain⟨ts,g1,g2,_,g4⟩:=Wk.gC oA (Wk.kM q _ _ m4) rS hw
      simp only[List.map_cons]at kj
      rw[g1]at kj
      obtain⟨r,nY,pY,BG,lR,rfl⟩:=Pw hzu hi kj
      obtain⟨t2,zj,hy2⟩:=Wk.vJ q _ z _ hdu ya BF (CN hp) (.inr ⟨_,rfl⟩)
      have C6:ei G.q (w.setRow b #[]) ts (a.eval y).cells.toList:=g2.eh (lR rfl)
      have zp:=g2.length
      have jd:eg G w id dp p (.l ys):=by
       cases dp with
       |true=>simpa using eg.bD p bu hu ⟨ys,rfl⟩
       |false=>
        have hq:q=[]:=by simpa using hdq
        subst hq
        simp only[lO]at hp
        cases hp
        simp[gW]at hu
        subst hu
        exact bu
      have sL:∃bE elem,G.ω b=some (.o id p)∧w.heap[b]?=some (.cells bE elem (0,0))∧(i*wd+off)+(a.eval y).cells.size<=bE.size:=by
       cases jd with
       |nil F9=>rw[hH]at F9;cases F9
       | @l _ _ _ b2 BH C1 bE elem cv h1 h2 h3 h4 h5 h6 _ _ _ _ _=>
        rw[hH]at h1
        cases h1
        refine⟨bE,elem,h3,h4,?_⟩
        have mz:BH=wd:=by rw[<-pY];exact(h6 r (List.mem_of_getElem? nY)).symm
        subst mz
        rw[h5]
        have:(i+1)*BH<=cap*BH:=Nat.mul_le_mul_right _ (by omega)
        rw[Nat.add_mul]at this
        simp only[Array.length_toList]at zp
        omega
      obtain⟨bE,elem,gj,hb,kQ⟩:=sL
      have d_:=qU_ (P:=P) (w:=w) (dC.ty _ _ fj) (v:=a.eval y) (by simp only[Array.length_toList]at m5;rw[<-m5];exact hlen) hb (off:=i*wd+off) kQ (λu hu=>rS.one u hu)
      have oX:=jd.put (w':=w.setRow b (bE.toList.take (i*wd+off)++(a.eval y).cells.toList++bE.toList.drop (i*wd+off+(a.eval y).cells.toList.length)).toArray)
       hH (CL (ρ:=ρ) (CO hp) qW) nY BG zp.symm hb (by rw[pY];exact setRow_heap w _ bE _ elem _ hb) (Ga _ _ _) (λc hc=>setRow_other _ _ _ _ hc)
       (ei.get (g2.eh (lR rfl))) (λ_=>lR rfl)
      have Py:eg G (w.setRow b (bE.toList.take (i*wd+off)++(a.eval y).cells.toList++bE.toList.drop (i*wd+off+(a.eval y).cells.toList.length)).toArray) id dp [] t2:=by
       cases dp with
       |true=>exact eg.mF (λc hc=>setRow_other _ _ _ _ hc) bu hu zj (by simpa using gj) (by simpa using oX)
       |false=>
        have hq:q=[]:=by simpa using hdq
        subst hq
        simp only[lO]at hp
        cases hp
        simp only[mF,bc]at zj
        subst zj
        exact oX
      refine⟨Pu h (((w4.same (Wk.eM q _ _)).same (Wk.bB _ _ _)).same (Wk.qV q _ _ _)) hn (gj:=gj) (C0:=CO hp) (qW:=qW) (hy:=hy2) (bu:=Py) (C4 ho (by rw[jl];exact d_)),?_⟩
      rw[mw]
      show(Wk.up _ z _ q).1.ct.i=ct.i
      rw[(Wk.qV q _ _ _).i,(Wk.bB _ _ _).i,(Wk.eM q _ _).i,C5.i]
    ·cases cf
  ·cases jW
theorem acN(dC:dU P cx)(h:Rel M B d up s ρ G a w)(hn:∀n,o.dst=some n->n<a.tmps.size){t:Nat}{x y:Operand}(ho:o.op=.store t x y)
  (hk:∃k1,storeAt cx ⟨s.only R,[],ct,[]⟩ t (bY d (Wk.get ⟨s.only R,[],ct,[]⟩) x) (bY d (Wk.get ⟨s.only R,[],ct,[]⟩) y)=some k1∧bP d o k1 .un=k')(hd:k'.bm S ρ):bH P M B d up ρ a w s o k'.w Q∧k'.ct.i=ct.i:=by
 cases hx:bY d (Wk.get ⟨s.only R,[],ct,[]⟩) x with
 |pt bx off=>exact acI dC h hn ho hx hk
 |ep id q ix wd off=>exact acJ dC h hn ho hx hk hd
 |_=>
  exfalso
  obtain⟨k1,hk,_⟩:=hk
  simp only[storeAt,hx,cm]at hk
  obtain⟨ti,_,cs,_,h1⟩:=hk
  cases hb:Nat.beq cs.length ti.sz<;>simp[hb]at h1
theorem HX{xs:List (List T)}{l h:Nat}{i j:Nat}{t:T}(ht:dr ((xs.take h).drop l) i j=some t):dr xs (l+i) j=some t:=by
 unfold dr at ht⊢
 rw[List.getElem?_drop,List.getElem?_take]at ht
 split at ht
 ·exact ht
 ·simp at ht
theorem eB.sub{ω:Nat->Option Lb}{xs:List (List T)}{ao:Option Addr}{n cap l h sz:Nat}(hd:eB ω w (.l xs) (.slice ao n cap))(uO:l<=h)(hh:h<=xs.length)(dQ:okW sz xs=true):
  eB ω w (.l ((xs.take h).drop l)) (sliced ao l h cap sz):=by
 unfold sliced
 by_cases he:l=h
 ·subst he
  have:(xs.take l).drop l=[]:=by simp
  rw[this,Nat.sub_self]
  exact .nil
 ·cases hd with
  |nil=>simp at hh;omega
  | @l _ b off wd _ cv hw hc hb a_ h1 h2=>
   have dj:¬(cap=l):=by omega
   have hlen:((xs.take h).drop l).length=h-l:=by simp;omega
   have gn:sz=wd:=by
    cases xs with
    |nil=>simp at hh;omega
    |cons r xs=>rw[<-hw r (by simp)];exact(du dQ).symm
   subst gn
   rw[if_neg dj]
   simp only[Option.map_some,Addr.add_lit]
   rw[<-hlen]
   refine .l (cv:=λi j=>cv (l+i) j) (λr hr=>hw r (List.mem_of_mem_take (List.mem_of_mem_drop hr))) (by rw[hlen];omega) hb a_ (λi j t ht=>?_) λi j t ht=>h2 _ _ _ (HX ht)
   have:=h1 _ _ _ (HX ht)
   rw[Nat.add_mul]at this
   rw[show off+l*sz+(i*sz+j)=off+(l*sz+i*sz+j) by omega]
   exact this
def oC(k:Wk)(f:Operand->SV):Option Operand->Option (Wk×List Lf)
 |none=>some (k,[])
 |some l=>(k.one (f l)).bind λr=>some (r.1,[r.2])
theorem C7{k k1:Wk}{G1:Gh}(hk:db M B d up ρ G a w k G1){lo:Option Operand}{ls:List Lf}{f:Operand->SV}(hf:∀x,lo=some x->cz G1 w ρ (f x) (a.eval x))
  (h:oC k f lo=some (k1,ls))(hd:k1.bm S ρ):
  k.bm S ρ∧k.eO k1∧((lo=none∧ls=[])∨∃x y t,lo=some x∧ls=[y]∧y.ev ρ=t∧eB (er G1.ω) w t (a.eval x)):=by
 cases lo with
 |none=>
  simp only[oC,bc,Prod.mk.injEq]at h
  obtain⟨rfl,rfl⟩:=h
  exact⟨hd,.refl _,.inl ⟨rfl,rfl⟩⟩
 |some x=>
  simp only[oC,cm,bc,Prod.mk.injEq]at h
  obtain⟨⟨k2,y⟩,h1,rfl,rfl⟩:=h
  obtain⟨e1,e2,t,e3,e4⟩:=Wk.fY hk h1 hd (hf x rfl)
  exact⟨e1,e2,.inr ⟨x,y,t,rfl,rfl,Lf.bG e3,e4⟩⟩
theorem zq{ω:Nat->Option Lb}{k:IntKind}{n:Int}{v:Value}(h:eB ω w (.c (.int k n)) v):v=.int k n:=h.scalar.1
theorem HY{ω:Nat->Option Lb}{lo hi:Option Operand}{ls hs:List Lf}{n:Nat}{r:T}{F:Int->Int->Option T}
  (nk:(lo=none∧ls=[])∨∃x y t,lo=some x∧ls=[y]∧y.ev ρ=t∧eB ω w t (a.eval x))(uP:(hi=none∧hs=[])∨∃x y t,hi=some x∧hs=[y]∧y.ev ρ=t∧eB ω w t (a.eval x))
  (h:((match lo.isSome,hi.isSome,(ls++hs).map (Lf.ev ρ)with
   |false,false,[]=>some ((0:Int),(n:Int))
   |true,false,[.c (.int _ l)]=>some (l,(n:Int))
   |false,true,[.c (.int _ h)]=>some (0,h)
   |true,true,[.c (.int _ l),.c (.int _ h)]=>some (l,h)
   |_,_,_=>none).bind λb=>F b.1 b.2)=some r):
  ∃l h:Int,F l h=some r∧((lo.map a.eval=none∧l=0)∨∃k,lo.map a.eval=some (.int k l))∧((hi.map a.eval=none∧h=n)∨∃k,hi.map a.eval=some (.int k h)):=by
 rcases nk with⟨rfl,rfl⟩|⟨x,y,t,rfl,rfl,ht,lQ⟩
 ·rcases uP with⟨rfl,rfl⟩|⟨x',y',t',rfl,rfl,jj,l_⟩
  ·simp at h
   exact⟨0,n,h,.inl ⟨rfl,rfl⟩,.inl ⟨rfl,rfl⟩⟩
  ·simp only[Option.isSome_none,Option.isSome_some,List.nil_append,List.map_cons,List.map_nil,jj]at h
   cases t' with
   |l _=>simp at h
   |c v=>cases v with
    |int k m=>
     simp at h
     have:=zq l_
     exact⟨0,m,h,.inl ⟨rfl,rfl⟩,.inr ⟨k,by simp[this]⟩⟩
    |_=>simp at h
 ·cases t with
  |l _=>rcases uP with⟨rfl,rfl⟩|⟨x',y',t',rfl,rfl,jj,l_⟩<;>simp[ht]at h
  |c v=>cases v with
   |int k m=>
    have e1:=zq lQ
    rcases uP with⟨rfl,rfl⟩|⟨x',y',t',rfl,rfl,jj,l_⟩
    ·simp[ht]at h
     exact⟨m,n,h,.inr ⟨k,by simp[e1]⟩,.inl ⟨rfl,rfl⟩⟩
    ·simp only[Option.isSome_some,List.cons_append,List.nil_append,List.map_cons,List.map_nil,ht,jj]at h
     cases t' with
     |l _=>simp at h
     |c v'=>cases v' with
      |int k' m'=>
       simp at h
       have e2:=zq l_
       exact⟨m,m',h,.inr ⟨k,by simp[e1]⟩,.inr ⟨k',by simp[e2]⟩⟩
      |_=>simp at h
   |_=>rcases uP with⟨rfl,rfl⟩|⟨x',y',t',rfl,rfl,jj,l_⟩<;>simp[ht]at h
theorem Pz{t e:Nat}(ht:P.underlying t=some (.slice e)){sz:Nat}(zm:∃i,P.info? e=some i∧i.size=sz){ao:Option Addr}{n cap:Nat}(hc:n<=cap){lo hi:Option Value}{l h:Int}
  (nk:(lo=none∧l=0)∨∃k,lo=some (.int k l))(uP:(hi=none∧h=n)∨∃k,hi=some (.int k h))(h0:0<=l)(uO:l<=h)(hh:h<=n):
  (Instr.sliceAt t (.slice ao n cap) lo hi none).run P w=.ok (sliced ao l.toNat h.toNat cap sz) w:=by
 have C8:P.elem t=e:=by simp[Program.elem,ht]
 have jj:P.underlying t=some (.slice (P.elem t)):=by rw[C8];exact ht
 obtain⟨i,rU,nl⟩:=zm
 have hs:(sizeOf (P.elem t)).run P w=.ok sz w:=by rw[C8];simp[sizeOf,typeInfo,rU,nl]
 rw[run_sliceAt_slice w t _ _ _ _ jj]
 have lH:h<=cap:=by omega
 rcases nk with⟨rfl,rfl⟩|⟨k,rfl⟩
 ·rcases uP with⟨rfl,rfl⟩|⟨k',rfl⟩
  ·rw[run_slice_all w t ao n cap jj,hs];simp
  ·rw[run_slice_h w t ao n cap jj k' h uO lH,hs];simp
 ·rcases uP with⟨rfl,rfl⟩|⟨k',rfl⟩
  ·rw[run_slice_l w t ao n cap jj k l h0 uO,hs];simp
  ·rw[run_slice_lh w t ao n cap jj k k' l h h0 uO lH,hs];simp
theorem PA{sz:Nat}{b1 b2:Bool}{t r:T}{ts:List T}(h:Prim.ev (.sub sz b1 b2) (t::ts)=some r):∃xs,t=.l xs∧okW sz xs=true∧
  ((match b1,b2,ts with
   |false,false,[]=>some ((0:Int),(xs.length:Int))
   |true,false,[.c (.int _ l)]=>some (l,(xs.length:Int))
   |false,true,[.c (.int _ h)]=>some (0,h)
   |true,true,[.c (.int _ l),.c (.int _ h)]=>some (l,h)
   |_,_,_=>none).bind λb=>if 0<=b.1 then(if b.1<=b.2 then(if b.2<=xs.length then some (T.l ((xs.take b.2.toNat).drop b.1.toNat))else none)else none)else none)=some r:=by
 cases t with
 |c v=>simp[Prim.ev]at h
 |l xs=>
  simp only[Prim.ev]at h
  split at h
  ·rename_i dQ
   exact⟨xs,rfl,dQ,h⟩
  ·cases h
theorem acO{b1 b2:Bool}{t r:T}{ts:List T}(h:Prim.ev (.yJ b1 b2) (t::ts)=some r):∃x:ByteArray,t=.c (.string x)∧
  ((match b1,b2,ts with
   |false,false,[]=>some ((0:Int),(x.size:Int))
   |true,false,[.c (.int _ l)]=>some (l,(x.size:Int))
   |false,true,[.c (.int _ h)]=>some (0,h)
   |true,true,[.c (.int _ l),.c (.int _ h)]=>some (l,h)
   |_,_,_=>none).bind λb=>if 0<=b.1 then(if b.1<=b.2 then(if b.2<=x.size then some (T.c (.string (x.extract b.1.toNat b.2.toNat)))else none)else none)else none)=some r:=by
 cases t with
 |l xs=>simp[Prim.ev]at h
 |c v=>
  cases v with
  |string x=>exact⟨x,rfl,h⟩
  |_=>simp[Prim.ev]at h
theorem acP{t:Nat}(ht:P.underlying t=some .string){x:ByteArray}{lo hi:Option Value}{l h:Int}
  (nk:(lo=none∧l=0)∨∃k,lo=some (.int k l))(uP:(hi=none∧h=x.size)∨∃k,hi=some (.int k h))(h0:0<=l)(uO:l<=h)(hh:h<=x.size):
  (Instr.sliceAt t (.string x) lo hi none).run P w=.ok (.string (x.extract l.toNat h.toNat)) w:=by
 rw[run_sliceAt_string w t _ _ _ _ ht]
 have e1:(h.toNat:Int)=h:=Int.toNat_of_nonneg (by omega)
 rcases nk with⟨rfl,rfl⟩|⟨k,rfl⟩
 ·rcases uP with⟨rfl,rfl⟩|⟨k',rfl⟩
  ·rw[run_slice_string_all w t x ht];simp
  ·rw[run_slice_string_h w t x ht k' h uO hh];simp
 ·rcases uP with⟨rfl,rfl⟩|⟨k',rfl⟩
  ·rw[run_slice_string_l w t x ht k l h0 uO];simp
  ·simp[Instr.slice,run_underlying ht,Instr.sliceBounds,run_sliceBound,e1,h0,uO,hh,(by omega:0<=h)]
theorem acQ(dC:dU P cx)(h:Rel M B d up s ρ G a w)(hn:∀n,o.dst=some n->n<a.tmps.size){t:Nat}{x:Operand}{lo hi mx:Option Operand}(ho:o.op=.slice t x lo hi mx)
  (BI:(bif mx.isSome then none else yO cx ⟨s.only R,[],ct,[]⟩ t (bY d (Wk.get ⟨s.only R,[],ct,[]⟩) x) (lo.map (bY d (Wk.get ⟨s.only R,[],ct,[]⟩))) (hi.map (bY d (Wk.get ⟨s.only R,[],ct,[]⟩))))=none)
  (hk:iy cx cw eW d o oi ⟨s.only R,[],ct,[]⟩=some k')(hd:k'.bm S ρ):bH P M B d up ρ a w s o k'.w Q∧k'.ct.i=ct.i:=by
 have hw:=db.start h R ct
 simp only[iy,ho]at hk
 split at hk
 ·rename_i k v he
  exact absurd (he.symm.trans BI) (by simp)
 simp only[cm]at hk
 obtain⟨ti,fj,k1,wY,⟨k2,z⟩,np,hk⟩:=hk
 obtain⟨G2,w1,e1,e2,e3,e4,e5,_⟩:=hw.ef wY
 have hK:da (ng k1.w) (λ_=>False) G w G2 w:=w1.aU
 have gX:∀y,cz G2 w ρ (bY d (Wk.get ⟨s.only R,[],ct,[]⟩) y) (a.eval y):=λy=>(hw.gX y).1.aU hK λ_ _ hf=>hf
 have my:k1.eO k2:=by
  unfold Wk.one at np
  split at np
  ·exact Wk.dF np
  ·cases np
 have w2:=w1.same my
 simp only at hk
 cases mx with
 |some _=>simp at hk
 |none=>
  simp only at hk
  have iz:∃k3 ls,oC k2 (bY d (Wk.get ⟨s.only R,[],ct,[]⟩)) lo=some (k3,ls)∧
    ∃k4 hs,oC k3 (bY d (Wk.get ⟨s.only R,[],ct,[]⟩)) hi=some (k4,hs)∧
    ((Nat.beq ti.kd 3=true∧∃te,cx.ty ti.el=some te∧k'=bP d o (k4.em (.sub te.sz lo.isSome hi.isSome) (z::(ls++hs))).1 (.v false [.p (k4.em (.sub te.sz lo.isSome hi.isSome) (z::(ls++hs))).2]))∨
     (Nat.beq ti.kd 2=true∧k'=bP d o (k4.em (.yJ lo.isSome hi.isSome) (z::(ls++hs))).1 (.v false [.p (k4.em (.yJ lo.isSome hi.isSome) (z::(ls++hs))).2]))):=by
   rw[cm]at hk
   obtain⟨⟨k3,ls⟩,h1,hk⟩:=hk
   rw[cm]at hk
   obtain⟨⟨k4,hs⟩,h2,hk⟩:=hk
   refine⟨k3,ls,?_,k4,hs,?_,?_⟩
   ·cases lo<;>exact h1
   ·cases hi<;>exact h2
   ·simp only at hk
    cases h3:Nat.beq ti.kd 3 with
    |true=>
     simp only[h3,cond_true,cm,bc]at hk
     obtain⟨te,nZ,hk⟩:=hk
     exact .inl ⟨rfl,te,nZ,hk.symm⟩
    |false=>
     simp only[h3,cond_false]at hk
     cases h4:Nat.beq ti.kd 2 with
     |true=>
      simp only[h4,cond_true,bc]at hk
      exact .inr ⟨rfl,hk.symm⟩
     |false=>simp[h4]at hk
  obtain⟨k3,ls,nk,k4,hs,uP,o3⟩:=iz
  have fin:∀(p:Prim),k'=bP d o (k4.em p (z::(ls++hs))).1 (.v false [.p (k4.em p (z::(ls++hs))).2])->
    ∃r tz,p.ev (tz::(ls++hs).map (Lf.ev ρ))=some r∧(∀c,(bY d (Wk.get ⟨s.only R,[],ct,[]⟩) x)=.v false [c]->eB G2.q w tz (a.eval x))∧
     (∃c,(bY d (Wk.get ⟨s.only R,[],ct,[]⟩) x)=.v false [c])∧
     ((lo=none∧ls=[])∨∃x y t,lo=some x∧ls=[y]∧y.ev ρ=t∧eB (er G2.ω) w t (a.eval x))∧((hi=none∧hs=[])∨∃x y t,hi=some x∧hs=[y]∧y.ev ρ=t∧eB (er G2.ω) w t (a.eval x))∧
     (∀v,(execOp a.eval o).run P w=.ok (.value v) w->eB G2.q w r v->(∀x,v≠.agg x)->bH P M B d up ρ a w s o k'.w Q∧k'.ct.i=ct.i):=by
   intro p hp
   subst hp
   have jk:=cF.1 hd
   obtain⟨F5,r,hr,mZ⟩:=Wk.bK jk
   have hs3:k2.eO k3:=by
    unfold oC at nk
    split at nk
    ·simp only[bc,Prod.mk.injEq]at nk;obtain⟨rfl,_⟩:=nk;exact .refl _
    ·simp only[cm,bc,Prod.mk.injEq]at nk
     obtain⟨⟨k5,y5⟩,h5,rfl,_⟩:=nk
     unfold Wk.one at h5
     split at h5
     ·exact Wk.dF h5
     ·cases h5
   obtain⟨yb,C5,nh⟩:=C7 (w2.same hs3) (f:=bY d (Wk.get ⟨s.only R,[],ct,[]⟩)) (λy _=>gX y) uP F5
   obtain⟨ov,_,lI⟩:=C7 w2 (f:=bY d (Wk.get ⟨s.only R,[],ct,[]⟩)) (λy _=>gX y) nk yb
   have wQ:∃c,(bY d (Wk.get ⟨s.only R,[],ct,[]⟩) x)=.v false [c]:=by
    unfold Wk.one at np
    split at np
    ·rename_i c dN;exact⟨c,dN⟩
    ·cases np
   obtain⟨c,hc⟩:=wQ
   have PB:=gX x
   rw[hc]at PB np wY
   obtain⟨_,nX,oJ,_⟩:=PB
   cases nX
   have gM:k1.val c=some (k2,z):=np
   obtain⟨Nw,w1',_,_,_,_,rV,_⟩:=hw.ef wY
   obtain⟨tz,hz,PC⟩:=Wk.qn gM oJ w1 (by simpa[Ci]using rV)
   refine⟨r,tz,by simpa[Lf.bG hz]using hr,λ_ _=>PC,⟨c,hc⟩,lI,nh,λv hv hdv CV=>⟨?_,?_⟩⟩
   ·exact qQ h (((w2.same hs3).same C5).same (Wk.bB _ _ _)) hn hv (O1 mZ hdv CV) (λi hi=>by simp[cT,dt]at hi) Q
   ·rw[mw,(Wk.bB _ _ _).i,C5.i,hs3.i,my.i,e3]
  have d_:∀v,(Instr.sliceAt t (a.eval x) (lo.map a.eval) (hi.map a.eval) none).run P w=.ok v w->(execOp a.eval o).run P w=.ok (.value v) w:=by
   intro v hv
   exact BC (x:=Instr.sliceAt t (a.eval x) (lo.map a.eval) (hi.map a.eval) none) (by unfold execOp;rw[ho];rfl) hv
  rcases o3 with⟨h3,te,nZ,hk⟩|⟨h3,hk⟩
  ·obtain⟨r,tz,hr,PC,⟨c,hc⟩,lI,nh,o3⟩:=fin _ hk
   obtain⟨xs,rfl,dQ,hr⟩:=PA hr
   obtain⟨l,hh,hF,m5,tT⟩:=HY (F:=λl h=>if 0<=l then(if l<=h then(if h<=xs.length then some (T.l ((xs.take h.toNat).drop l.toNat))else none)else none)else none) lI nh hr
   split at hF
   ·rename_i h0
    split at hF
    ·rename_i uO
     split at hF
     ·rename_i PD
      simp only[bc]at hF
      subst hF
      have zr:=PC c hc
      obtain⟨ao,cap,gM,lH⟩:=zr.rows
      have hT:=dC.ty _ _ fj
      have hE:=dC.ty _ _ nZ
      obtain⟨i,zz,rU,nl,_⟩:=hE.info
      by_cases qX:xs.length<=cap
      ·have n3:=Pz (P:=P) (w:=w) (hT.sl (du h3)) ⟨i,rU,nl⟩ (ao:=ao) qX m5 tT h0 uO PD
       rw[<-gM]at n3
       refine o3 _ (d_ _ n3) ?_ (λ_ hf=>by unfold sliced at hf;cases hf)
       rw[gM]at zr
       exact zr.sub (by omega) (by omega) dQ
      ·have wZ:xs=[]:=by
        cases xs with
        |nil=>rfl
        |cons y ys=>exact absurd (lH (by simp)) qX
       subst wZ
       simp at qX
     ·cases hF
    ·cases hF
   ·cases hF
  ·obtain⟨r,tz,hr,PC,⟨c,hc⟩,lI,nh,o3⟩:=fin _ hk
   obtain⟨x',rfl,hr⟩:=acO hr
   obtain⟨l,hh,hF,m5,tT⟩:=HY (F:=λl h=>if 0<=l then(if l<=h then(if h<=x'.size then some (T.c (.string (x'.extract l.toNat h.toNat)))else none)else none)else none) lI nh hr
   split at hF
   ·rename_i h0
    split at hF
    ·rename_i uO
     split at hF
     ·rename_i PD
      simp only[bc]at hF
      subst hF
      obtain⟨gM,_⟩:=(PC c hc).scalar
      have hT:=dC.ty _ _ fj
      have n3:=acP (P:=P) (w:=w) (hT.st (du h3)) (x:=x') m5 tT h0 uO PD
      rw[<-gM]at n3
      exact o3 _ (d_ _ n3) (.c rfl) (λ_ hf=>by cases hf)
     ·cases hF
    ·cases hF
   ·cases hF
end
def Gh.dO(G:Gh)(nb:Option Nat)(i:Nat)(f:Lb->Option Lb)(Hn:List (Nat×Nat)->Value)(ma:∀p,∃a n c,Hn p=.slice a n c):Gh where
 ω:=λb=>if nb=some b then some (.o i [])else(G.ω b).bind f
 β:=G.β
 H:=λj=>if j=i then Hn else G.H j
 hs:=λj p=>by
  by_cases h:j=i
  ·simp only[h,if_true];exact ma p
  ·simp only[h,if_false];exact G.hs j p
section
variable {M:Nat->Prop} {B:eu} {d:Nat} {up:Nat->Nat->Value} {ρ:List T} {G:Gh} {a:Act} {w:World} {S:Nat->af} {P:Program}
variable {cx:Cx} {cw eW oi:Nat} {s:St} {R:List bf} {ct:Ct} {k':Wk} {o:Oper} {Q:Exit->Act->World->Prop}
variable {nb:Option Nat} {i:Nat} {f:Lb->Option Lb} {Hn:List (Nat×Nat)->Value} {ma:∀p,∃a n c,Hn p=.slice a n c} {w':World}
theorem C9(PE:∀l l',qt l=true->f l=some l'->qt l'=true){b:Nat}(dj:nb≠some b)(h0:G.q b=none):(G.dO nb i f Hn ma).q b=none:=by
 refine sC h0 (λh1=>by simp[Gh.dO,dj,h1]) λl hl hq=>?_
 cases sK:f l with
 |none=>exact .inl (by simp[Gh.dO,dj,hl,sK])
 |some l'=>exact .inr ⟨l',by simp[Gh.dO,dj,hl,sK],PE l l' hq sK⟩
theorem acS{I:Lb->Prop}(hf:∀l,¬I l->f l=some l)(PE:∀l l',qt l=true->f l=some l'->qt l'=true)(qo:∀c,nb=some c->w.heap.size<=c∨∃l,G.ω c=some l∧I l∧qt l=false)(hs:w.heap.size<=w'.heap.size)
  (hh:∀b,b<w.heap.size->nb≠some b->w'.heap[b]?=w.heap[b]?)(je:∀b l,G.ω b=some l->b<w.heap.size):da I (λj=>j=i) G w (G.dO nb i f Hn ma) w':=by
 refine⟨hs,λb hb h0=>?_,λb hb h0=>?_,λb l hb hl=>?_,λj hj=>?_⟩
 ·have dj:nb≠some b:=by
   intro e
   rcases qo _ e with h|⟨l,h,_,hq⟩
   ·omega
   ·exact sB h hq h0
  refine⟨C9 PE dj h0,hh b hb dj⟩
 ·have dj:nb≠some b:=by
   intro e
   rcases qo _ e with h|⟨l,h,_⟩
   ·omega
   ·rw[h0]at h;cases h
  simp[Gh.dO,dj,h0]
 ·have a_:=je b l hb
  have dj:nb≠some b:=by
   intro e
   rcases qo _ e with h|⟨l',h,h',_⟩
   ·omega
   ·rw[hb]at h;cases h;exact hl h'
  exact⟨by simp[Gh.dO,dj,hb,hf l hl],hh b a_ dj⟩
 ·exact⟨rfl,λ_ _=>by simp[Gh.dO,hj]⟩
theorem acT{x:Sem Value}{v:Value}(he:execOp a.eval o=(do let v <-x;pure (Next.value v)))(h:x.run P w=.ok v w'):(execOp a.eval o).run P w=.ok (.value v) w':=by
 rw[he,Sem.run_bind,h];rfl
theorem bH.mono{M':Nat->Prop}{W:St}(h:bH P M B d up ρ a w s o W Q)(hM:∀i,M i->M' i):bH P M' B d up ρ a w s o W Q:=
 Oper.wp_mono (λa' w' ⟨G',h1,h2⟩=>⟨G',h1.mono hM,h2⟩) h
theorem C_{k:Wk}{G1:Gh}(h:Rel M B d up s ρ G a w)(hk:db M B d up ρ G a w k G1)(hn:∀n,o.dst=some n->n<a.tmps.size)(hM:¬M k.ct.i)
  {W1:St}{kw:Wk}{dp:Bool}{y:Lf}{t:T}{v:Value}
  (PF:∀r,kw.w.look r=(St.look ((.o k.ct.i,.ob dp y)::W1) r).or (k.w.look r))(vK:∀r u,W1.look r=some u->∃j,r=.o j∧cA (G1.dO nb k.ct.i f Hn ma) w' ρ j u∧M j∧∀i∈cT u,M i)
  (hf:∀l,(∀j p,l=.o j p->W1.look (.o j)=none)->f l=some l)(ie:∀l l',(∃b,G1.ω b=some l)->f l=some l'->M l'.id∨l'.id=k.ct.i)
  (PE:∀l l',qt l=true->f l=some l'->qt l'=true)(qo:∀c,nb=some c->c=w.heap.size∨∃j,G1.ω c=some (.o j [])∧W1.look (.o j)≠none∧j%4≠2)(hs:w.heap.size<=w'.heap.size)(acU:∀c,nb=some c->c<w'.heap.size)
  (hh:∀b,b<w.heap.size->nb≠some b->w'.heap[b]?=w.heap[b]?)(so:iU w w')(hv:v=Hn [])
  (hy:y.fq ρ=some t)(bu:eg (G1.dO nb k.ct.i f Hn ma) w' k.ct.i dp [] t)(hx:(execOp a.eval o).run P w=.ok (.value v) w'):
  bH P (Mn M k.ct.i (k.ct.i+1)) B d up ρ a w s o (bP d o kw (.v false [.o k.ct.i []])).w Q:=by
 have ib:Mn M k.ct.i (k.ct.i+1) k.ct.i:=.inr ⟨Nat.le_refl _,Nat.lt_succ_self _⟩
 have Nx:∀j u,W1.look (.o j)=some u->St.look (eP d o (.v false [.o k.ct.i []])++((bf.o k.ct.i,SV.ob dp y)::W1)) (.o j)≠none:=by
  intro j u hu
  rw[jX]
  intro e
  have:=(Option.or_eq_none_iff.1 e).2
  simp only[St.look,hu]at this
  cases hb:(bf.o k.ct.i).beq (.o j)<;>simp[hb]at this
 have hK:da (ng (eP d o (.v false [.o k.ct.i []])++((bf.o k.ct.i,SV.ob dp y)::W1))) (λj=>j=k.ct.i) G1 w (G1.dO nb k.ct.i f Hn ma) w':=by
  refine acS (λl hl=>hf l λj p hj=>?_) PE ?_ hs hh λb l hb=>(hk.rel.gx b l hb).2
  ·subst hj
   cases hw:W1.look (.o j)with
   |none=>rfl
   |some u=>exact absurd (Nx j u hw) hl
  ·intro c hc
   rcases qo c hc with rfl|⟨j,h1,h2,h3⟩
   ·exact .inl (Nat.le_refl _)
   ·obtain⟨u,hu⟩:=Option.ne_none_iff_exists'.1 h2
    exact .inr ⟨_,h1,Nx j u hu,CM h3⟩
 simp only[bH,Oper.wp,hx,Oper.upon]
 refine⟨G1.dO nb k.ct.i f Hn ma,F7 h hk (W2:=eP d o (.v false [.o k.ct.i []])++((bf.o k.ct.i,SV.ob dp y)::W1)) (uL (W2:=(bf.o k.ct.i,SV.ob dp y)::W1) PF)
  hK (λj hj=>by subst hj;exact hM) (λj hj=>.inl hj) (λn m4=>F8 m4) so ?_,x_ _ _ _⟩
 refine⟨λe n u he hl=>?_,λb u hl=>?_,λj u hl=>?_,λr u hl j hj=>?_,λj hj=>?_,λb l hb=>?_⟩
 ·rcases jD hl with⟨n',gm,e1,rfl⟩|hl
  ·cases e1
   rw[gm,Nr (hn _ gm),hv]
   refine⟨_,rfl,⟨[],rfl,by simp[Gh.dO]⟩,λx hx=>?_⟩
   obtain⟨a1,a2,a3,e1⟩:=ma []
   rw[e1]at hx;cases hx
  ·rcases iH hl with⟨e1,_⟩|hl
   ·cases e1
   ·obtain⟨j,e1,_⟩:=vK _ _ hl;cases e1
 ·rcases jD hl with⟨n',gm,e1,rfl⟩|hl
  ·cases e1
  ·rcases iH hl with⟨e1,rfl⟩|hl
   ·cases e1
   ·obtain⟨j,e1,_⟩:=vK _ _ hl;cases e1
 ·rcases jD hl with⟨n',gm,e1,rfl⟩|hl
  ·cases e1
  ·rcases iH hl with⟨e1,rfl⟩|hl
   ·cases e1
    exact⟨t,hy,bu⟩
   ·obtain⟨j,e1,h2,_⟩:=vK _ _ hl;cases e1;exact h2
 ·rcases jD hl with⟨n',gm,e1,rfl⟩|hl
  ·simp[cT,dt]at hj;subst hj;exact ib
  ·rcases iH hl with⟨e1,rfl⟩|hl
   ·simp[cT]at hj
   ·obtain⟨j',e1,_,_,hm⟩:=vK _ _ hl;exact .inl (hm j hj)
 ·have:∀r:bf,(r=.x j∨r=.o j)->St.look (eP d o (.v false [.o k.ct.i []])++((bf.o k.ct.i,SV.ob dp y)::W1)) r≠none->Mn M k.ct.i (k.ct.i+1) j:=by
   intro r hr hl
   obtain⟨u,hu⟩:=Option.ne_none_iff_exists'.1 hl
   rcases jD hu with⟨n',gm,e1,rfl⟩|hl
   ·rcases hr with rfl|rfl<;>cases e1
   ·rcases iH hl with⟨e1,rfl⟩|hl
    ·rcases hr with rfl|rfl
     ·cases e1
     ·cases e1;exact ib
    ·obtain⟨j',e1,_,hm,_⟩:=vK _ _ hl
     rcases hr with rfl|rfl
     ·cases e1
     ·cases e1;exact .inl hm
  rcases hj with hj|hj
  ·exact this _ (.inl rfl) hj
  ·exact this _ (.inr rfl) hj
 ·simp only[Gh.dO]at hb
  split at hb
  ·rename_i he
   cases hb
   exact⟨ib,acU _ he⟩
  ·obtain⟨l0,h0,h1⟩:=Option.bind_eq_some_iff.1 hb
   obtain⟨_,a_⟩:=hk.rel.gx b l0 h0
   refine⟨?_,by omega⟩
   rcases ie l0 l ⟨_,h0⟩ h1 with hm|he
   ·exact .inl hm
   ·rw[he];exact ib
end
section
variable {M:Nat->Prop} {B:eu} {d:Nat} {up:Nat->Nat->Value} {ρ:List T} {G:Gh} {a:Act} {w:World} {S:Nat->af} {P:Program}
variable {cx:Cx} {cw eW oi:Nat} {s:St} {R:List bf} {ct:Ct} {k':Wk} {o:Oper} {Q:Exit->Act->World->Prop}
def zT:List Ce->List T
 | []=>[]
 | .p (.k v)::cs=>.c v::zT cs
 |_::cs=>.l []::zT cs
theorem HZ:∀{zs:List Ce} {vs:List Value} {k k1:Wk} {xs:List Lf},zd zs vs->k.iQ zs=some (k1,xs)->k1=k∧xs.map (Lf.ev ρ)=zT zs
 | [],[],k,k1,xs,_,h=>by simp[Wk.iQ]at h;obtain⟨rfl,rfl⟩:=h;exact⟨rfl,rfl⟩
 | [],_::_,_,_,_,h,_=>h.elim
 | .p (.k v)::cs,v'::vs,k,k1,xs,h,hk=>by
  obtain⟨rfl,hs,h⟩:=h
  simp only[Wk.iQ,Wk.val,Option.bind_some,cm,bc,Prod.mk.injEq]at hk
  obtain⟨⟨k2,ys⟩,h2,rfl,rfl⟩:=hk
  obtain⟨rfl,h3⟩:=HZ h h2
  exact⟨rfl,by simp[zT,h3,Lf.ev]⟩
 | .n::cs,v'::vs,k,k1,xs,h,hk=>by
  obtain⟨rfl,h⟩:=h
  simp only[Wk.iQ,Wk.val,Option.bind_some,cm,bc,Prod.mk.injEq]at hk
  obtain⟨⟨k2,ys⟩,h2,rfl,rfl⟩:=hk
  obtain⟨rfl,h3⟩:=HZ h h2
  exact⟨rfl,by simp[zT,h3,Lf.ev]⟩
 | .p (.k _)::_,[],_,_,_,h,_=>h.elim
 | .n::_,[],_,_,_,h,_=>h.elim
 | .p (.a _)::_,[],_,_,_,h,_=>h.elim
 | .p (.a _)::_,_::_,_,_,_,h,_=>h.elim
 | .p .e::_,[],_,_,_,h,_=>h.elim
 | .p .e::_,_::_,_,_,_,h,_=>h.elim
 | .o _ _::_,[],_,_,_,h,_=>h.elim
 | .o _ _::_,_::_,_,_,_,h,_=>h.elim
 | .d::_,[],_,_,_,h,_=>h.elim
 | .d::_,_::_,_,_,_,h,_=>h.elim
theorem H0:∀{zs:List Ce} {vs:List Value},zd zs vs->(zT zs).length=vs.length∧∀(j:Nat) (t:T),(zT zs)[j]?=some t->
  ∃v,vs[j]?=some v∧((t=.c v∧jH v=true)∨(t=.l []∧v=.slice none 0 0))
 | [],[],_=>⟨rfl,λj t h=>by simp[zT]at h⟩
 | [],_::_,h=>h.elim
 | .p (.k v)::cs,v'::vs,h=>by
  obtain⟨rfl,hs,h⟩:=h
  obtain⟨h1,h2⟩:=H0 h
  refine⟨by simp[zT,h1],λj t ht=>?_⟩
  cases j with
  |zero=>simp[zT]at ht;subst ht;exact⟨v,rfl,.inl ⟨rfl,hs⟩⟩
  |succ j=>simpa using h2 j t (by simpa[zT]using ht)
 | .n::cs,v'::vs,h=>by
  obtain⟨rfl,h⟩:=h
  obtain⟨h1,h2⟩:=H0 h
  refine⟨by simp[zT,h1],λj t ht=>?_⟩
  cases j with
  |zero=>simp[zT]at ht;subst ht;exact⟨_,rfl,.inr ⟨rfl,rfl⟩⟩
  |succ j=>simpa using h2 j t (by simpa[zT]using ht)
 | .p (.k _)::_,[],h=>h.elim
 | .n::_,[],h=>h.elim
 | .p (.a _)::_,[],h=>h.elim
 | .p (.a _)::_,_::_,h=>h.elim
 | .p .e::_,[],h=>h.elim
 | .p .e::_,_::_,h=>h.elim
 | .o _ _::_,[],h=>h.elim
 | .o _ _::_,_::_,h=>h.elim
 | .d::_,[],h=>h.elim
 | .d::_,_::_,h=>h.elim
theorem PG{z:Array Value}{n i j:Nat}(hj:j<z.size)(hi:i<n):(madeCells z (n*z.size))[i*z.size+j]?=z[j]?:=by
 have a_:i*z.size+j<n*z.size:=by
  have:(i+1)*z.size<=n*z.size:=Nat.mul_le_mul_right _ hi
  rw[Nat.add_mul]at this
  omega
 have hm:(i*z.size+j)%z.size=j:=by rw[Nat.add_comm,Nat.add_mul_mod_self_right,Nat.mod_eq_of_lt hj]
 simp[madeCells,a_,hm,hj]
theorem acV{n i j:Nat}{ts:List T}{t:T}(h:dr (List.replicate n ts) i j=some t):i<n∧ts[j]?=some t:=by
 unfold dr at h
 rw[List.getElem?_replicate]at h
 split at h
 ·rename_i hi;exact⟨hi,h⟩
 ·simp at h
theorem acW{t t' r:T}{ts:List T}(h:Prim.ev .mk (t::t'::ts)=some r):∃(k k2:IntKind) (n c:Int),t=.c (.int k n)∧t'=.c (.int k2 c)∧0<=n∧n=c∧c<rL∧r=.l (List.replicate n.toNat ts):=by
 cases t with
 |l _=>simp[Prim.ev]at h
 |c v=>
  cases v with
  |int k n=>
   cases t' with
   |l _=>simp[Prim.ev]at h
   |c v'=>
    cases v' with
    |int k2 c=>
     simp only[Prim.ev]at h
     split at h
     ·split at h
      ·split at h
       ·simp only[bc]at h
        exact⟨k,k2,n,c,rfl,rfl,by assumption,by assumption,by assumption,h.symm⟩
       ·cases h
      ·cases h
     ·cases h
    |_=>simp[Prim.ev]at h
  |_=>cases t'<;>simp[Prim.ev]at h
theorem acX(dC:dU P cx)(h:Rel M B d up s ρ G a w)(hn:∀n,o.dst=some n->n<a.tmps.size){t:Nat}{x y:Operand}(ho:o.op=.makeSlice t x y)
  (hk:iy cx cw eW d o oi ⟨s.only R,[],ct,[]⟩=some k')(hd:k'.bm S ρ)(hM:∀i,ct.i<=i->i<k'.ct.i->¬M i):bH P (Mn M ct.i k'.ct.i) B d up ρ a w s o k'.w Q:=by
 have hw:=db.start h R ct
 simp only[iy,ho,cm]at hk
 obtain⟨ti,fj,te,nZ,⟨k1,n⟩,h1,⟨k2,m⟩,h2,⟨k3,zs⟩,h3,hk⟩:=hk
 cases hc:(Nat.beq ti.kd 3&&Nat.ble te.bytes 65536&&Nat.blt 0 te.sz)with
 |false=>simp[hc]at hk
 |true=>
  simp only[hc,cond_true,bc]at hk
  simp only[bA]at hc
  obtain⟨⟨nX,jm⟩,hc3⟩:=hc
  have hT:=dC.ty _ _ fj
  have hE:=dC.ty _ _ nZ
  obtain⟨i,z,rU,nl,Ny,BJ,uI⟩:=hE.info
  have hu:=hT.sl (du nX)
  obtain⟨rfl,w5⟩:=HZ (ρ:=ρ) uI h3
  obtain⟨pX,hza⟩:=H0 uI
  have gn:z.cells.size=te.sz:=by
   have:=(F6 (G:=G) (w:=w) (ρ:=ρ) uI).1.length
   rw[hE.ze]at this
   simpa using this.symm
  have cJ:bP d o {(k3.em .mk (n::m::zs)).1.set (.o (eE k3.ct.i)) (.ob true (k3.em .mk (n::m::zs)).2)with ct:=⟨(k3.em .mk (n::m::zs)).1.ct.a,eE k3.ct.i+1⟩} (.v false [.o (eE k3.ct.i) []])=k':=hk
  have fi:(k3.em .mk (n::m::zs)).1.bm S ρ:=by
   rw[<-cJ]at hd
   have h2:=cF.1 hd
   exact h2
  obtain⟨yb,r,hr,mZ⟩:=Wk.bK fi
  have kF:Wk.eO ⟨s.only R,[],ct,[]⟩ k1:=by
   unfold Wk.one at h1
   split at h1
   ·exact Wk.dF h1
   ·cases h1
  obtain⟨ov,my,tm,hm,hdm⟩:=Wk.fY (hw.same kF) h2 yb (hw.gX y).1
  obtain⟨_,_,tn,hn1,m4⟩:=Wk.fY hw h1 ov (hw.gX x).1
  have tR:=((hw.same kF).same my).same (Wk.bB k3 .mk (n::m::zs))
  have jV:k3.ct.i=ct.i:=by rw[my.i,kF.i]
  simp only[List.map_cons,w5,Lf.bG hm,Lf.bG hn1]at hr
  obtain⟨kn,kc,nn,cc,rfl,rfl,g1,g2,g3,rfl⟩:=acW hr
  have en:=zq m4
  have ec:=zq hdm
  have hb:=Nat.le_of_ble_eq_true jm
  have lH:cc<4294967296:=g3
  have H2:(i.bytes:Int)*cc<=281474976710656:=by
   rw[Ny]
   have e1:(te.bytes:Int)<=65536:=by omega
   have h0:(0:Int)<=cc:=by omega
   calc (te.bytes:Int)*cc<=65536*cc:=Int.mul_le_mul_of_nonneg_right e1 h0
    _<=281474976710656:=by omega
  have d_:=run_make (P:=P) w t ti.el i z hu rU BJ kn kc nn cc g1 (by omega) H2 (by omega)
  rw[nl,<-gn]at d_
  have oB:k'.ct.i=eE ct.i+1:=by rw[<-cJ,mw,<-jV]
  have jl:=yM ct.i
  have hnc:nn.toNat<=cc.toNat:=by omega
  let Hn:List (Nat×Nat)->Value:=λp=>match p with| []=>.slice (some ⟨w.heap.size,0,none⟩) nn.toNat cc.toNat|_=>.slice none 0 0
  have ma:∀p,∃a n c,Hn p=.slice a n c:=λp=>by cases p<;>exact⟨_,_,_,rfl⟩
  rw[oB,<-cJ,<-jV]
  refine bH.mono (M:=Mn M (eE k3.ct.i) (eE k3.ct.i+1)) ?_ (λi hi=>hi.imp_right λhi=>by rw[jV]at hi⊢;exact⟨by omega,hi.2⟩)
  refine C_ (nb:=some w.heap.size) (f:=some) (Hn:=Hn) (ma:=ma) (w':=w.alloc (.cells (madeCells z.cells (cc.toNat*z.cells.size)) ti.el)) (k:={(k3.em .mk (n::m::zs)).1 with ct:=⟨(k3.em .mk (n::m::zs)).1.ct.a,eE k3.ct.i⟩}) (W1:=[]) (t:=.l (List.replicate nn.toNat (zT te.zero)))
   h (show db M B d up ρ G a w {(k3.em .mk (n::m::zs)).1 with ct:=⟨(k3.em .mk (n::m::zs)).1.ct.a,eE k3.ct.i⟩} G from⟨tR.rel,tR.aU⟩) hn (hM _ (by show ct.i<=eE k3.ct.i;rw[jV];exact jl) (by rw[oB];show eE k3.ct.i<_;rw[jV];omega)) (λr=>by exact rT (k:=(k3.em .mk (n::m::zs)).1) r) (λr u hu=>by cases hu) (λl _=>rfl) (λl l' ⟨b,hb⟩ he=>by cases he;exact .inl (tR.rel.gx b _ hb).1)
   (λl l' hq he=>by cases he;exact hq) (λc hc=>by cases hc;exact .inl rfl) (by simp) (λc hc=>by cases hc;simp) (λb hb _=>heap_alloc_old w _ b hb) (CY _ _) rfl mZ ?_ (acT (x:=Instr.makeSlice t (a.eval x) (a.eval y)) (by unfold execOp;rw[ho]) (by rw[en,ec];exact d_))
  have hlen:(List.replicate nn.toNat (zT te.zero)).length=nn.toNat:=by simp
  have hzT:(zT te.zero).length=z.cells.size:=by rw[pX];simp
  have uQ:∀(ii j:Nat) (t:T),dr (List.replicate nn.toNat (zT te.zero)) ii j=some t->ii<nn.toNat∧j<z.cells.size∧∃v,z.cells[j]?=some v∧((t=.c v∧jH v=true)∨(t=.l []∧v=.slice none 0 0)):=by
   intro ii j t ht
   obtain⟨q1,q2⟩:=acV ht
   obtain⟨v,q3,q4⟩:=hza j t q2
   refine⟨q1,?_,v,by simpa using q3,q4⟩
   rw[<-hzT];exact(List.getElem?_eq_some_iff.1 q2).1
  refine .l (wd:=z.cells.size) (cv:=λ_ j=>z.cells.getD j undef) (by rw[hlen];simp[Gh.dO,Hn]) ⟨by rw[hlen];exact hnc,λhe=>by have:=congrArg List.length he;simp at this;omega⟩ (by simp[Gh.dO]) (heap_alloc_new w _) (size_madeCells _ _) (λr hr=>?_) ?_ ?_ (λ_ _ _ _ hf=>by cases hf) ?_ ?_
  ·rw[List.eq_of_mem_replicate hr];exact hzT
  ·intro ii j t ht
   obtain⟨q1,q2,v,q3,_⟩:=uQ ii j t ht
   rw[PG q2 (by omega),q3]
   simp[Array.getD_eq_getD_getElem?,q3]
  ·intro ii j v ht
   obtain⟨q1,q2,u,q3,q4⟩:=uQ ii j _ ht
   rcases q4 with⟨e1,e2⟩|⟨e1,_⟩
   ·cases e1
    exact⟨by simp[Array.getD_eq_getD_getElem?,q3],e2⟩
   ·cases e1
  ·intro ii j ys ht _
   obtain⟨q1,q2,u,q3,q4⟩:=uQ ii j _ ht
   rcases q4 with⟨e1,e2⟩|⟨e1,e2⟩
   ·cases e1
   ·simp[Array.getD_eq_getD_getElem?,q3,e2,Gh.dO,Hn]
  ·intro ii j ys ht _
   obtain⟨q1,q2,u,q3,q4⟩:=uQ ii j _ ht
   rcases q4 with⟨e1,e2⟩|⟨e1,e2⟩
   ·cases e1
   ·cases e1
    exact .nil (by simp[Gh.dO,Hn])
end
theorem eg.move{G:Gh}{w:World}{id:Nat}{p:List (Nat×Nat)}{t:T}{dp:Bool}(h:eg G w id dp p t)(fA:dp=true){G':Gh}{w':World}{tU:Nat}{p':List (Nat×Nat)}
  (gj:∀c r,G.ω c=some (.o id (p++r))->G'.ω c=some (.o tU (p'++r))∧w'.heap[c]?=w.heap[c]?)(hH:∀r,G'.H tU (p'++r)=G.H id (p++r)):eg G' w' tU dp p' t:=by
 induction h generalizing p' with
 |nil h=>exact .nil (by have:=hH [];simp only[List.append_nil]at this;rw[this];exact h)
 | @l dp p xs b wd cap bE elem cv h1 h2 h3 h4 h5 h6 h7 h8 h9 lP pK ih=>
  have hb:=gj b [] (by simpa using h3)
  simp only[List.append_nil]at hb
  have h0:=hH []
  simp only[List.append_nil]at h0
  refine .l (by rw[h0];exact h1) h2 hb.1 (hb.2.trans h4) h5 h6 h7 h8 (λi j ys hy hd=>by rw[fA]at hd;cases hd) (λi j ys hy hd=>by rw[hH [(i,j)]];exact lP i j ys hy hd) λi j ys hy hd=>?_
  refine ih i j ys hy hd rfl (p':=p'++[(i,j)]) (λc r hc=>?_) λr=>?_
  ·have:=gj c ((i,j)::r) (by simpa using hc)
   simpa using this
  ·have:=hH ((i,j)::r)
   simpa using this
structure o4 (G:Gh) (w:World) (id:Nat) (dp:Bool) (sz n0:Nat) (xs:List (List T)) (cv:Nat->Nat->Value):Prop where
 wd:∀r∈xs,r.length=sz
 sc:∀i j v,dr xs i j=some (.c v)->cv i j=v∧jH v=true
 pl:∀i j ys,dr xs i j=some (.l ys)->dp=false->eB G.q w (.l ys) (cv i j)
 hd:∀i j ys,dr xs i j=some (.l ys)->dp=true->cv i j=G.H id [(n0+i,j)]
 ow:∀i j ys,dr xs i j=some (.l ys)->dp=true->eg G w id true [(n0+i,j)] (.l ys)
theorem H3{xs ys:List (List T)}{i j:Nat}{t:T}(h:dr (xs++ys) i j=some t):
  (i<xs.length∧dr xs i j=some t)∨(xs.length<=i∧dr ys (i-xs.length) j=some t):=by
 unfold dr at h⊢
 by_cases hi:i<xs.length
 ·rw[List.getElem?_append_left hi]at h;exact .inl ⟨hi,h⟩
 ·rw[List.getElem?_append_right (by omega)]at h;exact .inr ⟨by omega,h⟩
theorem o4.join{G:Gh}{w:World}{id:Nat}{dp:Bool}{sz:Nat}{xs ys:List (List T)}{cv qU:Nat->Nat->Value}(hx:o4 G w id dp sz 0 xs cv)(hy:o4 G w id dp sz xs.length ys qU)
  {b cap:Nat}{bE:Array Value}{elem:TypeId}(hH:G.H id []=.slice (some ⟨b,0,none⟩) (xs.length+ys.length) cap)(hc:xs.length+ys.length<=cap∧(xs++ys=[]->cap=0))(gj:G.ω b=some (.o id []))
  (hh:w.heap[b]?=some (.cells bE elem (0,0)))(hs:bE.size=cap*sz)(h1:∀i j,i<xs.length->j<sz->bE[i*sz+j]?=some (cv i j))
  (h2:∀i j,i<ys.length->j<sz->bE[(xs.length+i)*sz+j]?=some (qU i j)):eg G w id dp [] (.l (xs++ys)):=by
 have lx:∀{i j:Nat} {t:T},dr xs i j=some t->i<xs.length∧j<sz:=by
  intro i j t ht
  obtain⟨r,_,hm,_,q1,q2⟩:=rO ht
  exact⟨q1,by rw[<-hx.wd r hm];exact q2⟩
 have ly:∀{i j:Nat} {t:T},dr ys i j=some t->i<ys.length∧j<sz:=by
  intro i j t ht
  obtain⟨r,_,hm,_,q1,q2⟩:=rO ht
  exact⟨q1,by rw[<-hy.wd r hm];exact q2⟩
 let c:Nat->Nat->Value:=λi j=>if i<xs.length then cv i j else qU (i-xs.length) j
 refine .l (cv:=c) (by rw[List.length_append];exact hH) (by rw[List.length_append];exact hc) gj hh hs (λr hr=>?_) ?_ ?_ ?_ ?_ ?_
 ·rcases List.mem_append.1 hr with hr|hr
  ·exact hx.wd r hr
  ·exact hy.wd r hr
 ·intro i j t ht
  rcases H3 ht with⟨q,ht⟩|⟨q,ht⟩
  ·simp only[c,if_pos q];exact h1 i j q (lx ht).2
  ·have:=h2 (i-xs.length) j (ly ht).1 (ly ht).2
   rw[show xs.length+(i-xs.length)=i by omega]at this
   simp only[c,if_neg (show¬i<xs.length by omega)];exact this
 ·intro i j v ht
  rcases H3 ht with⟨q,ht⟩|⟨q,ht⟩
  ·simp only[c,if_pos q];exact hx.sc i j v ht
  ·simp only[c,if_neg (show¬i<xs.length by omega)];exact hy.sc _ j v ht
 ·intro i j zs ht hd
  rcases H3 ht with⟨q,ht⟩|⟨q,ht⟩
  ·simp only[c,if_pos q];exact hx.pl i j zs ht hd
  ·simp only[c,if_neg (show¬i<xs.length by omega)];exact hy.pl _ j zs ht hd
 ·intro i j zs ht hd
  rcases H3 ht with⟨q,ht⟩|⟨q,ht⟩
  ·simp only[c,if_pos q];have:=hx.hd i j zs ht hd;simpa using this
  ·have:=hy.hd _ j zs ht hd
   rw[show xs.length+(i-xs.length)=i by omega]at this
   simp only[c,if_neg (show¬i<xs.length by omega)];simpa using this
 ·intro i j zs ht hd
  rcases H3 ht with⟨q,ht⟩|⟨q,ht⟩
  ·have:=hx.ow i j zs ht hd;simpa using this
  ·have:=hy.ow _ j zs ht hd
   rw[show xs.length+(i-xs.length)=i by omega]at this
   simpa using this
def qp(cv:Nat->Nat->Value)(sz m:Nat):List Value:=(List.range (m*sz)).map λk=>cv (k/sz) (k%sz)
theorem yd(cv:Nat->Nat->Value)(sz m:Nat):(qp cv sz m).length=m*sz:=by simp[qp]
theorem zt{cv:Nat->Nat->Value}{sz m i j:Nat}(hi:i<m)(hj:j<sz):(qp cv sz m)[i*sz+j]?=some (cv i j):=by
 have a_:i*sz+j<m*sz:=by
  have:(i+1)*sz<=m*sz:=Nat.mul_le_mul_right _ hi
  rw[Nat.add_mul]at this
  omega
 have h1:(i*sz+j)/sz=i:=by rw[Nat.add_comm,Nat.add_mul_div_right _ _ (by omega),Nat.div_eq_of_lt hj];omega
 have h2:(i*sz+j)%sz=j:=by rw[Nat.add_comm,Nat.add_mul_mod_self_right,Nat.mod_eq_of_lt hj]
 simp[qp,a_,h1,h2]
theorem ac0{cv:Nat->Nat->Value}{sz m:Nat}{v:Value}(gn:0<sz)(h:v∈qp cv sz m):∃i j,i<m∧j<sz∧v=cv i j:=by
 simp only[qp,List.mem_map,List.mem_range]at h
 obtain⟨k,hk,rfl⟩:=h
 exact⟨k/sz,k%sz,Nat.div_lt_of_lt_mul (by rw[Nat.mul_comm];exact hk),Nat.mod_lt _ gn,rfl⟩
section
variable {ρ:List T} {w:World} {P:Program}
theorem ac1{sz wd:Nat}{xs:List (List T)}(hw:∀r∈xs,r.length=wd)(dQ:okW sz xs=true):∀r∈xs,r.length=sz:=by
 intro r hr
 cases xs with
 |nil=>cases hr
 |cons x xs=>
  have h1:=hw x (by simp)
  have h2:=du dQ
  rw[hw r hr,<-h1,h2]
theorem C'{xs:List (List T)}{sz i j:Nat}(hw:∀r∈xs,r.length=sz)(hi:i<xs.length)(hj:j<sz):∃t,dr xs i j=some t:=by
 have hr:=List.getElem?_eq_getElem hi
 have hl:=hw xs[i] (List.getElem_mem hi)
 exact⟨xs[i][j],by simp[dr,hr,List.getElem?_eq_getElem (show j<xs[i].length by omega)]⟩
theorem H4{ω:Nat->Option Lb}{ys:List (List T)}{v:Value}(h:eB ω w (.l ys) v){sz:Nat}(gn:0<sz)(dQ:okW sz ys=true){tx e':TypeId}(ht:P.underlying tx=some (.slice e')):
  ∃cv:Nat->Nat->Value,Src P sz tx v ys.length (qp cv sz ys.length) w∧(∀r∈ys,r.length=sz)∧(∀i j t,dr ys i j=some t->eB ω w t (cv i j))∧
   (∀b off n cap,v=.slice (some ⟨b,off,none⟩) n cap->∀i j t,dr ys i j=some t->w.cell? ⟨b,off+(i*sz+j),none⟩=some (cv i j)):=by
 cases h with
 |nil=>
  rename_i ao cap
  refine⟨λ_ _=>undef,?_,(λr hr=>by cases hr),(λi j t h=>by simp[dr]at h),λ_ _ _ _ _ i j t h=>by simp[dr]at h⟩
  have e0:qp (λ_ _=>undef) sz ([]:List (List T)).length=[]:=by simp[qp]
  rw[e0]
  cases ao with
  |none=>exact Src.ofNil w ht cap
  |some ad=>exact Src.ofSlice w ht ad 0 cap [] (by simp) (λj u hu=>by simp at hu) λu hu=>by cases hu
 | @l _ b off wd cap cv hw hc hb a_ h1 h2=>
  have Nz:=ac1 hw dQ
  have sM:ys=[]∨wd=sz:=by
   cases ys with
   |nil=>exact .inl rfl
   |cons y ys=>exact .inr ((hw y (by simp)).symm.trans (Nz y (by simp)))
  have oZ:∀i j t,dr ys i j=some t->w.cell? ⟨b,off+(i*sz+j),none⟩=some (cv i j):=by
   intro i j t bq
   rcases sM with rfl|rfl
   ·simp[dr]at bq
   ·exact h1 i j t bq
  refine⟨cv,Src.ofSlice w ht ⟨b,off,none⟩ ys.length cap _ (yd _ _ _) (λk u hu=>?_) (λu hu=>?_),Nz,h2,λb' acj n' qT he=>by cases he;exact oZ⟩
  ·have hk:k<ys.length*sz:=by rw[<-yd cv sz ys.length];exact(List.getElem?_eq_some_iff.1 hu).1
   have hi:k/sz<ys.length:=Nat.div_lt_of_lt_mul (by rw[Nat.mul_comm];exact hk)
   have hj:k%sz<sz:=Nat.mod_lt _ gn
   have lp:(k/sz)*sz+k%sz=k:=by rw[Nat.mul_comm];exact Nat.div_add_mod k sz
   obtain⟨t,bq⟩:=C' Nz hi hj
   have:=zt (cv:=cv) hi hj
   rw[lp,hu]at this
   cases this
   have jm:=oZ _ _ t bq
   rw[lp]at jm
   rw[Addr.add_lit]
   exact jm
  ·obtain⟨i,j,hi,hj,rfl⟩:=ac0 gn hu
   obtain⟨t,bq⟩:=C' Nz hi hj
   exact(h2 i j t bq).one
end
section
variable {P:Program} {w:World}
theorem PH(b:Nat)(t:TypeId):∀(vs:List Value) (o:Nat) (w:World) (bE:Array Value),w.heap[b]?=some (.cells bE t (0,0))->
  (w.setCells b o vs).heap[b]?=some (.cells (wV vs o bE) t (0,0))∧(∀c,c≠b->(w.setCells b o vs).heap[c]?=w.heap[c]?)∧(w.setCells b o vs).heap.size=w.heap.size∧
   iU w (w.setCells b o vs)
 | [],o,w,bE,h=>⟨h,λ_ _=>rfl,rfl,⟨rfl,rfl,rfl⟩⟩
 |v::vs,o,w,bE,h=>by
  have h1:=heap_setCell_same w b o bE t v h
  obtain⟨g1,g2,g3,g4⟩:=PH b t vs (o+1) _ _ h1
  refine⟨g1,λc hc=>(g2 c hc).trans (heap_setCell_other w ⟨b,o,none⟩ c v hc),?_,?_⟩
  ·rw[World.setCells,g3];simp
  ·exact⟨g4.os.trans rfl,g4.tape.trans rfl,g4.output.trans rfl⟩
def Da(w:World)(sz:Nat)(v:Value)(n:Nat)(b0:Option Nat)(cv:Nat->Nat->Value):Prop:=
 (v=.slice none 0 0∧n=0∧b0=none)∨∃b cap bE elem,v=.slice (some ⟨b,0,none⟩) n cap∧b0=some b∧w.heap[b]?=some (.cells bE elem (0,0))∧bE.size=cap*sz∧n<=cap∧(n=0->cap=0)∧
  ∀i j,i<n->j<sz->bE[i*sz+j]?=some (cv i j)
structure PI (w w':World) (sz:Nat) (v':Value) (n m:Nat) (b0 nb:Option Nat) (cv qU:Nat->Nat->Value):Prop where
 so:iU w w'
 size:w.heap.size<=w'.heap.size
 Db:∀c,c<w.heap.size->nb≠some c->w'.heap[c]?=w.heap[c]?
 at_:∀c,nb=some c->(c=w.heap.size∨b0=some c)∧c<w'.heap.size
 len:∀c,b0=some c->nb=some c->∀bE elem z,w.heap[c]?=some (.cells bE elem z)->∃iG zu,w'.heap[c]?=some (.cells iG zu (0,0))∧iG.size=bE.size
 row:(nb=none∧v'=.slice none 0 0∧n=0∧m=0)∨∃b cap bE elem,nb=some b∧v'=.slice (some ⟨b,0,none⟩) (n+m) cap∧w'.heap[b]?=some (.cells bE elem (0,0))∧bE.size=cap*sz∧n+m<=cap∧(n+m=0->cap=0)∧
  (∀i j,i<n->j<sz->bE[i*sz+j]?=some (cv i j))∧∀i j,i<m->j<sz->bE[(n+i)*sz+j]?=some (qU i j)
theorem zv{i n j sz:Nat}(hi:i<n)(hj:j<sz):i*sz+j<n*sz:=by
 have:(i+1)*sz<=n*sz:=Nat.mul_le_mul_right _ hi
 rw[Nat.add_mul]at this
 omega
theorem ac2{bE:Array Value}{sz n:Nat}{cv:Nat->Nat->Value}(gn:0<sz)(h:∀i j,i<n->j<sz->bE[i*sz+j]?=some (cv i j)){k:Nat}{u:Value}(hu:(qp cv sz n)[k]?=some u):bE[k]?=some u:=by
 have hk:k<n*sz:=by rw[<-yd cv sz n];exact(List.getElem?_eq_some_iff.1 hu).1
 have hi:k/sz<n:=Nat.div_lt_of_lt_mul (by rw[Nat.mul_comm];exact hk)
 have hj:k%sz<sz:=Nat.mod_lt _ gn
 have lp:(k/sz)*sz+k%sz=k:=by rw[Nat.mul_comm];exact Nat.div_add_mod k sz
 have h1:=zt (cv:=cv) hi hj
 rw[lp,hu]at h1
 cases h1
 have h2:=h _ _ hi hj
 rw[lp]at h2
 exact h2
theorem PJ{t tx ty e:TypeId}{i:TypeInfo}{z:Value}(ht:P.underlying t=some (.slice e))(hi:P.info? e=some i)(hz:i.zero=some z){sz:Nat}(hs:i.size=sz)(w5:z.cells.size=sz)(gn:0<sz)
  (PK:i.bytes<=32768){va vb:Value}{n m:Nat}{b0:Option Nat}{cv qU:Nat->Nat->Value}(hr:Da w sz va n b0 cv)(nq:Src P sz tx vb m (qp qU sz m) w)(lH:n+m<rL):
  ∃v' w' nb,(Builtin.append_ #[t,tx] ty #[va,vb]).run P w=.ok v' w'∧PI w w' sz v' n m b0 nb cv qU:=by
 subst hs
 have asD:n+m<4294967296:=lH
 have grown:∀(base:Option Addr) (uR:Nat),(Builtin.firstCells i.size n (.slice base n uR)).run P w.drew=.ok (qp cv i.size n).toArray w.drew->uR<n+m->
   ∃v' w' nb,(Builtin.append_ #[t,tx] ty #[.slice base n uR,vb]).run P w=.ok v' w'∧PI w w' i.size v' n m b0 nb cv qU:=by
  intro base uR hold a_
  have kQ:Builtin.nextslicecap (n+m) uR*i.bytes<=281474976710656:=growslice_fits (by omega) (by
   calc (n+m)*i.bytes<=4294967296*32768:=Nat.mul_le_mul (by omega) PK
    _=140737488355328:=by rfl)
  have d_:=run_append_grow_src (P:=P) w t tx ty e i z ht hi hz base n uR _ hold vb m _ nq a_ (by omega) kQ
  refine⟨_,_,some w.heap.size,d_,⟨⟨rfl,rfl,rfl⟩,by simp,λc hc _=>heap_alloc_old w.drew _ c hc,λc hc=>by cases hc;exact⟨.inl rfl,by simp⟩,λc _ hc bE elem z hh=>(by cases hc;simp at hh),.inr ⟨w.heap.size,_,_,e,rfl,rfl,heap_alloc_new w.drew _,?_,grownCap_ge w _ _ _,λh0=>by omega,?_,?_⟩⟩⟩
  ·have PM:=grownCap_ge w (n+m) uR e
   simp only[Array.size_append,List.size_toArray,List.length_append,yd,size_zeroCells,w5,<-Nat.add_mul]
   congr 1
   omega
  ·intro ii j qO hj
   have mG:=zv qO hj
   rw[Array.getElem?_append_left (by simp only[List.size_toArray,List.length_append,yd];omega),List.getElem?_toArray,List.getElem?_append_left (by rw[yd];exact mG)]
   exact zt qO hj
  ·intro ii j qO hj
   have mG:=zv qO hj
   have e1:(n+ii)*i.size+j=n*i.size+(ii*i.size+j):=by rw[Nat.add_mul];omega
   rw[Array.getElem?_append_left (by simp only[List.size_toArray,List.length_append,yd];omega),List.getElem?_toArray,List.getElem?_append_right (by rw[yd];omega),yd,
    show(n+ii)*i.size+j-n*i.size=ii*i.size+j by omega]
   exact zt qO hj
 rcases hr with⟨rfl,rfl,rfl⟩|⟨b,cap,bE,elem,rfl,rfl,hb,sN,hnc,wU,qR⟩
 ·by_cases hm:m=0
  ·subst hm
   refine⟨.slice none 0 0,w,none,?_,⟨⟨rfl,rfl,rfl⟩,Nat.le_refl _,λ_ _ _=>rfl,(λc hc=>by cases hc),(λc _ hc=>by cases hc),.inl ⟨rfl,rfl,rfl,rfl⟩⟩⟩
   rcases nq.kind with⟨e',hk⟩|hk<;>simp[Builtin.append_,run_underlying ht,run_underlying hk,sizeOf,typeInfo,hi,nq.len,nq.cells]
  ·refine grown none 0 ?_ (by omega)
   have:=run_firstCells_none (P:=P) w.drew i.size 0 0 0
   simpa[qp]using this
 ·by_cases o5:n+m<=cap
  ·have Gc:n*i.size+(qp qU i.size m).length<=bE.size:=by rw[yd,sN,<-Nat.add_mul];exact Nat.mul_le_mul_right _ o5
   have d_:=run_append_room_src (P:=P) w t tx ty e i ht hi b 0 n cap vb m _ nq o5 (λj hj=>by
    rw[uG hb];simp only[Nat.zero_add];rw[Array.getElem?_eq_getElem (by omega)];rfl) (λj hj=>by simp[World.frozen?,hb])
   obtain⟨g1,g2,g3,g4⟩:=PH b elem (qp qU i.size m) (0+n*i.size) w bE hb
   have ac3:b<w.heap.size:=F0 hb
   refine⟨_,_,some b,d_,⟨g4,by rw[g3];exact Nat.le_refl _,λc _ hc=>g2 c λe=>hc (by rw[e]),λc hc=>by cases hc;exact⟨.inr rfl,by rw[g3];exact ac3⟩,λc _ hc acC Pp z2 hh=>(by cases hc;rw[hb]at hh;cases hh;exact⟨_,_,g1,HO _ _ _⟩),.inr ⟨b,cap,_,elem,rfl,rfl,g1,?_,o5,λh0=>wU (by omega),?_,?_⟩⟩⟩
   ·rw[HO];exact sN
   ·intro ii j qO hj
    have mG:=zv qO hj
    rw[Nv _ _ _ _ (by simpa using Gc),if_neg (by omega)]
    exact qR ii j qO hj
   ·intro ii j qO hj
    have mG:=zv qO hj
    have e1:(n+ii)*i.size+j=n*i.size+(ii*i.size+j):=by rw[Nat.add_mul];omega
    rw[Nv _ _ _ _ (by simpa using Gc),if_pos ⟨by omega,by rw[yd];omega⟩,show(n+ii)*i.size+j-(0+n*i.size)=ii*i.size+j by omega]
    exact zt qO hj
  ·refine grown (some ⟨b,0,none⟩) cap ?_ (by omega)
   have:=run_firstCells_some (P:=P) w.drew i.size n ⟨b,0,none⟩ n cap (qp cv i.size n) (yd _ _ _) (λj u hu=>by
    rw[Addr.add_lit]
    simp only[Nat.zero_add,World.cell?_drew]
    rw[uG hb]
    exact ac2 gn qR hu)
   exact this
end
section
variable {M:Nat->Prop} {B:eu} {d:Nat} {up:Nat->Nat->Value} {ρ:List T} {G:Gh} {a:Act} {w:World} {S:Nat->af} {P:Program}
def kl(kA kx:Wk)(W:St):Prop:=kA.r=kx.r∧∀r,kA.w.look r=(W.look r).or (kx.w.look r)
theorem ac4{k kA:Wk}{G1:Gh}{X:SV}{va:Value}{la:Lf}{Gd jY:Bool}(hk:db M B d up ρ G a w k G1)(hr:cz G1 w ρ X va)(hm:∀i∈cT X,M i)(h:Hk k X=some (kA,la,Gd))
  (fA:jY=true->Gd=true):kA.ct=k.ct∧kA.is=k.is∧∃kx G2 WA xs,db M B d up ρ G a w kx G2∧kx.ct=k.ct∧kl kA kx WA∧la.fq ρ=some (.l xs)∧
   ((va=.slice none 0 0∧xs=[]∧WA=[])∨∃kG,WA=[(.o kG,.un)]∧M kG∧kG%4≠2∧va=G2.H kG []∧eg G2 w kG jY [] (.l xs)):=by
 unfold Hk at h
 split at h
 ·simp only[bc,Prod.mk.injEq]at h
  obtain⟨rfl,rfl,rfl⟩:=h
  obtain⟨e,he,oJ,_⟩:=hr
  cases he
  exact⟨rfl,rfl,k,G1,[],[],hk,rfl,⟨rfl,λr=>by simp[St.look]⟩,rfl,.inl ⟨oJ,rfl,rfl⟩⟩
 ·rename_i id
  split at h
  ·rename_i dp x hx
   cases qW:Nat.beq (id%4) 2 with
   |true=>simp[qW]at h
   |false=>
   have zw:id%4≠2:=λe=>by rw[e]at qW;cases qW
   simp only[qW,cond_false,bc,Prod.mk.injEq]at h
   obtain⟨rfl,rfl,rfl⟩:=h
   obtain⟨e,he,oJ,_⟩:=hr
   cases he
   obtain⟨p,hp,NA⟩:=oJ
   simp only[lO,bc]at hp
   subst hp
   have hM:M id:=hm id (by simp[cT,dt])
   refine⟨rfl,rfl,?_⟩
   by_cases hd:jY=dp
   ·subst hd
    have dJ:=hk.obj id
    rw[hx]at dJ
    obtain⟨t,ht,bu⟩:=dJ
    obtain⟨xs,rfl⟩:∃ys,t=.l ys:=by cases bu<;>exact⟨_,rfl⟩
    exact⟨k,G1,[(.o id,.un)],xs,hk,rfl,⟨rfl,λr=>rT r⟩,ht,.inr ⟨id,rfl,hM,zw,NA,bu⟩⟩
   ·have e1:jY=false:=by cases jY<;>cases dp<;>simp_all
    subst e1
    have sK:k.flat id=some (k.set (.o id) (.ob false x)):=by unfold Wk.flat;rw[hx]
    obtain⟨G2,w2,f1,f2,f3,f4,f5⟩:=hk.flat sK
    have dJ:=w2.obj id
    rw[Wk.bN]at dJ
    obtain⟨t,ht,bu⟩:=dJ
    obtain⟨xs,rfl⟩:∃ys,t=.l ys:=by cases bu<;>exact⟨_,rfl⟩
    refine⟨_,G2,[(.o id,.un)],xs,w2,f4,⟨rfl,λr=>?_⟩,ht,.inr ⟨id,rfl,hM,zw,by rw[f2];exact NA,bu⟩⟩
    rw[show(k.set (.o id) .un).w.look r=_ from rT r,sH]
    by_cases pL:bf.o id=r
    ·subst pL;simp
    ·simp only[pL,if_false,Option.none_or]
     exact(St.cg _ _ pL).symm
  ·cases h
 ·cases h
def Dc(G:Gh)(w:World)(jY:Bool)(mb:Option Nat)(ys:List (List T))(cv:Nat->Nat->Value):Prop:=
 (jY=false∧∀i j t,dr ys i j=some t->eB G.q w t (cv i j))∨
 ((∀i j t,dr ys i j=some t->eh t=true∧eB (er G.ω) w t (cv i j)))∨
 (∃id,jY=true∧mb=some id∧(∀i j zs,dr ys i j=some (.l zs)->eg G w id true [(i,j)] (.l zs))∧(∀i j v,dr ys i j=some (.c v)->cv i j=v∧jH v=true)∧∀i j zs,dr ys i j=some (.l zs)->cv i j=G.H id [(i,j)])
theorem kl.get{kA kx:Wk}{W:St}(h:kl kA kx W){r:bf}(hr:W.look r=none):kA.get r=kx.get r:=by
 unfold Wk.get
 rw[h.2,hr,h.1]
 simp
theorem eg.rows{G1:Gh}{id:Nat}{ys:List (List T)}(h:eg G1 w id true [] (.l ys)):∀i j zs,dr ys i j=some (.l zs)->eg G1 w id true [(i,j)] (.l zs):=by
 intro i j zs bq
 have:=eg.bD [(i,j)] h (by simp[gW,bq]) ⟨zs,rfl⟩
 simpa using this
theorem PN{G1:Gh}{id:Nat}{dp:Bool}{ys:List (List T)}{v:Value}(h:eg G1 w id dp [] (.l ys))(hv:v=G1.H id []){sz:Nat}(gn:0<sz)(dQ:okW sz ys=true){tx e':TypeId}(ht:P.underlying tx=some (.slice e')):
  ∃cv:Nat->Nat->Value,Src P sz tx v ys.length (qp cv sz ys.length) w∧(∀r∈ys,r.length=sz)∧(∀i j v,dr ys i j=some (.c v)->cv i j=v∧jH v=true)∧
   (dp=true->∀i j zs,dr ys i j=some (.l zs)->cv i j=G1.H id [(i,j)])∧(dp=false->∀i j t,dr ys i j=some t->eB G1.q w t (cv i j)):=by
 have dK:=h.den
 rw[<-hv]at dK
 obtain⟨cv,h1,h2,h3,h4⟩:=H4 (P:=P) dK gn dQ ht
 refine⟨cv,h1,h2,λi j u bq=>?_,λhd i j zs bq=>?_,λhd i j t bq=>?_⟩
 ·exact(h3 i j _ bq).scalar
 ·cases h with
  |nil=>simp[dr]at bq
  | @l _ _ _ b wd cap bE elem qU g1 g2 g3 g4 g5 g6 g7 g8 g9 rQ zh=>
   have hc:=h4 b 0 _ _ (by rw[hv];exact g1) i j _ bq
   have mz:wd=sz:=by
    obtain⟨r,_,hm,_⟩:=rO bq
    rw[<-g6 r hm,h2 r hm]
   subst mz
   rw[uG g4,Nat.zero_add,g7 i j _ bq]at hc
   rw[<-Option.some.inj hc]
   simpa using rQ i j zs bq hd
 ·cases h with
  |nil=>simp[dr]at bq
  | @l _ _ _ b wd cap bE elem qU g1 g2 g3 g4 g5 g6 g7 g8 g9 rQ zh=>
   have hc:=h4 b 0 _ _ (by rw[hv];exact g1) i j _ bq
   have mz:wd=sz:=by
    obtain⟨r,_,hm,_⟩:=rO bq
    rw[<-g6 r hm,h2 r hm]
   subst mz
   rw[uG g4,Nat.zero_add,g7 i j _ bq]at hc
   rw[<-Option.some.inj hc]
   cases t with
   |c u=>obtain⟨e1,e2⟩:=g8 i j u bq;rw[e1];exact .c e2
   |l zs=>exact g9 i j zs bq hd
theorem kl.same{kA kx kB:Wk}{W:St}(h:kl kA kx W)(hs:kA.eO kB):kl kB kx W:=⟨hs.r.trans h.1,λr=>by rw[hs.w];exact h.2 r⟩
theorem ac5{kA kB:Wk}{Y:SV}{lb:Lf}{sl fz BK:Bool}(h:yN sl fz kA Y=some (kB,lb,BK))(hd:kB.bm S ρ):kA.bm S ρ:=by
 unfold yN at h
 split at h
 ·simp only[bc,Prod.mk.injEq]at h;rw[h.1];exact hd
 ·simp only[bc,Prod.mk.injEq]at h;rw[h.1];exact hd
 ·cases ye:sl with
  |false=>
   simp only[ye,cond_false,cm,bc,Prod.mk.injEq]at h
   obtain⟨⟨k2,x2⟩,hv,rfl,_⟩:=h
   exact Wk.lm hv hd
  |true=>
   simp only[ye,cond_true]at h
   split at h
   ·rename_i dp x hx
    cases hc:(dp&& !fz)with
    |true=>simp only[hc,cond_true,bc,Prod.mk.injEq]at h;rw[<-h.1]at hd;exact hd
    |false=>simp only[hc,cond_false,bc,Prod.mk.injEq]at h;rw[<-h.1]at hd;exact hd
   ·simp only[bc,Prod.mk.injEq]at h;rw[h.1];exact hd
   ·cases rV:fz with
    |true=>simp[rV]at h
    |false=>simp only[rV,cond_false,bc,Prod.mk.injEq]at h;rw[<-h.1]at hd;exact hd
   ·cases h
 ·cases h
theorem ac6{kA kB kx:Wk}{G1:Gh}{WA:St}{Y:SV}{vb:Value}{lb:Lf}{sl fz BK jY:Bool}(hk:db M B d up ρ G a w kx G1)(ho:kl kA kx WA)(sO:∀r u,WA.look r=some u->u=.un)
  (hr:cz G1 w ρ Y vb)(hm:∀i∈cT Y,M i)(h:yN sl fz kA Y=some (kB,lb,BK))(hd:kB.bm S ρ)(fA:jY=true->BK=true):
  kA.bm S ρ∧kB.ct.i=kA.ct.i∧∃ky G3 WB t mb,db M B d up ρ G a w ky G3∧kl kB ky (WB++WA)∧((WB=[]∧mb=none)∨∃i,mb=some i∧WB=[(.o i,.un)]∧WA.look (.o i)=none∧M i)∧
   lb.fq ρ=some t∧G3.H=G1.H∧da (λl=>∃i p,l=.o i p∧WA.look (.o i)=none) (λ_=>False) G1 w G3 w∧(∀i p,∀b,G3.ω b=some (.o i p)->G1.ω b=some (.o i p))∧
   ∀ys sz tx e',t=.l ys->0<sz->okW sz ys=true->(sl=false->ys.all (·.all eh)=true)->P.underlying tx=some (.slice e')->
    ∃cv,Src P sz tx vb ys.length (qp cv sz ys.length) w∧(∀r∈ys,r.length=sz)∧Dc G3 w jY mb ys cv:=by
 have stay:da (λl=>∃i p,l=.o i p∧WA.look (.o i)=none) (λ_=>False) G1 w G1 w:=(da.refl G1 w).mono (λ_ hf=>hf.elim) λ_ hf=>hf
 have sP:∀ys:List (List T),ys.all (·.all eh)=true->∀i j t,dr ys i j=some t->eh t=true:=by
  intro ys hs i j t bq
  obtain⟨r,_,ic,F_,_⟩:=rO bq
  exact List.all_eq_true.1 (List.all_eq_true.1 hs r ic) t (List.mem_of_getElem? F_)
 unfold yN at h
 split at h
 ·
  simp only[bc,Prod.mk.injEq]at h
  obtain⟨rfl,rfl,rfl⟩:=h
  obtain⟨e,he,oJ,_⟩:=hr
  cases he
  refine⟨hd,rfl,kx,G1,[],.l [],none,hk,ho,.inl ⟨rfl,rfl⟩,rfl,rfl,stay,λ_ _ _ h=>h,λys sz tx e' ht gn dQ _ qY=>?_⟩
  cases ht
  rw[show vb=_ from oJ]
  obtain⟨cv,h1,h2,_,_⟩:=H4 (P:=P) (.nil:eB G1.q w (.l []) (.slice none 0 0)) gn dQ qY
  exact⟨cv,h1,h2,.inr (.inl λi j t bq=>by simp[dr]at bq)⟩
 ·
  simp only[bc,Prod.mk.injEq]at h
  obtain⟨rfl,rfl,rfl⟩:=h
  obtain⟨e,he,oJ,_⟩:=hr
  cases he
  obtain⟨t,ht,dK⟩:=oJ
  refine⟨hd,rfl,kx,G1,[],t,none,hk,ho,.inl ⟨rfl,rfl⟩,ht,rfl,stay,λ_ _ _ h=>h,λys sz tx e' ht gn dQ lR qY=>?_⟩
  subst ht
  obtain⟨cv,h1,h2,h3,_⟩:=H4 (P:=P) dK gn dQ qY
  refine⟨cv,h1,h2,?_⟩
  cases hb:jY with
  |false=>exact .inl ⟨rfl,h3⟩
  |true=>
   have:=fA hb
   have ye:sl=false:=by simpa using this
   exact .inr (.inl λi j t bq=>⟨sP ys (lR ye) i j t bq,(h3 i j t bq).er⟩)
 ·
  rename_i id q
  obtain⟨e,he,oJ,_⟩:=hr
  cases he
  have NB:M id:=hm id (by simp[cT,dt])
  cases ye:sl with
  |false=>
   simp only[ye,cond_false,cm,bc,Prod.mk.injEq]at h
   obtain⟨⟨k2,x2⟩,hv,rfl,rfl,rfl⟩:=h
   have cQ:WA.look (.o id)=none:=by
    cases hl:WA.look (.o id)with
    |none=>rfl
    |some u=>
     exfalso
     have hu:=sO _ _ hl
     subst hu
     have:kA.get (.o id)=.un:=by unfold Wk.get;rw[ho.2,hl];simp
     simp[Wk.val,this]at hv
   obtain⟨t,ht,dK⟩:=Wk.kN hv hd oJ λi hi=>by
    simp[dt]at hi
    subst hi
    rw[ho.get cQ]
    exact hk.obj i
   refine⟨Wk.lm hv hd,(Wk.dF hv).i,kx,G1,[],t,none,hk,ho.same (Wk.dF hv),.inl ⟨rfl,rfl⟩,ht,rfl,stay,λ_ _ _ h=>h,λys sz tx e' ht gn dQ lR qY=>?_⟩
   subst ht
   obtain⟨cv,h1,h2,h3,_⟩:=H4 (P:=P) dK gn dQ qY
   exact⟨cv,h1,h2,.inr (.inl λi j t bq=>⟨sP ys (lR rfl) i j t bq,h3 i j t bq⟩)⟩
  |true=>
   simp only[ye,cond_true]at h
   have cQ:kA.get (.o id)≠.un->WA.look (.o id)=none:=by
    intro dj
    cases hl:WA.look (.o id)with
    |none=>rfl
    |some u=>
     exfalso
     have hu:=sO _ _ hl
     subst hu
     exact dj (by unfold Wk.get;rw[ho.2,hl];simp)
   obtain⟨p,hp,PO⟩:=oJ
   split at h
   ·rename_i dp x hx
    have hn:=cQ (by rw[hx];simp)
    simp only[lO,bc]at hp
    subst hp
    have PP:kx.get (.o id)=.ob dp x:=by rw[<-ho.get hn];exact hx
    have sQ:jY=false->∃ky G3,ky=kx.set (.o id) (.ob false x)∧db M B d up ρ G a w ky G3∧G3.H=G1.H∧da (λl=>∃i p,l=.o i p∧WA.look (.o i)=none) (λ_=>False) G1 w G3 w∧(∀i p,∀b,G3.ω b=some (.o i p)->G1.ω b=some (.o i p))∧
      ∃t,x.fq ρ=some t∧∀ys sz tx e',t=.l ys->0<sz->okW sz ys=true->P.underlying tx=some (.slice e')->∃cv,Src P sz tx vb ys.length (qp cv sz ys.length) w∧(∀r∈ys,r.length=sz)∧∀mb,Dc G3 w jY mb ys cv:=by
     intro ac7
     have hG:db M B d up ρ G a w (kx.set (.o id) (.ob false x)) (G1.free id false):=by
      have hx3:=PP
      rw[Wk.aM]at hx3
      refine⟨(hk.rel.flat hx3).congr (F2 _ _ _ _),(hk.aU.mono (λl hl=>F1 hl) λ_ hn=>hn).trans ((G1.fa id false w).mono ?_ λ_ hn=>hn)⟩
      rintro l ⟨p,rfl⟩
      show(kx.w.set _ _).look (.o id)≠none
      rw[St.be];simp
     refine⟨_,G1.free id false,rfl,hG,rfl,(G1.fa id false w).mono (λl ⟨p,hp⟩=>⟨id,p,hp,hn⟩) (λ_ hf=>hf),λi p b hb=>?_,?_⟩
     ·simp only[Gh.free]at hb
      split at hb
      ·split at hb
       ·cases hb
       ·rename_i hw _;rw[hw];exact hb
      ·exact hb
     ·have dJ:=hG.obj id
      rw[Wk.bN]at dJ
      obtain⟨t,ht,bu⟩:=dJ
      refine⟨t,ht,λys sz tx e' nj gn dQ qY=>?_⟩
      subst nj
      obtain⟨cv,h1,h2,_,_,h5⟩:=PN (P:=P) bu PO gn dQ qY
      exact⟨cv,h1,h2,λ_=>.inl ⟨ac7,h5 rfl⟩⟩
    cases hc:(dp&& !fz)with
    |true=>
     simp only[hc,cond_true,bc,Prod.mk.injEq]at h
     obtain⟨rfl,rfl,rfl⟩:=h
     simp only[bA]at hc
     cases Ge:jY with
     |false=>
      obtain⟨ky,G3,rfl,w3,e3,kp,e4,t,ht,nq⟩:=sQ Ge
      refine⟨hd,rfl,_,G3,[(.o id,.un)],t,some id,w3,⟨ho.1,λr=>?_⟩,.inr ⟨id,rfl,rfl,hn,NB⟩,ht,e3,kp,e4,λys sz tx e' nj gn dQ _ qY=>?_⟩
      ·rw[show(kA.set (.o id) .un).w.look r=_ from rT r,jX,sH,ho.2]
       by_cases pL:bf.o id=r
       ·subst pL;simp
       ·simp only[pL,if_false,Option.none_or]
        rw[show(kx.set (.o id) (.ob false x)).w.look r=_ from St.cg _ _ pL]
      ·obtain⟨cv,h1,h2,h3⟩:=nq ys sz tx e' nj gn dQ qY
       rw[<-Ge]
       exact⟨cv,h1,h2,h3 _⟩
     |true=>
      have dJ:=hk.obj id
      rw[PP,hc.1]at dJ
      obtain⟨t,ht,bu⟩:=dJ
      refine⟨hd,rfl,kx,G1,[(.o id,.un)],t,some id,hk,⟨ho.1,λr=>?_⟩,.inr ⟨id,rfl,rfl,hn,NB⟩,ht,rfl,stay,λ_ _ _ h=>h,λys sz tx e' nj gn dQ _ qY=>?_⟩
      ·rw[show(kA.set (.o id) .un).w.look r=_ from rT r,jX,ho.2,Option.or_assoc]
      ·subst nj
       obtain⟨cv,h1,h2,h3,h4,_⟩:=PN (P:=P) bu PO gn dQ qY
       exact⟨cv,h1,h2,.inr (.inr ⟨id,rfl,rfl,bu.rows,h3,h4 rfl⟩)⟩
    |false=>
     simp only[hc,cond_false,bc,Prod.mk.injEq]at h
     obtain⟨rfl,rfl,rfl⟩:=h
     have Ge:jY=false:=by cases jY with|false=>rfl|true=>exact absurd (fA rfl) (by simp)
     obtain⟨ky,G3,rfl,w3,e3,kp,e4,t,ht,nq⟩:=sQ Ge
     refine⟨hd,rfl,_,G3,[],t,none,w3,⟨ho.1,λr=>?_⟩,.inl ⟨rfl,rfl⟩,ht,e3,kp,e4,λys sz tx e' nj gn dQ _ qY=>?_⟩
     ·by_cases pL:bf.o id=r
      ·subst pL
       rw[show(kA.set (.o id) (.ob false x)).w.look (.o id)=_ from St.be _ _ _,List.nil_append,hn]
       simp only[Option.none_or]
       exact(St.be _ _ _).symm
      ·rw[show(kA.set (.o id) (.ob false x)).w.look r=_ from St.cg _ _ pL,ho.2,List.nil_append,show(kx.set (.o id) (.ob false x)).w.look r=_ from St.cg _ _ pL]
     ·obtain⟨cv,h1,h2,h3⟩:=nq ys sz tx e' nj gn dQ qY
      exact⟨cv,h1,h2,h3 _⟩
   ·rename_i x hx
    have hn:=cQ (by rw[hx];simp)
    simp only[lO,bc]at hp
    subst hp
    simp only[bc,Prod.mk.injEq]at h
    obtain⟨rfl,rfl,rfl⟩:=h
    have Ge:jY=false:=by cases jY with|false=>rfl|true=>exact absurd (fA rfl) (by simp)
    have dJ:=hk.obj id
    rw[<-ho.get hn,hx]at dJ
    obtain⟨t,ht,dK,_⟩:=dJ
    refine⟨hd,rfl,kx,G1,[],t,none,hk,ho,.inl ⟨rfl,rfl⟩,ht,rfl,stay,λ_ _ _ h=>h,λys sz tx e' nj gn dQ _ qY=>?_⟩
    subst nj
    rw[<-PO]at dK
    obtain⟨cv,h1,h2,h3,_⟩:=H4 (P:=P) dK gn dQ qY
    exact⟨cv,h1,h2,.inl ⟨Ge,h3⟩⟩
   ·rename_i x hx
    have hn:=cQ (by rw[hx];simp)
    simp only[lO,bc]at hp
    subst hp
    cases rV:fz with
    |true=>simp[rV]at h
    |false=>
     simp only[rV,cond_false,bc,Prod.mk.injEq]at h
     obtain⟨rfl,rfl,rfl⟩:=h
     have dJ:=hk.obj id
     rw[<-ho.get hn,hx]at dJ
     obtain⟨h40,ys,ht,dK,sG,bu⟩:=dJ
     refine⟨hd,rfl,kx,G1,[(.o id,.un)],_,some id,hk,⟨ho.1,λr=>?_⟩,.inr ⟨id,rfl,rfl,hn,NB⟩,ht,rfl,stay,λ_ _ _ h=>h,λys' sz tx e' nj gn dQ _ qY=>?_⟩
     ·rw[show(kA.set (.o id) .un).w.look r=_ from rT r,jX,ho.2,Option.or_assoc]
     ·cases nj
      have mH:=dK
      rw[<-PO]at mH
      obtain⟨cv,h1,h2,h3,h4⟩:=H4 (P:=P) mH gn dQ qY
      refine⟨cv,h1,h2,?_⟩
      cases hb:jY with
      |false=>exact .inl ⟨rfl,h3⟩
      |true=>
       refine .inr (.inr ⟨id,rfl,rfl,bu,λi j v bq=>(h3 i j _ bq).scalar,λi j zs bq=>?_⟩)
       obtain⟨ad,cap,rR,_⟩:=mH.rows
       cases ad with
       |none=>
        rw[rR]at mH
        generalize rM:Value.slice none ys.length cap=vv at mH
        cases mH with
        |nil=>simp[dr]at bq
        |l=>cases rM
       |some ad=>
        obtain⟨b,off,r0⟩:=ad
        rw[rR]at mH
        generalize rM:Value.slice (some ⟨b,off,r0⟩) ys.length cap=vv at mH
        cases mH with
        |nil=>simp[dr]at bq
        | @l _ b2 atI wd C1 cv2 g1 g2 g3 g4 g5 g6=>
         cases rM
         obtain⟨BH,w1,w2⟩:=sG b off _ _ (by rw[<-PO];exact rR)
         have e1:=h4 b off _ _ rR i j _ bq
         have e2:=w2 i j zs bq
         obtain⟨row,_,ic,_⟩:=rO bq
         rw[<-w1 row ic,h2 row ic,e1]at e2
         simpa using e2
   ·cases h
 ·cases h
theorem PQ{sc:Bool}{sz:Nat}{xs:List (List T)}{t r:T}(h:Prim.ev (.app sc sz) [.l xs,t]=some r):
  ∃ys,t=.l ys∧xs.length+ys.length<rL∧(sc=true->ys.all (·.all eh)=true)∧okW sz xs=true∧okW sz ys=true∧r=.l (xs++ys):=by
 cases t with
 |c v=>simp[Prim.ev]at h
 |l ys=>
  simp only[Prim.ev]at h
  split at h
  ·rename_i h1
   split at h
   ·rename_i h2
    split at h
    ·rename_i h3
     split at h
     ·rename_i h4
      simp only[bc]at h
      exact⟨ys,rfl,h1,λhs=>by subst hs;simpa using h2,h3,h4,h.symm⟩
     ·cases h
    ·cases h
   ·cases h
  ·cases h
theorem ac8{G1:Gh}{id:Nat}{dp:Bool}{xs:List (List T)}{v:Value}(h:eg G1 w id dp [] (.l xs))(hv:v=G1.H id []){sz:Nat}(dQ:okW sz xs=true):
  ∃(cv:Nat->Nat->Value) (b0:Option Nat),Da w sz v xs.length b0 cv∧(∀b,b0=some b->G1.ω b=some (.o id []))∧o4 G1 w id dp sz 0 xs cv:=by
 cases h with
 |nil hH=>
  refine⟨λ_ _=>undef,none,.inl ⟨by rw[hv,hH],rfl,rfl⟩,λb hb=>(by cases hb),⟨λr hr=>(by cases hr),?_,?_,?_,?_⟩⟩<;>intro i j t bq<;>simp[dr]at bq
 | @l _ _ _ b wd cap bE elem cv g1 g2 g3 g4 g5 g6 g7 g8 g9 rQ zh=>
  by_cases hx:xs=[]
  ·subst hx
   have lH:=g2.2 rfl
   subst lH
   refine⟨cv,some b,.inr ⟨b,0,bE,elem,by rw[hv,g1],rfl,g4,by rw[g5];simp,Nat.le_refl _,λ_=>rfl,λi j hi _=>by simp at hi⟩,λc hc=>by cases hc;exact g3,⟨λr hr=>(by cases hr),?_,?_,?_,?_⟩⟩<;>intro i j t bq<;>simp[dr]at bq
  ·have mz:wd=sz:=by
    cases xs with
    |nil=>exact absurd rfl hx
    |cons r xs=>rw[<-g6 r (by simp)];exact du dQ
   subst mz
   refine⟨cv,some b,.inr ⟨b,cap,bE,elem,by rw[hv,g1],rfl,g4,g5,g2.1,λh0=>g2.2 (List.eq_nil_of_length_eq_zero h0),λi j hi hj=>?_⟩,λc hc=>by cases hc;exact g3,⟨g6,g8,g9,?_,?_⟩⟩
   ·obtain⟨t,bq⟩:=C' g6 hi hj
    exact g7 i j t bq
   ·intro i j ys bq hd
    simpa using rQ i j ys bq hd
   ·intro i j ys bq hd
    simpa using zh i j ys bq hd
end
def rW(ja jb:Option Nat)(i n:Nat):Lb->Option Lb
 | .f=>some .f
 | .x b=>some (.x b)
 | .o j p=>
  if ja=some j then(match p with| []=>some (.o j [])|x::p=>some (.o i (x::p)))
  else if jb=some j then(match p with| []=>some (.o j [])|(r,c)::p=>some (.o i ((n+r,c)::p)))
  else some (.o j p)
theorem H5(i:Nat):eE i%2=0:=by unfold eE;omega
theorem H6{ja jb:Option Nat}{i n:Nat}(hi:i%2=0)(l l':Lb)(hq:qt l=true)(h:rW ja jb i n l=some l'):qt l'=true:=by
 cases l with
 |o j p=>
  cases p with
  |nil=>
   simp only[rW]at h
   split at h
   ·cases h;exact hq
   ·split at h
    ·cases h;exact hq
    ·cases h;exact hq
  |cons x p=>
   obtain⟨r,c⟩:=x
   simp only[rW]at h
   split at h
   ·cases h;exact sD hi (by simp)
   ·split at h
    ·cases h;exact sD hi (by simp)
    ·cases h;exact hq
 |_=>simp[qt]at hq
def qZ(G:Gh)(ja jb:Option Nat)(n:Nat)(v:Value):List (Nat×Nat)->Value
 | []=>v
 |(r,c)::p=>if r<n then(match ja with|some j=>G.H j ((r,c)::p)|none=>.slice none 0 0)else(match jb with|some j=>G.H j ((r-n,c)::p)|none=>.slice none 0 0)
theorem H7{G:Gh}{ja jb:Option Nat}{n:Nat}{v:Value}(hv:∃a m c,v=.slice a m c)(p:List (Nat×Nat)):∃a m c,qZ G ja jb n v p=.slice a m c:=by
 cases p with
 |nil=>exact hv
 |cons x p=>
  obtain⟨r,k⟩:=x
  by_cases hr:r<n
  ·simp only[qZ,if_pos hr]
   cases ja with
   |none=>exact⟨_,_,_,rfl⟩
   |some j=>exact G.hs j _
  ·simp only[qZ,if_neg hr]
   cases jb with
   |none=>exact⟨_,_,_,rfl⟩
   |some j=>exact G.hs j _
section
variable {M:Nat->Prop} {B:eu} {d:Nat} {up:Nat->Nat->Value} {ρ:List T} {G:Gh} {a:Act} {w:World} {S:Nat->af} {P:Program}
variable {cx:Cx} {cw eW oi:Nat} {s:St} {R:List bf} {ct:Ct} {k':Wk} {o:Oper} {Q:Exit->Act->World->Prop}
theorem ac9{G3:Gh}{w':World}{kG i n:Nat}{jY:Bool}{sz:Nat}{xs:List (List T)}{cv:Nat->Nat->Value}(h:o4 G3 w kG jY sz 0 xs cv)(hn:xs.length<=n)
  {nb:Option Nat}{jb:Option Nat}{v:Value}{ma:∀p,∃a m c,qZ G3 (some kG) jb n v p=.slice a m c}(qo:∀c,nb=some c->c=w.heap.size∨G3.ω c=some (.o kG []))(hA2:kG%4≠2)
  (hi:i%2=0)(je:∀b l,G3.ω b=some l->b<w.heap.size)(gn:w.heap.size<=w'.heap.size)(hh:∀c,c<w.heap.size->nb≠some c->w'.heap[c]?=w.heap[c]?):
  o4 (G3.dO nb i (rW (some kG) jb i n) (qZ G3 (some kG) jb n v) ma) w' i jY sz 0 xs cv:=by
 have oY:∀b,b<w.heap.size->G3.q b=none->(G3.dO nb i (rW (some kG) jb i n) (qZ G3 (some kG) jb n v) ma).q b=none∧w'.heap[b]?=w.heap[b]?:=by
  intro b hb h0
  have dj:nb≠some b:=by
   intro e
   rcases qo b e with rfl|h1
   ·omega
   ·exact sB h1 (CM hA2) h0
  exact⟨C9 (H6 hi) dj h0,hh b hb dj⟩
 refine⟨h.wd,h.sc,λr c ys bq hd=>(h.pl r c ys bq hd).aU gn oY,λr c ys bq hd=>?_,λr c ys bq hd=>?_⟩
 ·have a_:r<n:=by obtain⟨_,_,_,_,q1,_⟩:=rO bq;omega
  have:=h.hd r c ys bq hd
  simp only[Nat.zero_add]at this⊢
  rw[this]
  simp[Gh.dO,qZ,a_]
 ·have a_:r<n:=by obtain⟨_,_,_,_,q1,_⟩:=rO bq;omega
  have:=h.ow r c ys bq hd
  simp only[Nat.zero_add]at this⊢
  refine this.move rfl (λe q he=>?_) λq=>by simp[Gh.dO,qZ,a_]
  have mG:=je e _ he
  have dj:nb≠some e:=by
   intro e'
   rcases qo e e' with rfl|h1
   ·omega
   ·rw[he]at h1;simp at h1
  refine⟨?_,hh e mG dj⟩
  simp only[Gh.dO,dj,if_false,he,Option.bind_some,rW,if_true]
  rfl
theorem ac_{G3:Gh}{w':World}{i n:Nat}{ja:Option Nat}{jY:Bool}{sz:Nat}{ys:List (List T)}{cv:Nat->Nat->Value}{mb:Option Nat}(h:Dc G3 w jY mb ys cv)(fA:∀id,mb=some id->ja≠some id)
  (hw:∀r∈ys,r.length=sz){nb:Option Nat}{v:Value}{ma:∀p,∃a m c,qZ G3 ja mb n v p=.slice a m c}
  (qo:∀c,nb=some c->c=w.heap.size∨∃j,ja=some j∧G3.ω c=some (.o j [])∧j%4≠2)
  (hi:i%2=0)(je:∀b l,G3.ω b=some l->b<w.heap.size)(gn:w.heap.size<=w'.heap.size)(hh:∀c,c<w.heap.size->nb≠some c->w'.heap[c]?=w.heap[c]?):
  o4 (G3.dO nb i (rW ja mb i n) (qZ G3 ja mb n v) ma) w' i jY sz n ys cv:=by
 have oY:∀b,b<w.heap.size->G3.q b=none->(G3.dO nb i (rW ja mb i n) (qZ G3 ja mb n v) ma).q b=none∧w'.heap[b]?=w.heap[b]?:=by
  intro b hb h0
  have dj:nb≠some b:=by
   intro e
   rcases qo b e with rfl|⟨j,_,h1,wT⟩
   ·omega
   ·exact sB h1 (CM wT) h0
  exact⟨C9 (H6 hi) dj h0,hh b hb dj⟩
 have plain:jY=false->(∀i j t,dr ys i j=some t->eB G3.q w t (cv i j))->o4 (G3.dO nb i (rW ja mb i n) (qZ G3 ja mb n v) ma) w' i jY sz n ys cv:=by
  intro hf dK
  exact⟨hw,λr c u bq=>(dK r c _ bq).scalar,λr c zs bq _=>(dK r c _ bq).aU gn oY,λr c zs _ hd=>(by rw[hf]at hd;cases hd),λr c zs _ hd=>(by rw[hf]at hd;cases hd)⟩
 rcases h with⟨hf,dK⟩|lR|⟨id,lQ,ie,bu,hs,hl⟩
 ·exact plain hf dK
 ·refine⟨hw,λr c u bq=>(lR r c _ bq).2.scalar,λr c zs bq _=>?_,λr c zs bq _=>?_,λr c zs bq _=>?_⟩<;>have:=(lR r c _ bq).1<;>simp[eh]at this
 ·subst ie
  refine⟨hw,hs,λr c zs bq hd=>?_,λr c zs bq hd=>?_,λr c zs bq hd=>?_⟩
  ·rw[lQ]at hd;cases hd
  ·rw[hl r c zs bq]
   simp[Gh.dO,qZ,show¬(n+r<n) by omega]
  ··have:=bu r c zs bq
    refine this.move rfl (λe q he=>?_) λq=>by simp[Gh.dO,qZ,show¬(n+r<n) by omega]
    have mG:=je e _ he
    have dj:nb≠some e:=by
     intro e'
     rcases qo e e' with rfl|⟨j,hj,h1,_⟩
     ·omega
     ·rw[he]at h1;simp at h1
    have hja:ja≠some id:=fA id rfl
    refine⟨?_,hh e mG dj⟩
    simp[Gh.dO,dj,he,rW,hja]
theorem ac'{ja jb:Option Nat}{i n:Nat}{l l':Lb}(h:rW ja jb i n l=some l'):l'.id=l.id∨l'.id=i:=by
 cases l with
 |f=>simp only[rW,bc]at h;subst h;exact .inl rfl
 |x b=>simp only[rW,bc]at h;subst h;exact .inl rfl
 |o j p=>
  simp only[rW]at h
  split at h
  ·cases p with
   |nil=>simp only[bc]at h;subst h;exact .inl rfl
   |cons x p=>simp only[bc]at h;subst h;exact .inr rfl
  ·split at h
   ·cases p with
    |nil=>simp only[bc]at h;subst h;exact .inl rfl
    |cons x p=>simp only[bc]at h;subst h;exact .inr rfl
   ·simp only[bc]at h;subst h;exact .inl rfl
theorem ada{ti tj te:TI}{t tx:Nat}(dC:dU P cx)(fj:cx.ty t=some ti)(NC:cx.ty tx=some tj)(nZ:cx.ty ti.el=some te)(iz:ti.kd=3)(hj3:tj.kd=3)(PK:te.bytes<=32768)(gn:0<te.sz)
  (h:Rel M B d up s ρ G a w)(hn:∀n,o.dst=some n->n<a.tmps.size){c:Call}{x y:Operand}(ho:o.op=.call c)(hc:c.callee=.builtin .append)(eC:c.args.toList=[x,y])(bq:c.argTypes.toList=[t,tx])
  {k5 ky kw:Wk}{G3:Gh}{WA WB:St}{kG mb:Option Nat}{xs ys:List (List T)}{jY:Bool}{r:Lf}(w3:db M B d up ρ G a w ky G3)(asG:kl k5 ky (WB++WA))(jl:k5.ct.i%2=0)(hM:¬M k5.ct.i)
  (sO:(kG=none∧WA=[]∧a.eval x=.slice none 0 0∧xs=[])∨∃i,kG=some i∧WA=[(.o i,.un)]∧M i∧i%4≠2∧a.eval x=G3.H i []∧eg G3 w i jY [] (.l xs))
  (PR:(WB=[]∧mb=none)∨∃i,mb=some i∧WB=[(.o i,.un)]∧WA.look (.o i)=none∧M i)
  (H8:okW te.sz xs=true)(a_:xs.length+ys.length<rL){cv:Nat->Nat->Value}{e':TypeId}(nq:Src P te.sz tx (a.eval y) ys.length (qp cv te.sz ys.length) w)(hwy:∀r∈ys,r.length=te.sz)
  (lS:Dc G3 w jY mb ys cv)(hr:r.fq ρ=some (.l (xs++ys)))(PF:∀r',kw.w.look r'=(St.look ((.o k5.ct.i,.ob jY r)::(WB++WA)) r').or (ky.w.look r')):
  bH P (Mn M k5.ct.i (k5.ct.i+1)) B d up ρ a w s o (bP d o kw (.v false [.o k5.ct.i []])).w Q:=by
 have hT:=dC.ty _ _ fj
 have hE:=dC.ty _ _ nZ
 obtain⟨i,z,rU,nl,Ny,BJ,uI⟩:=hE.info
 have hu:=hT.sl iz
 have w5:z.cells.size=te.sz:=by
  have:=(F6 (G:=G) (w:=w) (ρ:=ρ) uI).1.length
  rw[hE.ze]at this
  simpa using this.symm
 have je:∀b l,G3.ω b=some l->b<w.heap.size:=λb l hb=>(w3.rel.gx b l hb).2
 obtain⟨w7,b0,o5,BL,iV⟩:∃(w7:Nat->Nat->Value) (b0:Option Nat),Da w te.sz (a.eval x) xs.length b0 w7∧(∀b,b0=some b->∃j,kG=some j∧G3.ω b=some (.o j [])∧j%4≠2)∧
   (xs=[]∨∃j,kG=some j∧o4 G3 w j jY te.sz 0 xs w7):=by
  rcases sO with⟨rfl,_,hv,rfl⟩|⟨j,rfl,_,_,wT,hv,bu⟩
  ·exact⟨λ_ _=>undef,none,.inl ⟨hv,rfl,rfl⟩,λb hb=>(by cases hb),.inl rfl⟩
  ·obtain⟨w7,b0,h1,h2,h3⟩:=ac8 bu hv H8
   exact⟨w7,b0,h1,λb hb=>⟨j,rfl,h2 b hb,wT⟩,.inr ⟨j,rfl,h3⟩⟩
 obtain⟨v',w',nb,d_,ig⟩:=PJ (P:=P) (w:=w) (ty:=o.type) hu rU BJ nl w5 gn (by rw[Ny];exact PK) o5 nq a_
 have gp:(execOp a.eval o).run P w=.ok (.value v') w':=by
  refine Nu ho hc ?_
  have hA:c.args=#[x,y]:=Array.ext' eC
  have hB:c.argTypes=#[t,tx]:=Array.ext' bq
  rw[hA,hB]
  show Sem.run P (do let v <-Builtin.append_ #[t,tx] o.type (#[x,y].map a.eval);pure (Next.value v)) w=_
  rw[Sem.run_bind]
  simp only[List.map_toArray,List.map_cons,List.map_nil]
  rw[d_];rfl
 have hv':∃a m c,v'=.slice a m c:=by
  rcases ig.row with⟨_,rfl,_⟩|⟨b,cap,_,_,_,rfl,_⟩<;>exact⟨_,_,_,rfl⟩
 have qo:∀c,nb=some c->c=w.heap.size∨∃j,kG=some j∧G3.ω c=some (.o j [])∧j%4≠2:=by
  intro c hc
  rcases(ig.at_ c hc).1 with h1|h1
  ·exact .inl h1
  ·exact .inr (BL c h1)
 have ade:∀j,mb=some j->kG≠some j:=by
  intro j hj he
  rcases PR with⟨_,h1⟩|⟨j',h1,_,h2,_⟩
  ·rw[hj]at h1;cases h1
  ·rw[hj]at h1
   cases h1
   rcases sO with⟨h3,_⟩|⟨j'',h3,h4,_⟩
   ·rw[he]at h3;cases h3
   ·rw[he]at h3
    cases h3
    rw[h4,sH]at h2
    simp at h2
 have Dd:∀r u,(WB++WA).look r=some u->∃j,r=.o j∧u=.un∧M j:=by
  intro r u zx
  rw[jX]at zx
  rcases PR with⟨rfl,_⟩|⟨j,_,rfl,_,hm⟩
  ·simp only[St.look,Option.none_or]at zx
   rcases sO with⟨_,rfl,_⟩|⟨j',_,rfl,oT,_⟩
   ·cases zx
   ·rcases iH zx with⟨e1,e2⟩|hl
    ·exact⟨j',e1,e2,oT⟩
    ·cases hl
  ·cases hl:St.look [(bf.o j,SV.un)] r with
   |some u'=>
    rw[hl]at zx
    simp only[Option.some_or,bc]at zx
    subst zx
    rcases iH hl with⟨e1,e2⟩|hl
    ·exact⟨j,e1,e2,hm⟩
    ·cases hl
   |none=>
    rw[hl]at zx
    simp only[Option.none_or]at zx
    rcases sO with⟨_,rfl,_⟩|⟨j',_,rfl,oT,_⟩
    ·cases zx
    ·rcases iH zx with⟨e1,e2⟩|hl
     ·exact⟨j',e1,e2,oT⟩
     ·cases hl
 have zy:∀j,kG=some j->(WB++WA).look (.o j)≠none:=by
  intro j hj
  rcases sO with⟨h1,_⟩|⟨j',h1,rfl,_⟩
  ·rw[hj]at h1;cases h1
  ·rw[hj]at h1
   cases h1
   rw[jX,sH]
   intro e
   have:=(Option.or_eq_none_iff.1 e).2
   simp at this
 have H9:∀j,mb=some j->(WB++WA).look (.o j)≠none:=by
  intro j hj
  rcases PR with⟨_,h1⟩|⟨j',h1,rfl,_⟩
  ·rw[hj]at h1;cases h1
  ·rw[hj]at h1
   cases h1
   rw[jX,sH]
   intro e
   have:=(Option.or_eq_none_iff.1 e).1
   simp at this
 let kk:Wk:={ky with ct:=k5.ct}
 have wk:db M B d up ρ G a w kk G3:=⟨w3.rel,w3.aU⟩
 refine C_ (k:=kk) (nb:=nb) (f:=rW kG mb k5.ct.i xs.length) (Hn:=qZ G3 kG mb xs.length v') (ma:=H7 hv') (W1:=WB++WA) (y:=r) (t:=.l (xs++ys)) (v:=v') (w':=w') (dp:=jY)
  h wk hn hM PF (λr u hu=>by obtain⟨j,e1,e2,e3⟩:=Dd r u hu;subst e2;exact⟨j,e1,trivial,e3,λi hi=>by simp[cT]at hi⟩) (λl hl=>?_) (λl l' ⟨b,hb⟩ he=>?_) (H6 jl) (λc hc=>?_) ig.size (λc hc=>(ig.at_ c hc).2) (λb hb dj=>ig.Db b hb dj) ig.so rfl hr ?_ gp
 ·cases l with
  |f=>rfl
  |x b=>rfl
  |o j p=>
   have:=hl j p rfl
   have h1:kG≠some j:=λe=>zy j e this
   have h2:mb≠some j:=λe=>H9 j e this
   simp[rW,h1,h2]
 ·rcases ac' he with h1|h1
  ·rw[h1];exact .inl (w3.rel.gx b _ hb).1
  ·exact .inr h1
 ·rcases qo c hc with h1|⟨j,h1,h2,h3⟩
  ·exact .inl h1
  ·exact .inr ⟨j,h2,zy j h1,h3⟩
 ·have n4:o4 (G3.dO nb k5.ct.i (rW kG mb k5.ct.i xs.length) (qZ G3 kG mb xs.length v') (H7 hv')) w' k5.ct.i jY te.sz xs.length ys cv:=
   ac_ (w:=w) lS (λj hj=>ade j hj) hwy qo jl je ig.size ig.Db
  have hca:o4 (G3.dO nb k5.ct.i (rW kG mb k5.ct.i xs.length) (qZ G3 kG mb xs.length v') (H7 hv')) w' k5.ct.i jY te.sz 0 xs w7:=by
   rcases iV with rfl|⟨j,rfl,wQ⟩
   ·exact⟨λr hr=>(by cases hr),λ_ _ _ h=>(by simp[dr]at h),λ_ _ _ h=>(by simp[dr]at h),λ_ _ _ h=>(by simp[dr]at h),λ_ _ _ h=>(by simp[dr]at h)⟩
   ·have wT:j%4≠2:=by
     rcases sO with⟨h1,_⟩|⟨i',h1,_,_,h2,_⟩
     ·cases h1
     ·cases h1;exact h2
    refine ac9 (w:=w) wQ (Nat.le_refl _) (λc hc=>?_) wT jl je ig.size ig.Db
    rcases qo c hc with h1|⟨j',h1,h2,_⟩
    ·exact .inl h1
    ·cases h1;exact .inr h2
  rcases ig.row with⟨rfl,zA,wU,hm0⟩|⟨b,cap,bE,elem,rfl,zA,o6,sN,hle,hz0,g1,g2⟩
  ·have e1:xs++ys=[]:=by rw[List.eq_nil_of_length_eq_zero wU,List.eq_nil_of_length_eq_zero hm0];rfl
   rw[e1]
   exact .nil (by simp[Gh.dO,qZ,zA,kk])
  ·refine hca.join n4 (by simp only[Gh.dO,if_true,qZ];exact zA) ⟨hle,λhe=>hz0 (by have:=congrArg List.length he;simpa using this)⟩ (by simp[Gh.dO]) o6 sN g1 g2
end
theorem eg.grow{G:Gh}{w w':World}{id b0 n cap sz:Nat}{p:List (Nat×Nat)}(hh:∀c q,G.ω c=some (.o id q)->c≠b0->w'.heap[c]?=w.heap[c]?)(hH:G.H id p=.slice (some ⟨b0,0,none⟩) n cap)
  (gj:G.ω b0=some (.o id p))(hnc:n<=cap){a0 a1:Array Value}{e0 e1:TypeId}(h0:w.heap[b0]?=some (.cells a0 e0 (0,0)))(hs0:a0.size=cap*sz)(h1:w'.heap[b0]?=some (.cells a1 e1 (0,0)))(kF:a1.size=a0.size)
  (ha:∀i j,i<n->j<sz->a1[i*sz+j]?=a0[i*sz+j]?){p0:List (Nat×Nat)}{t:T}{dp:Bool}(h:eg G w id dp p0 t)(fA:dp=true):eg G w' id dp p0 t:=by
 induction h with
 |nil h=>exact .nil h
 | @l dp p0 xs b wd C1 bE elem cv g1 g2 g3 g4 g5 g6 g7 g8 g9 rQ zh ih=>
  have hv:∀i j ys,dr xs i j=some (.l ys)->dp=true->eg G w' id true (p0++[(i,j)]) (.l ys):=λi j ys hy hd=>ih i j ys hy hd rfl
  by_cases hb:b=b0
  ·subst hb
   rw[gj]at g3
   cases g3
   rw[hH]at g1
   cases g1
   rw[h0]at g4
   cases g4
   refine .l hH g2 gj h1 (by rw[kF];exact g5) g6 (λi j t ht=>?_) g8 (λi j ys hy hd=>by rw[fA]at hd;cases hd) rQ hv
   obtain⟨r,q1,q2,q3,q4,q5⟩:=rO ht
   have lH:0<cap:=by omega
   have mz:wd=sz:=Nat.eq_of_mul_eq_mul_left lH (by rw[<-g5,hs0])
   subst mz
   have hr:=g6 r q2
   rw[ha i j q4 (by rw[<-hr];exact q5)]
   exact g7 i j t ht
  ·exact .l g1 g2 g3 ((hh b p0 g3 hb).trans g4) g5 g6 g7 g8 (λi j ys hy hd=>by rw[fA]at hd;cases hd) rQ hv
theorem eg.flatten{G:Gh}{w:World}{id:Nat}{t:T}(h:eg G w id true [] t):eg (G.free id false) w id false [] t:=by
 cases h with
 |nil h=>exact .nil h
 | @l _ _ xs b wd cap bE elem cv h1 h2 h3 h4 h5 h6 h7 h8 h9 lP pK=>
  refine .l (cv:=cv) h1 h2 (by simp[Gh.free,h3]) h4 h5 h6 h7 h8 (λp j ys hy _=>?_) (λ_ _ _ _ hf=>by cases hf) (λ_ _ _ _ hf=>by cases hf)
  rw[lP p j ys hy rfl]
  exact(pK p j ys hy rfl).oS (by simp) rfl
section
variable {M:Nat->Prop} {B:eu} {d:Nat} {up:Nat->Nat->Value} {ρ:List T} {G:Gh} {a:Act} {w:World} {S:Nat->af} {P:Program}
variable {cx:Cx} {cw eW oi:Nat} {s:St} {R:List bf} {ct:Ct} {k':Wk} {o:Oper} {Q:Exit->Act->World->Prop}
theorem adg(dC:dU P cx)(h:Rel M B d up s ρ G a w)(hn:∀n,o.dst=some n->n<a.tmps.size){c:Call}{x y:Operand}(ho:o.op=.call c)(hc:c.callee=.builtin .append)(eC:c.args.toList=[x,y])
  {t tx:Nat}(bq:c.argTypes.toList=[t,tx]){ti tj te:TI}(fj:cx.ty t=some ti)(NC:cx.ty tx=some tj)(nZ:cx.ty ti.el=some te)(iz:ti.kd=3)(hj3:tj.kd=3)(PK:te.bytes<=32768)(gn:0<te.sz)
  {k3:Wk}{r:Lf}(hA:Hl ⟨s.only R,[],ct,[]⟩ (te.zero.any eX) te.sz (bY d (Wk.get ⟨s.only R,[],ct,[]⟩) x) (bY d (Wk.get ⟨s.only R,[],ct,[]⟩) y)=some (k3,r))(hd:k3.bm S ρ):
  k3.ct.i=ct.i∧bH P M B d up ρ a w s o (bP d o k3 (.v false [.p r])).w Q:=by
 have hw:=db.start h R ct
 unfold Hl at hA
 split at hA
 ·rename_i id s0 q hx
  split at hA
  ·rename_i v hv
   cases ye:te.zero.any eX with
   |true=>simp[ye]at hA
   |false=>
   simp only[ye,cond_false,cm,bc,Prod.mk.injEq]at hA
   obtain⟨⟨kb,lb⟩,np,rfl,rfl⟩:=hA
   obtain⟨hr,hm⟩:=hw.gX x
   rw[hx]at hr hm
   obtain⟨e,he,oJ,_⟩:=hr
   cases he
   obtain⟨p,hp,NA⟩:=oJ
   have uK:id%2=1:=by
    simp only[ki]at hp
    split at hp
    ·assumption
    ·cases hp
   have vL:=CN hp
   have adh:p≠[]:=by
    obtain⟨ix,wd,j⟩:=s0
    simp only[fW,cm,bc]at vL
    obtain⟨i,_,p',_,rfl⟩:=vL
    simp
   have C0:qt (.o id p)=false:=CL (ρ:=ρ) (.inr uK) (by omega)
   have dJ:=hw.obj id
   rw[hv]at dJ
   obtain⟨t0,BB,bu⟩:=dJ
   obtain⟨rows,rfl⟩:∃ys,t0=.l ys:=by cases bu<;>exact⟨_,rfl⟩
   have zB:(kb.em (.app true te.sz) [(Wk.down ⟨s.only R,[],ct,[]⟩ v (s0::q)).2,lb]).1.bm S ρ:=hd
   obtain⟨Ge,rr,pL,mZ⟩:=Wk.bK zB
   have kF:=Wk.eM (s0::q) ⟨s.only R,[],ct,[]⟩ v
   obtain⟨HK,my,ty,hty,hdy⟩:=Wk.fY (hw.same kF) np Ge (hw.gX y).1
   obtain⟨u,hu,hzu,HD⟩:=Wk.gy (s0::q) _ v HK BB vL (.inr ⟨_,rfl⟩)
   obtain⟨xs,rfl⟩:=HD.resolve_left (by simp)
   simp only[List.map_cons,List.map_nil,Lf.bG hzu,Lf.bG hty]at pL
   obtain⟨ys,rfl,a_,lR,H8,adi,rfl⟩:=PQ pL
   have jd:eg G w id true p (.l xs):=by simpa using eg.bD p bu hu ⟨xs,rfl⟩
   have hT:=dC.ty _ _ fj
   have hE:=dC.ty _ _ nZ
   obtain⟨i,z,rU,nl,Ny,BJ,uI⟩:=hE.info
   have hut:=hT.sl iz
   have w5:z.cells.size=te.sz:=by
    have:=(F6 (G:=G) (w:=w) (ρ:=ρ) uI).1.length
    rw[hE.ze]at this
    simpa using this.symm
   obtain⟨cvy,s1,s2,s3,_⟩:=H4 (P:=P) hdy gn adi ((dC.ty _ _ NC).sl hj3)
   have je:∀b l,G.ω b=some l->b<w.heap.size:=λb l hb=>(h.gx b l hb).2
   obtain⟨w7,b0,o5,BL,adj,hwx⟩:∃(w7:Nat->Nat->Value) (b0:Option Nat),Da w te.sz (a.eval x) xs.length b0 w7∧(∀b,b0=some b->G.ω b=some (.o id p)∧∃cap a0 e0,G.H id p=.slice (some ⟨b,0,none⟩) xs.length cap∧xs.length<=cap∧w.heap[b]?=some (.cells a0 e0 (0,0))∧a0.size=cap*te.sz∧∀i j,i<xs.length->j<te.sz->a0[i*te.sz+j]?=some (w7 i j))∧
     (∀i j t,dr xs i j=some t->(∀u,t=.c u->w7 i j=u∧jH u=true)∧∀zs,t=.l zs->w7 i j=G.H id (p++[(i,j)]))∧∀r∈xs,r.length=te.sz:=by
    cases jd with
    |nil hH=>exact⟨λ_ _=>undef,none,.inl ⟨by rw[NA,hH],rfl,rfl⟩,λb hb=>(by cases hb),λi j t h=>(by simp[dr]at h),λr hr=>(by cases hr)⟩
    | @l _ _ _ b wd cap bE elem cv g1 g2 g3 g4 g5 g6 g7 g8 g9 rQ zh=>
     by_cases wZ:xs=[]
     ·subst wZ
      have lH:=g2.2 rfl
      subst lH
      refine⟨cv,some b,.inr ⟨b,0,bE,elem,by rw[NA,g1],rfl,g4,by rw[g5];simp,Nat.le_refl _,λ_=>rfl,λi j hi _=>by simp at hi⟩,λc hc=>?_,λi j t h=>(by simp[dr]at h),λr hr=>(by cases hr)⟩
      cases hc
      exact⟨g3,0,bE,elem,g1,Nat.le_refl _,g4,by rw[g5];simp,λi j hi _=>by simp at hi⟩
     ·have mz:wd=te.sz:=by
       cases xs with
       |nil=>exact absurd rfl wZ
       |cons r xs=>rw[<-g6 r (by simp)];exact du H8
      have mI:∀i j,i<xs.length->j<te.sz->bE[i*te.sz+j]?=some (cv i j):=λi j hi hj=>by
       obtain⟨t,bq⟩:=C' g6 hi (by rw[mz];exact hj)
       have:=g7 i j t bq
       rw[mz]at this
       exact this
      refine⟨cv,some b,.inr ⟨b,cap,bE,elem,by rw[NA,g1],rfl,g4,by rw[g5,mz],g2.1,λh0=>g2.2 (List.eq_nil_of_length_eq_zero h0),mI⟩,λc hc=>?_,λi j t bq=>⟨λu e=>by subst e;exact g8 i j u bq,λzs e=>by subst e;exact rQ i j zs bq rfl⟩,λr hr=>by rw[g6 r hr,mz]⟩
      cases hc
      exact⟨g3,cap,bE,elem,g1,g2.1,g4,by rw[g5,mz],mI⟩
   obtain⟨v',w',nb,d_,ig⟩:=PJ (P:=P) (w:=w) (ty:=o.type) hut rU BJ nl w5 gn (by rw[Ny];exact PK) o5 s1 a_
   have gp:(execOp a.eval o).run P w=.ok (.value v') w':=by
    refine Nu ho hc ?_
    have hA:c.args=#[x,y]:=Array.ext' eC
    have hB:c.argTypes=#[t,tx]:=Array.ext' bq
    rw[hA,hB]
    show Sem.run P (do let v <-Builtin.append_ #[t,tx] o.type (#[x,y].map a.eval);pure (Next.value v)) w=_
    rw[Sem.run_bind]
    simp only[List.map_toArray,List.map_cons,List.map_nil]
    rw[d_];rfl
   have qo:∀c,nb=some c->c=w.heap.size∨(b0=some c∧G.ω c=some (.o id p)):=λc hc=>(ig.at_ c hc).1.imp_right λe=>⟨e,(BL c e).1⟩
   have uN:∀b l,G.ω b=some l->l≠.o id p->w'.heap[b]?=w.heap[b]?:=λb l hb hl=>ig.Db b (je b l hb) λe=>by
    rcases qo b e with h1|⟨_,h1⟩
    ·have:=je b l hb;omega
    ·rw[hb]at h1;cases h1;exact hl rfl
   have Gf:eg G w' id true [] (.l rows):=by
    by_cases hs:∃b,nb=some b∧b0=some b
    ·obtain⟨b,e1,e2⟩:=hs
     obtain⟨g0,cap,a0,e0,g1,g2,g3,g4,g5⟩:=BL b e2
     obtain⟨a1,e1',f1,f2⟩:=ig.len b e2 e1 _ _ _ g3
     rcases ig.row with⟨e3,_⟩|⟨b',qT,iG,zu,e3,_,o6,_,_,_,q1,_⟩
     ·rw[e1]at e3;cases e3
     ·rw[e1]at e3
      cases e3
      rw[f1]at o6
      cases o6
      exact bu.grow (λc q hc dj=>ig.Db c (je c _ hc) λe=>dj (by rw[e1]at e;cases e;rfl)) g1 g0 g2 g3 g4 f1 f2 (λi j hi hj=>by rw[q1 i j hi hj,g5 i j hi hj]) rfl
    ·refine bu.sib rfl λc q hc=>ig.Db c (je c _ hc) λe=>?_
     rcases qo c e with h1|⟨h1,_⟩
     ·have:=je c _ hc;omega
     ·exact hs ⟨c,e,h1⟩
   have hK:da (ng (eP d o (.v false [.p (kb.em (.app true te.sz) [(Wk.down ⟨s.only R,[],ct,[]⟩ v (s0::q)).2,lb]).2])++[(.o id,.ob false v)])) (λ_=>False) G w (G.free id false) w':=by
    refine⟨ig.size,λb hb h0=>⟨Gh.oR h0,ig.Db b hb λe=>?_⟩,λb _ h0=>Gh.gA h0,λb l hb hl=>?_,λi _=>⟨rfl,λ_ _=>rfl⟩⟩
    ·rcases qo b e with h1|⟨_,h1⟩
     ·omega
     ·exact sB h1 C0 h0
    ·have tT:∀q,l≠.o id q:=λq e=>hl (by
      subst e
      show St.look _ (bf.o id)≠none
      rw[jX,sH];simp)
     refine⟨?_,uN b l hb (tT p)⟩
     cases l with
     |f=>simp[Gh.free,hb]
     |x j=>simp[Gh.free,hb]
     |o j q'=>
      have:j≠id:=λe=>tT q' (by rw[e])
      simp[Gh.free,hb,this]
   have dK:eB (G.free id false).q w' (.l (xs++ys)) v':=by
    rcases ig.row with⟨_,zA,wU,hm0⟩|⟨b,qT,iG,zu,e3,zA,o6,sN,hle,hz0,q1,q2⟩
    ·rw[List.eq_nil_of_length_eq_zero wU,List.eq_nil_of_length_eq_zero hm0,zA]
     exact .nil
    ·rw[zA,<-List.length_append]
     refine .l (wd:=te.sz) (cv:=λi j=>if i<xs.length then w7 i j else cvy (i-xs.length) j) (λr hr=>?_) (by rw[List.length_append];exact hle) ?_ (F0 o6) (λi j t bq=>?_) λi j t bq=>?_
     ·rcases List.mem_append.1 hr with hr|hr
      ·exact hwx r hr
      ·exact s2 r hr
     ·rcases qo b e3 with h1|⟨_,h1⟩
      ·exact wN (Gh.gA (Pl h (by omega)))
      ·exact wN (Gh.oQ h1 rfl (.inr adh))
     ·rw[uG o6,Nat.zero_add]
      rcases H3 bq with⟨hi,h1⟩|⟨hi,h1⟩
      ·obtain⟨r,g1,g2,g3,g4,g5⟩:=rO h1
       rw[if_pos hi,q1 i j hi (by rw[<-hwx r g2];exact g5)]
      ·obtain⟨r,g1,g2,g3,g4,g5⟩:=rO h1
       have:=q2 (i-xs.length) j g4 (by rw[<-s2 r g2];exact g5)
       rw[show xs.length+(i-xs.length)=i by omega]at this
       rw[if_neg (by omega),this]
     ·rcases H3 bq with⟨hi,h1⟩|⟨hi,h1⟩
      ·rw[if_pos hi]
       obtain⟨f1,f2⟩:=adj i j t h1
       cases t with
       |c u=>obtain⟨e1,e2⟩:=f1 u rfl;rw[e1];exact .c e2
       |l zs=>
        rw[f2 zs rfl]
        have PT:eg G w' id true p (.l xs):=by simpa using eg.bD p Gf hu ⟨xs,rfl⟩
        have:=eg.bD [(i,j)] PT (by simp[gW,h1]) ⟨zs,rfl⟩
        exact this.oS (by simp) rfl
      ·rw[if_neg (by omega)]
       have cf:=lR rfl
       obtain⟨r,g1,g2,g3,g4,g5⟩:=rO h1
       have:eh t=true:=by
        have h3:=List.all_eq_true.1 cf r g2
        exact List.all_eq_true.1 h3 t (List.mem_of_getElem? g3)
       obtain⟨u,rfl⟩:=uJ this
       obtain⟨e1,e2⟩:=(s3 _ _ _ h1).scalar
       rw[e1];exact .c e2
   have adk:∀A,v'≠.agg A:=by
    intro A e
    rcases ig.row with⟨_,zA,_⟩|⟨b,qT,_,_,_,zA,_⟩<;>rw[zA]at e<;>cases e
   have hM:M id:=hm id (by simp[cT,dt])
   have hkb:=((hw.same kF).same my).same (Wk.bB kb (.app true te.sz) [(Wk.down ⟨s.only R,[],ct,[]⟩ v (s0::q)).2,lb])
   refine⟨by show kb.ct.i=ct.i;rw[my.i,kF.i],?_⟩
   simp only[bH,Oper.wp,gp,Oper.upon]
   have adl:∃G',Rel M B d up (s.eY (bP d o ((kb.em (.app true te.sz) [(Wk.down ⟨s.only R,[],ct,[]⟩ v (s0::q)).2,lb]).1.set (.o id) (.ob false v)) (.v false [.p (kb.em (.app true te.sz) [(Wk.down ⟨s.only R,[],ct,[]⟩ v (s0::q)).2,lb]).2])).w) ρ G' (a.put o.dst v') w':=by
    refine⟨G.free id false,F7 h hkb (W2:=eP d o (.v false [.p (kb.em (.app true te.sz) [(Wk.down ⟨s.only R,[],ct,[]⟩ v (s0::q)).2,lb]).2])++[(.o id,.ob false v)]) (uL (W2:=[(.o id,.ob false v)]) λr=>by exact rT r)
     hK (λi hi=>hi.elim) (λi hi=>hi) (λn m4=>F8 m4) ig.so ?_⟩
    refine⟨λe n u he hl=>?_,λb u hl=>?_,λi u hl=>?_,λr u hl i hi=>?_,λi hi=>?_,λb l hb=>?_⟩
    ·rcases jD hl with⟨n',gm,e1,rfl⟩|hl
     ·cases e1
      rw[gm,Nr (hn n gm)]
      exact⟨_,rfl,⟨_,mZ,dK⟩,adk⟩
     ·rcases iH hl with⟨e1,_⟩|hl
      ·cases e1
      ·cases hl
    ·rcases jD hl with⟨n',gm,e1,rfl⟩|hl
     ·cases e1
     ·rcases iH hl with⟨e1,rfl⟩|hl
      ·cases e1
      ·cases hl
    ·rcases jD hl with⟨n',gm,e1,rfl⟩|hl
     ·cases e1
     ·rcases iH hl with⟨e1,rfl⟩|hl
      ·cases e1
       exact⟨_,BB,Gf.flatten⟩
      ·cases hl
    ·rcases jD hl with⟨n',gm,e1,rfl⟩|hl
     ·simp[cT,dt]at hi
     ·rcases iH hl with⟨e1,rfl⟩|hl
      ·simp[cT]at hi
      ·cases hl
    ·have:∀r:bf,(r=.x i∨r=.o i)->St.look (eP d o (.v false [.p (kb.em (.app true te.sz) [(Wk.down ⟨s.only R,[],ct,[]⟩ v (s0::q)).2,lb]).2])++[(bf.o id,SV.ob false v)]) r≠none->i=id:=by
      intro r hr hl
      obtain⟨u,hu⟩:=Option.ne_none_iff_exists'.1 hl
      rcases jD hu with⟨n',gm,e1,rfl⟩|hl
      ·rcases hr with rfl|rfl<;>cases e1
      ·rcases iH hl with⟨e1,rfl⟩|hl
       ·rcases hr with rfl|rfl
        ·cases e1
        ·cases e1;rfl
       ·cases hl
     rcases hi with hi|hi
     ·rw[this _ (.inl rfl) hi];exact hM
     ·rw[this _ (.inr rfl) hi];exact hM
    ·obtain⟨l',h1,h2⟩:∃l',G.ω b=some l'∧l'=l:=by
      simp only[Gh.free]at hb
      split at hb
      ·split at hb
       ·cases hb
       ·rename_i Nz _;exact⟨_,Nz,Option.some.inj hb⟩
      ·exact⟨_,hb,rfl⟩
     subst h2
     exact⟨(h.gx b _ h1).1,Nat.lt_of_lt_of_le (h.gx b _ h1).2 ig.size⟩
   obtain⟨G',hG'⟩:=adl
   exact⟨G',hG',x_ _ _ _⟩
  ·cases hA
 ·cases hA
end
theorem PU{us:List (List T)}{n k:Nat}(h:n+k<=us.length):(xX us n k).length=us.length:=by
 simp only[xX,List.length_append,List.length_take,List.length_replicate,List.length_drop];omega
theorem PV{us:List (List T)}{n k i:Nat}{r:List T}(h:n+k<=us.length)(hg:(xX us n k)[i]?=some r)(hr:r≠[]):us[i]?=some r∧(i<n∨n+k<=i):=by
 unfold xX at hg
 by_cases h1:i<n
 ·rw[List.append_assoc,List.getElem?_append_left (by rw[List.length_take];omega),List.getElem?_take,if_pos h1]at hg
  exact⟨hg,.inl h1⟩
 ·rw[List.append_assoc,List.getElem?_append_right (by rw[List.length_take];omega)]at hg
  have hl:(us.take n).length=n:=by rw[List.length_take];omega
  rw[hl]at hg
  by_cases h2:i<n+k
  ·rw[List.getElem?_append_left (by rw[List.length_replicate];omega),List.getElem?_replicate]at hg
   split at hg
   ·cases hg;exact absurd rfl hr
   ·cases hg
  ·rw[List.getElem?_append_right (by rw[List.length_replicate];omega),List.length_replicate,List.getElem?_drop]at hg
   rw[show n+k+(i-n-k)=i by omega]at hg
   exact⟨hg,.inr (by omega)⟩
theorem PW{us:List (List T)}{n k i:Nat}(h:n+k<=us.length)(hf:qH us n k=true)(hi:i<k):∃r,us[n+i]?=some r∧r≠[]:=by
 have a_:n+i<us.length:=by omega
 refine⟨us[n+i],List.getElem?_eq_getElem a_,λhe=>?_⟩
 have hm:us[n+i]∈(us.drop n).take k:=by
  refine List.mem_of_getElem? (i:=i) ?_
  rw[List.getElem?_take,if_pos hi,List.getElem?_drop]
  exact List.getElem?_eq_getElem a_
 have:=List.all_eq_true.1 hf _ hm
 rw[he]at this
 cases this
theorem adn{m lo y r:T}(h:Prim.ev .kh [m,lo,y]=some r):∃us kk n ys,m=.l us∧lo=.c (.int kk n)∧0<=n∧y=.l ys∧n.toNat+ys.length<=us.length∧qH us n.toNat ys.length=true∧r=.l (xX us n.toNat ys.length):=by
 cases m with
 |c v=>simp[Prim.ev]at h
 |l us=>
  cases lo with
  |l _=>simp[Prim.ev]at h
  |c v=>
   cases v with
   |int kk n=>
    cases y with
    |c _=>simp[Prim.ev]at h
    |l ys=>
     simp only[Prim.ev]at h
     split at h
     ·split at h
      ·split at h
       ·cases h
        exact⟨us,kk,n,ys,rfl,rfl,by assumption,rfl,by assumption,by assumption,rfl⟩
       ·cases h
      ·cases h
     ·cases h
   |_=>cases y<;>simp[Prim.ev]at h
section
variable {M M':Nat->Prop} {B:eu} {d:Nat} {up:Nat->Nat->Value} {ρ:List T} {G:Gh} {a:Act} {w:World} {S:Nat->af} {P:Program} {s:St}
theorem Rel.PX(h:Rel M B d up s ρ G a w){G':Gh}{W:St}{N:Nat->Prop}(k:da (ng W) N G w G' w)(hN:∀i,N i->¬M i)(hM:∀i,M i->M' i)
  (hW:∀r u,W.look r=some u->∃i,r=.o i∧cA G' w ρ i u∧M' i∧∀j∈cT u,M' j)(gx:∀b l,G'.ω b=some l->M' l.id∧b<w.heap.size):Rel M' B d up (s.eY W) ρ G' a w:=by
 have ha:a.put none undef=a:=rfl
 rw[<-ha]
 refine h.step (v:=undef) k hN hM (λn hn=>by cases hn) ⟨rfl,rfl,rfl⟩ ⟨λe n u _ hl=>?_,λb u hl=>?_,λi u hl=>?_,λr u hl j hj=>?_,λi hi=>?_,gx⟩
 ·obtain⟨i,e1,_⟩:=hW _ _ hl;cases e1
 ·obtain⟨i,e1,_⟩:=hW _ _ hl;cases e1
 ·obtain⟨j,e1,e2,_⟩:=hW _ _ hl;cases e1;exact e2
 ·obtain⟨i,_,_,_,e4⟩:=hW _ _ hl;exact e4 j hj
 ·rcases hi with hi|hi
  ·obtain⟨u,hu⟩:=Option.ne_none_iff_exists'.1 hi
   obtain⟨j,e1,_⟩:=hW _ _ hu;cases e1
  ·obtain⟨u,hu⟩:=Option.ne_none_iff_exists'.1 hi
   obtain⟨j,e1,_,e3,_⟩:=hW _ _ hu;cases e1;exact e3
def Gh.fV(G:Gh)(tk j n k:Nat):Gh where
 ω:=λb=>match G.ω b with
  |some (.o i ((r,c)::p))=>if i=tk∧n<=r∧r<n+k then some (.o j ((r-n,c)::p))else some (.o i ((r,c)::p))
  |l=>l
 β:=G.β
 H:=λi p=>if i=j then(match p with| []=>G.H j []|(r,c)::p=>G.H tk ((n+r,c)::p))else G.H i p
 hs:=λi p=>by
  by_cases h:i=j
  ·subst h
   cases p with
   |nil=>simp only[if_true];exact G.hs i []
   |cons x p=>obtain⟨r,c⟩:=x;simp only[if_true];exact G.hs tk _
  ·simp only[h,if_false];exact G.hs i p
theorem ado{tk j n k:Nat}(h4:j%4=0){I:Lb->Prop}(hI:∀p,I (.o tk p))(hJ:∀p,I (.o j p)):da I (λ_=>False) G w (G.fV tk j n k) w:=by
 refine⟨Nat.le_refl _,λb _ hb=>⟨sC hb (λh0=>by simp[Gh.fV,h0]) λl hl hq=>?_,rfl⟩,λb _ hb=>by simp[Gh.fV,hb],λb l hl hn=>⟨?_,rfl⟩,λi _=>⟨rfl,λp hp=>?_⟩⟩
 ·cases l with
  |o i p=>
   cases p with
   |nil=>exact .inr ⟨_,by simp[Gh.fV,hl],hq⟩
   |cons x p=>
    obtain⟨r,c⟩:=x
    simp only[Gh.fV,hl]
    split
    ·exact .inr ⟨_,rfl,sD (by omega) (by simp)⟩
    ·exact .inr ⟨_,rfl,hq⟩
  |_=>simp[qt]at hq
 ·cases l with
  |o i p=>
   cases p with
   |nil=>simp[Gh.fV,hl]
   |cons x p=>
    obtain⟨r,c⟩:=x
    have:i≠tk:=λe=>hn (e▸hI _)
    simp[Gh.fV,hl,this]
  |_=>simp[Gh.fV,hl]
 ·by_cases hi:i=j
  ·subst hi
   rcases hp with rfl|hp|hp
   ·simp[Gh.fV]
   ·exact absurd h4 hp
   ·exact absurd (hJ []) (hp [])
  ·simp[Gh.fV,hi]
theorem adp{kA BM kx:Wk}{G1:Gh}{WA:St}{Y:SV}(hk:db M B d up ρ G a w kx G1)(ho:kl kA kx WA)(sO:∀r u,WA.look r=some u->u=.un)
  (h:kA.fV Y=some BM)(hd:BM.bm S ρ):
  kA.bm S ρ∧BM.ct.i=kA.ct.i∧∃BN G2,db M B d up ρ G a w BN G2∧kl BM BN WA∧da (λl=>∃i p,l=.o i p∧WA.look (.o i)=none) (λ_=>False) G1 w G2 w∧∀i,G2.H i []=G1.H i []:=by
 unfold Wk.fV at h
 split at h
 ·rename_i j
  split at h
  ·rename_i tk x0 lo y hj
   split at h
   ·rename_i y0 m zC
    cases hc:(x0.beq y0&&Nat.beq (j%4) 0)with
    |false=>simp[hc]at h
    |true=>
     simp only[hc,cond_true,bc]at h
     simp only[bA]at hc
     have H_:=Lf.beq_eq hc.1
     subst H_
     have hj4:j%4=0:=du hc.2
     subst h
     have cQ:∀{i:Nat} {u:SV},kA.get (.o i)=u->u≠.un->WA.look (.o i)=none:=by
      intro i u hu dj
      cases hl:WA.look (.o i)with
      |none=>rfl
      |some u'=>
       exfalso
       have:=sO _ _ hl
       subst this
       refine dj ?_
       rw[<-hu]
       unfold Wk.get
       rw[ho.2,hl];simp
     have hnj:=cQ hj (by simp)
     have kV:=cQ zC (by simp)
     have fi:(kA.em .kh [m,lo,y]).1.bm S ρ:=hd
     obtain⟨zB,r,hr,mZ⟩:=Wk.bK fi
     have obj:=hk.obj j
     have PY:=hk.obj tk
     rw[<-ho.get hnj,hj]at obj
     rw[<-ho.get kV,zC]at PY
     obtain⟨t,ht,dK,h2,F,n,zs,hF,nk,rfl,w5,sG,_⟩:=obj
     obtain⟨_,F',u,PZ,hu,hlen,lS⟩:=PY
     rw[hF]at PZ
     cases PZ
     simp only[List.map_cons,List.map_nil,Lf.bG ht,Lf.bG hu]at hr
     obtain⟨us,kk,n',ys,e1,e2,h0,e3,hle,hfr,rfl⟩:=adn hr
     cases e1
     cases e3
     have gm:n'.toNat=n:=by
      unfold ll at nk
      split at nk
      ·rename_i k2 n2 tT
       have:=Lf.bG tT
       rw[this]at e2
       cases e2
       rw[if_pos h0]at nk
       exact Option.some.inj nk
      ·cases nk
     rw[gm]at hle hfr mZ
     have hjt:j≠tk:=by omega
     let BN:Wk:={kx with w:=(kx.w.set (.o tk) (.tk x0 (kA.em .kh [m,lo,y]).2)).set (.o j) (.fr y)}
     let G2:=G1.fV tk j n zs.length
     have key:∀i p,(i=tk∨i=j)->ng [(bf.o j,SV.fr y),(bf.o tk,SV.tk x0 (kA.em .kh [m,lo,y]).2)] (.o i p):=by
      intro i p hi
      show St.look _ (bf.o i)≠none
      rcases hi with rfl|rfl
      ·simp only[St.look]
       cases(bf.o j).beq (.o i)<;>simp[(bf.beq_iff (r:=bf.o i)).2 rfl]
      ·simp[St.look,(bf.beq_iff (r:=bf.o i)).2 rfl]
     have K:da (ng [(bf.o j,SV.fr y),(bf.o tk,SV.tk x0 (kA.em .kh [m,lo,y]).2)]) (λ_=>False) G1 w G2 w:=
      ado hj4 (λp=>key tk p (.inl rfl)) λp=>key j p (.inr rfl)
     have Mj:M j:=hk.rel.key j (.inr (by rw[<-Wk.aM,<-ho.get hnj,hj];simp))
     have Mt:M tk:=hk.rel.key tk (.inr (by rw[<-Wk.aM,<-ho.get kV,zC];simp))
     have rel:=hk.rel.PX (M':=M) K (λi hf=>hf.elim) (λi hi=>hi) (λr u' hl=>by
      rcases iH hl with⟨e1,e2⟩|hl
      ·subst e1 e2
       refine⟨j,rfl,?_,Mj,λi hi=>by simp[cT]at hi⟩
       refine⟨hj4,zs,ht,?_,?_,λi c l' bq=>?_⟩
       ·have:G2.H j []=G1.H j []:=by simp[G2,Gh.fV]
        rw[this];exact dK.aU K.size K.free
       ·have:G2.H j []=G1.H j []:=by simp[G2,Gh.fV]
        rw[this]
        intro b off k2 c2 hv
        obtain⟨wd,w1,w2⟩:=sG b off k2 c2 hv
        refine⟨wd,w1,λi c l' bq=>?_⟩
        rw[w2 i c l' bq]
        simp[G2,Gh.fV]
       ·obtain⟨row,fP,_,qs,Pq,_⟩:=rO bq
        obtain⟨r',nY,pY⟩:=PW hle hfr Pq
        obtain⟨g1,g2⟩:=lS _ _ nY pY
        rw[w5 i row fP]at g1
        cases g1
        refine(g2 c l' qs).move rfl (λb q hb=>⟨?_,rfl⟩) λq=>?_
        ·simp only[List.cons_append,List.nil_append]at hb⊢
         simp only[G2,Gh.fV,hb]
         rw[if_pos (by refine⟨?_,?_,?_⟩<;>first|trivial|omega),show n+i-n=i by omega]
        ·simp[G2,Gh.fV]
      ·rcases iH hl with⟨e1,e2⟩|hl
       ·subst e1 e2
        refine⟨tk,rfl,⟨h2,F,_,hF,mZ,by rw[PU hle];exact hlen,λi r hg dj=>?_⟩,Mt,λi hi=>by simp[cT]at hi⟩
        obtain⟨g1,g2⟩:=PV hle hg dj
        obtain⟨g3,g4⟩:=lS i r g1 dj
        refine⟨g3,λc l' qs=>(g4 c l' qs).move rfl (λb q hb=>⟨?_,rfl⟩) λq=>?_⟩
        ·simp only[List.cons_append,List.nil_append]at hb⊢
         simp only[G2,Gh.fV,hb]
         rw[if_neg (by omega)]
        ·simp[G2,Gh.fV,Ne.symm hjt]
       ·cases hl) λb l hb=>by
      cases hg:G1.ω b with
      |none=>simp[G2,Gh.fV,hg]at hb
      |some l0=>
       have sR:=hk.rel.gx b l0 hg
       refine⟨?_,sR.2⟩
       cases l0 with
       |o i p=>
        cases p with
        |nil=>simp[G2,Gh.fV,hg]at hb;subst hb;exact sR.1
        |cons x p=>
         obtain⟨r,c⟩:=x
         simp only[G2,Gh.fV,hg]at hb
         split at hb
         ·cases hb;exact Mj
         ·cases hb;exact sR.1
       |_=>simp[G2,Gh.fV,hg]at hb;subst hb;exact sR.1
     have hgx:∀r,(kx.r.eY BN.w).get r=((kx.r.eY kx.w).eY [(bf.o j,SV.fr y),(bf.o tk,SV.tk x0 (kA.em .kh [m,lo,y]).2)]).get r:=by
      intro r
      show(kx.r.eY ((kx.w.set (.o tk) _).set (.o j) _)).get r=_
      rw[F2]
      simp only[St.eY]
      by_cases h1:bf.o j=r
      ·subst h1;rw[St.bN,St.bN]
      ·rw[St.dZ _ _ h1,St.dZ _ _ h1,F2]
     have look:∀(K0:Wk) (v1 v2:SV) (r:bf),((K0.w.set (.o tk) v1).set (.o j) v2).look r=if bf.o j=r then some v2 else if bf.o tk=r then some v1 else K0.w.look r:=by
      intro K0 v1 v2 r
      by_cases h1:bf.o j=r
      ·subst h1;rw[if_pos rfl,St.be]
      ·rw[if_neg h1,St.cg _ _ h1]
       by_cases h2:bf.o tk=r
       ·subst h2;rw[if_pos rfl,St.be]
       ·rw[if_neg h2,St.cg _ _ h2]
     refine⟨zB,rfl,BN,G2,⟨rel.congr hgx,?_⟩,⟨ho.1,λr=>?_⟩,K.mono ?_ λ_ hf=>hf,λi=>?_⟩
     ·refine(hk.aU.mono (λl hl=>?_) λ_ hf=>hf).trans (K.mono (λl hl=>?_) λ_ hf=>hf)
      ·exact F1 (F1 hl)
      ·cases l with
       |o i p=>
        show((kx.w.set (.o tk) _).set (.o j) _).look (.o i)≠none
        rw[look]
        split
        ·simp
        ·split
         ·simp
         ·rename_i h1 h2
          exfalso
          refine hl ?_
          simp only[St.look]
          have b1:(bf.o j).beq (.o i)=false:=by
           cases hb:(bf.o j).beq (.o i)with
           |false=>rfl
           |true=>exact absurd (bf.beq_iff.1 hb) h1
          have b2:(bf.o tk).beq (.o i)=false:=by
           cases hb:(bf.o tk).beq (.o i)with
           |false=>rfl
           |true=>exact absurd (bf.beq_iff.1 hb) h2
          simp[b1,b2]
       |f=>exact hl.elim
       |x b=>exact absurd rfl (by exact hl)
     ·show(((kA.em .kh [m,lo,y]).1.w.set (.o tk) _).set (.o j) _).look r=(WA.look r).or (((kx.w.set (.o tk) _).set (.o j) _).look r)
      rw[look (kA.em .kh [m,lo,y]).1,look kx]
      by_cases h1:bf.o j=r
      ·subst h1;simp[hnj]
      ·rw[if_neg h1,if_neg h1]
       by_cases h2:bf.o tk=r
       ·subst h2;simp[kV]
       ·rw[if_neg h2,if_neg h2];exact ho.2 r
     ·intro l hl
      cases l with
      |o i p=>
       refine⟨i,p,rfl,?_⟩
       have hh:i=j∨i=tk:=by
        by_cases h1:i=j
        ·exact .inl h1
        ·by_cases h2:i=tk
         ·exact .inr h2
         ·exfalso
          refine hl ?_
          have b1:(bf.o j).beq (.o i)=false:=by
           cases hb:(bf.o j).beq (.o i)with
           |false=>rfl
           |true=>have:=bf.beq_iff.1 hb;cases this;exact absurd rfl h1
          have b2:(bf.o tk).beq (.o i)=false:=by
           cases hb:(bf.o tk).beq (.o i)with
           |false=>rfl
           |true=>have:=bf.beq_iff.1 hb;cases this;exact absurd rfl h2
          simp[St.look,b1,b2]
       rcases hh with rfl|rfl
       ·exact hnj
       ·exact kV
      |f=>exact hl.elim
      |x b=>exact absurd rfl hl
     ·by_cases hi:i=j
      ·subst hi;simp[G2,Gh.fV]
      ·simp[G2,Gh.fV,hi]
   ·cases h
  ·cases h
 ·cases h
end
section
variable {M:Nat->Prop} {B:eu} {d:Nat} {up:Nat->Nat->Value} {ρ:List T} {G:Gh} {a:Act} {w:World} {S:Nat->af} {P:Program}
variable {cx:Cx} {cw eW oi:Nat} {s:St} {R:List bf} {ct:Ct} {k':Wk} {o:Oper} {Q:Exit->Act->World->Prop}
theorem adq(dC:dU P cx)(h:Rel M B d up s ρ G a w)(hn:∀n,o.dst=some n->n<a.tmps.size){c:Call}{x y:Operand}(ho:o.op=.call c)(hc:c.callee=.builtin .append)(eC:c.args.toList=[x,y])
  (hk:iy cx cw eW d o oi ⟨s.only R,[],ct,[]⟩=some k')(hd:k'.bm S ρ)(hM:∀i,ct.i<=i->i<k'.ct.i->¬M i):bH P (Mn M ct.i k'.ct.i) B d up ρ a w s o k'.w Q:=by
 have hw:=db.start h R ct
 simp only[iy,ho,hc,eC]at hk
 split at hk
 ·rename_i t tx bq
  simp only[cm]at hk
  obtain⟨ti,fj,tj,NC,te,nZ,hk⟩:=hk
  cases hcc:(Nat.beq ti.kd 3&&Nat.beq tj.kd 3&&Nat.ble te.bytes 32768&&Nat.blt 0 te.sz)with
  |false=>simp[hcc]at hk
  |true=>
   simp only[hcc,cond_true]at hk
   simp only[bA]at hcc
   obtain⟨⟨⟨c1,c2⟩,c3⟩,c4⟩:=hcc
   split at hk
   ·rename_i rN hN
    have hk:bP d o rN.1 (.v false [.p rN.2])=k':=Option.some.inj hk
    subst hk
    have g:=adg (Q:=Q) dC h hn ho hc eC bq fj NC nZ (du c1) (du c2) (Nat.le_of_ble_eq_true c3) (Nat.lt_of_succ_le (by simpa[Nat.blt]using c4)) (k3:=rN.1) (r:=rN.2) hN (cF.1 hd)
    exact g.2.mono λi hi=>.inl hi
   simp only[cm,bc]at hk
   obtain⟨⟨kA,la,Gd⟩,hA,⟨kB,lb,BK⟩,hB,hk⟩:=hk
   simp only at hB hk
   have gn:0<te.sz:=Nat.lt_of_succ_le (by simpa[Nat.blt]using c4)
   have cJ:bP d o {(kB.em (.app (!te.zero.any eX) te.sz) [la,lb]).1.set (.o (eE kB.ct.i)) (.ob (Gd&&BK) (kB.em (.app (!te.zero.any eX) te.sz) [la,lb]).2)with
     ct:=⟨(kB.em (.app (!te.zero.any eX) te.sz) [la,lb]).1.ct.a,eE kB.ct.i+1⟩} (.v false [.o (eE kB.ct.i) []])=k':=hk
   have fi:(kB.em (.app (!te.zero.any eX) te.sz) [la,lb]).1.bm S ρ:=by
    rw[<-cJ]at hd
    have h2:=cF.1 hd
    exact h2
   obtain⟨hdB,r,hr,mZ⟩:=Wk.bK fi
   obtain⟨q1,q2,kx,G2,WA,xs,wA,asK,Ia,hla,sO⟩:=ac4 (jY:=Gd&&BK) hw (hw.gX x).1 (hw.gX x).2 hA (λhe=>by simp at he;exact he.1)
   have P0:∀r u,WA.look r=some u->u=.un:=by
    intro r u hu
    rcases sO with⟨_,_,rfl⟩|⟨j,rfl,_⟩
    ·cases hu
    ·rcases iH hu with⟨_,e2⟩|hl
     ·exact e2
     ·cases hl
   have hB0:∃BM,kA.uu (te.zero.any eX&& !cx.fz cw eW oi) (bY d (Wk.get ⟨s.only R,[],ct,[]⟩) y)=BM:=⟨_,rfl⟩
   obtain⟨BM,zD⟩:=hB0
   rw[zD]at hB
   have adr:BM.bm S ρ:=ac5 hB hdB
   obtain⟨q1',kx,G2,wA,Ia,sO⟩:BM.ct.i=kA.ct.i∧∃BN Nw,db M B d up ρ G a w BN Nw∧kl BM BN WA∧
     ((a.eval x=.slice none 0 0∧xs=[]∧WA=[])∨∃kG,WA=[(.o kG,.un)]∧M kG∧kG%4≠2∧a.eval x=Nw.H kG []∧eg Nw w kG (Gd&&BK) [] (.l xs)):=by
    unfold Wk.uu at zD
    split at zD
    ·rename_i kz hz
     subst zD
     have P1:kA.fV (bY d (Wk.get ⟨s.only R,[],ct,[]⟩) y)=some kz:=by
      cases hb:(te.zero.any eX&& !cx.fz cw eW oi)with
      |true=>rw[hb]at hz;exact hz
      |false=>rw[hb]at hz;cases hz
     obtain⟨_,g2,BN,Nw,g3,g4,g5,g6⟩:=adp wA Ia P0 P1 adr
     refine⟨g2,BN,Nw,g3,g4,sO.imp_right ?_⟩
     rintro⟨j,e1,e2,e3,e4,e5⟩
     subst e1
     refine⟨j,rfl,e2,e3,by rw[g6];exact e4,e5.aU g5 (λp hp=>?_) λhf=>hf⟩
     obtain⟨i',p',f1,f2⟩:=hp
     cases f1
     rw[sH]at f2
     simp at f2
    ·subst zD
     exact⟨rfl,kx,G2,wA,Ia,sO⟩
   have hy:cz G2 w ρ (bY d (Wk.get ⟨s.only R,[],ct,[]⟩) y) (a.eval y):=(hw.gX y).1.aU wA.aU λ_ _ hf=>hf
   obtain⟨_,p2,ky,G3,WB,t2,mb,wB,Ib,PR,hlb,Px,kp,_,nq⟩:=ac6 (jY:=Gd&&BK) (P:=P) wA Ia P0 hy (hw.gX y).2 hB hdB (λhe=>by simp at he;exact he.2)
   simp only[List.map_cons,List.map_nil,Lf.bG hla,Lf.bG hlb]at hr
   obtain⟨ys,rfl,a_,lR,Ic,ads,rfl⟩:=PQ hr
   have qY:=(dC.ty _ _ NC).sl (du c2)
   obtain⟨cv,s1,s2,s3⟩:=nq ys te.sz tx tj.el rfl gn ads (λhf=>lR (by rw[hf];rfl)) qY
   have jV:kB.ct.i=ct.i:=by rw[p2,q1',q1]
   have oB:k'.ct.i=eE ct.i+1:=by rw[<-cJ,mw,<-jV]
   have jl:=yM ct.i
   rw[oB,<-cJ,<-jV]
   refine bH.mono (M:=Mn M (eE kB.ct.i) (eE kB.ct.i+1)) ?_ (λi hi=>hi.imp_right λhi=>by rw[jV]at hi⊢;exact⟨by omega,hi.2⟩)
   refine ada (k5:={(kB.em (.app (!te.zero.any eX) te.sz) [la,lb]).1 with ct:=⟨(kB.em (.app (!te.zero.any eX) te.sz) [la,lb]).1.ct.a,eE kB.ct.i⟩}) (kG:=WA.head?.bind λz=>match z.1 with| .o j=>some j|_=>none) (WA:=WA) (WB:=WB) (G3:=G3) dC fj NC nZ (du c1) (du c2) (Nat.le_of_ble_eq_true c3) gn
    h hn ho hc eC bq wB ⟨(Ib.same (Wk.bB kB (.app (!te.zero.any eX) te.sz) [la,lb])).1,(Ib.same (Wk.bB kB (.app (!te.zero.any eX) te.sz) [la,lb])).2⟩ (H5 _) (hM _ (by show ct.i<=eE kB.ct.i;rw[jV];exact jl) (by rw[oB];show eE kB.ct.i<_;rw[jV];omega)) ?_ PR Ic a_ (e':=tj.el) s1 s2 s3 mZ (λr'=>?_)
   ·rcases sO with⟨e1,e2,e3⟩|⟨j,e1,e2,e22,e3,e4⟩
    ·left
     subst e3
     exact⟨rfl,rfl,e1,e2⟩
    ·right
     subst e1
     refine⟨j,rfl,rfl,e2,e22,by rw[Px];exact e3,e4.aU kp (λp hp=>?_) λhf=>hf⟩
     obtain⟨i',p',e5,e6⟩:=hp
     cases e5
     rw[sH]at e6
     simp at e6
   ·show((kB.em (.app (!te.zero.any eX) te.sz) [la,lb]).1.w.set (.o (eE kB.ct.i)) _).look r'=_
    rw[show((kB.em (.app (!te.zero.any eX) te.sz) [la,lb]).1.w.set (.o (eE kB.ct.i)) (.ob (Gd&&BK) (kB.em (.app (!te.zero.any eX) te.sz) [la,lb]).2)).look r'=_ from rT (k:=(kB.em (.app (!te.zero.any eX) te.sz) [la,lb]).1) r']
    rw[show(Wk.w (kB.em (.app (!te.zero.any eX) te.sz) [la,lb]).1).look r'=kB.w.look r' from rfl,Ib.2 r',<-Option.or_assoc]
    congr 1
    show _=St.look ((bf.o (eE kB.ct.i),_)::(WB++WA)) r'
    simp only[St.look]
    cases(bf.o (eE kB.ct.i)).beq r'<;>simp
 ·cases hk
def q0(ω:Nat->Option Lb)(w:World)(ρ:List T)(dp:Bool):List Ce->List Lf->List Value->Prop
 | [],[],[]=>True
 |z::zs,x::xs,v::vs=>(∃t,x.fq ρ=some t∧eB ω w t v∧(dp=true->eX z=true->t=.l []∧v=.slice none 0 0))∧q0 ω w ρ dp zs xs vs
 |_,_,_=>False
theorem q0.aU{ω uD:Nat->Option Lb}{w':World}(hs:w.heap.size<=w'.heap.size)(hf:∀b,b<w.heap.size->ω b=none->uD b=none∧w'.heap[b]?=w.heap[b]?){dp tN:Bool}(hd:tN=true->dp=true):
  ∀{zs:List Ce} {xs:List Lf} {vs:List Value},q0 ω w ρ dp zs xs vs->q0 uD w' ρ tN zs xs vs
 | [],[],[],_=>trivial
 |_::_,_::_,_::_,h=>by
  obtain⟨⟨t,h1,h2,h3⟩,h4⟩:=h
  exact⟨⟨t,h1,h2.aU hs hf,λe=>h3 (hd e)⟩,q0.aU hs hf hd h4⟩
 | [],[],_::_,h=>h.elim
 | [],_::_,_,h=>h.elim
 |_::_,[],_,h=>h.elim
 |_::_,_::_,[],h=>h.elim
theorem zE:∀{zs cs:List Ce} {vs:List Value} {k k1:Wk} {xs:List Lf} {dp:Bool} {G1:Gh},db M B d up ρ G a w k G1->aS G1 w ρ cs vs->k.fm true zs cs=some (k1,xs,dp)->
  k1.ct=k.ct∧k1.is=k.is∧xs.length=zs.length∧∃G2,db M B d up ρ G a w k1 G2∧G2.H=G1.H∧(∀b,G1.q b=none->G2.q b=none)∧q0 G2.q w ρ dp zs xs vs
 | [],[],vs,k,k1,xs,dp,G1,hk,hr,h=>by
  simp only[Wk.fm,bc,Prod.mk.injEq]at h
  obtain⟨rfl,rfl,rfl⟩:=h
  cases vs with
  |nil=>exact⟨rfl,rfl,rfl,G1,hk,rfl,λ_ h=>h,trivial⟩
  |cons _ _=>exact hr.elim
 |z::zs,.p x::cs,vs,k,k1,xs,dp,G1,hk,hr,h=>by
  cases vs with
  |nil=>exact hr.elim
  |cons v vs=>
   simp only[Wk.fm,cm,bc,Prod.mk.injEq]at h
   obtain⟨⟨k2,ys,dp2⟩,h2,rfl,rfl,rfl⟩:=h
   obtain⟨e1,e2,e3,G2,w2,e4,e5,e6⟩:=zE hk hr.2 h2
   obtain⟨t,ht,hd⟩:=hr.1
   refine⟨e1,e2,by simp[e3],G2,w2,e4,e5,⟨t,ht,hd.aU (Nat.le_refl _) λb _ hb=>⟨e5 b hb,rfl⟩,λfA hz=>by simp[hz]at fA⟩,e6.aU (Nat.le_refl _) (λb _ hb=>⟨hb,rfl⟩) λfA=>by simp at fA;exact fA.1⟩
 |z::zs,.n::cs,vs,k,k1,xs,dp,G1,hk,hr,h=>by
  cases vs with
  |nil=>exact hr.elim
  |cons v vs=>
   simp only[Wk.fm,cm,bc,Prod.mk.injEq]at h
   obtain⟨⟨k2,ys,dp2⟩,h2,rfl,rfl,rfl⟩:=h
   obtain⟨e1,e2,e3,G2,w2,e4,e5,e6⟩:=zE hk hr.2 h2
   have hv:v=.slice none 0 0:=hr.1
   subst hv
   exact⟨e1,e2,by simp[e3],G2,w2,e4,e5,⟨.l [],rfl,.nil,λ_ _=>⟨rfl,rfl⟩⟩,e6⟩
 |z::zs,.o id []::cs,vs,k,k1,xs,dp,G1,hk,hr,h=>by
  cases vs with
  |nil=>exact hr.elim
  |cons v vs=>
   obtain⟨⟨p,hp,hv⟩,pY⟩:=hr
   simp only[lO,bc]at hp
   subst hp
   have dJ:=hk.obj id
   simp only[Wk.fm]at h
   split at h
   ·rename_i pv x hx
    simp only[cm,bc,Prod.mk.injEq]at h
    obtain⟨⟨k2,ys,dp2⟩,h2,rfl,rfl,rfl⟩:=h
    obtain⟨e1,e2,e3,G2,w2,e4,e5,e6⟩:=zE hk pY h2
    rw[hx]at dJ
    obtain⟨t,ht,hd,_⟩:=dJ
    rw[<-hv]at hd
    exact⟨e1,e2,by simp[e3],G2,w2,e4,e5,⟨t,ht,hd.aU (Nat.le_refl _) λb _ hb=>⟨e5 b hb,rfl⟩,λfA=>by cases fA⟩,e6.aU (Nat.le_refl _) (λb _ hb=>⟨hb,rfl⟩) λfA=>by cases fA⟩
   ·rename_i dd x hx
    simp only[cond_true,cm,bc,Prod.mk.injEq]at h
    obtain⟨⟨k2,ys,dp2⟩,h2,rfl,rfl,rfl⟩:=h
    have PP:=hx
    rw[Wk.aM]at PP
    have wt:db M B d up ρ G a w (k.set (.o id) (.fz .z x)) (G1.free id true):=by
     refine⟨(hk.rel.lE PP).congr (F2 _ _ _ _),(hk.aU.mono (λl hl=>F1 hl) λ_ hn=>hn).trans ((G1.fa id true w).mono ?_ λ_ hn=>hn)⟩
     rintro l ⟨p,rfl⟩
     show(k.w.set _ _).look (.o id)≠none
     rw[St.be];simp
    rw[hx]at dJ
    obtain⟨t,ht,bu⟩:=dJ
    have hd:eB (G1.free id true).q w t v:=by rw[hv];exact bu.vF
    have BG:aS (G1.free id true) w ρ cs vs:=pY.aU (G1.fa id true w) λ_ _ hf=>hf
    obtain⟨e1,e2,e3,G2,w2,e4,e5,e6⟩:=zE wt BG h2
    exact⟨e1,e2,by simp[e3],G2,w2,e4,λb hb=>e5 b (Gh.oR hb),⟨t,ht,hd.aU (Nat.le_refl _) λb _ hb=>⟨e5 b hb,rfl⟩,λfA=>by cases fA⟩,e6.aU (Nat.le_refl _) (λb _ hb=>⟨hb,rfl⟩) λfA=>by cases fA⟩
   ·cases h
 | [],_::_,vs,k,k1,xs,dp,G1,hk,hr,h=>by simp[Wk.fm]at h
 |_::_,[],vs,k,k1,xs,dp,G1,hk,hr,h=>by simp[Wk.fm]at h
 |z::zs,.o id (_::_)::cs,vs,k,k1,xs,dp,G1,hk,hr,h=>by simp[Wk.fm]at h
 |z::zs,.d::cs,vs,k,k1,xs,dp,G1,hk,hr,h=>by simp[Wk.fm]at h
theorem q0.at:∀{ω:Nat->Option Lb} {dp:Bool} {zs:List Ce} {xs:List Lf} {vs:List Value},q0 ω w ρ dp zs xs vs->xs.length=vs.length∧zs.length=vs.length∧
  ∀(j:Nat) (t:T),(xs.map (Lf.ev ρ))[j]?=some t->∃z v,zs[j]?=some z∧vs[j]?=some v∧eB ω w t v∧(dp=true->eX z=true->t=.l []∧v=.slice none 0 0)
 |_,_,[],[],[],_=>⟨rfl,rfl,λj t h=>by simp at h⟩
 |ω,dp,z::zs,x::xs,v::vs,h=>by
  obtain⟨⟨t,h1,h2,h3⟩,h4⟩:=h
  obtain⟨e1,e2,e3⟩:=q0.at h4
  refine⟨by simp[e1],by simp[e2],λj t' hj=>?_⟩
  cases j with
  |zero=>
   simp only[List.map_cons,List.getElem?_cons_zero,bc]at hj
   rw[Lf.bG h1]at hj
   subst hj
   exact⟨z,v,rfl,rfl,h2,h3⟩
  |succ j=>simpa using e3 j t' (by simpa using hj)
 |_,_,[],[],_::_,h=>h.elim
 |_,_,[],_::_,_,h=>h.elim
 |_,_,_::_,[],_,h=>h.elim
 |_,_,_::_,_::_,[],h=>h.elim
theorem aS.zF{G1:Gh}:∀{cs:List Ce} {vs:List Value},cs.length=vs.length->(∀(j:Nat) (c:Ce) (v:Value),cs[j]?=some c->vs[j]?=some v->fH G1 w ρ c v)->aS G1 w ρ cs vs
 | [],[],_,_=>trivial
 | [],_::_,h,_=>by simp at h
 |_::_,[],h,_=>by simp at h
 |c::cs,v::vs,h,hf=>⟨hf 0 c v rfl rfl,aS.zF (by simpa using h) λj c v h1 h2=>hf (j+1) c v (by simpa using h1) (by simpa using h2)⟩
theorem aS.get{G1:Gh}:∀{cs:List Ce} {vs:List Value},aS G1 w ρ cs vs->∀(j:Nat) (c:Ce) (v:Value),cs[j]?=some c->vs[j]?=some v->fH G1 w ρ c v
 | [],[],_,j,c,v,h,_=>by simp at h
 | [],_::_,h,_,_,_,_,_=>h.elim
 |_::_,[],h,_,_,_,_,_=>h.elim
 |c::cs,v::vs,h,j,_,_,h1,h2=>by
  cases j with
  |zero=>simp at h1 h2;subst h1 h2;exact h.1
  |succ j=>exact aS.get h.2 j _ _ (by simpa using h1) (by simpa using h2)
theorem kj_(zs:List Ce):∀n,(mC zs n).length=n*zs.length
 |0=>by simp[mC]
 |n+1=>by simp[mC,kj_ zs n,Nat.add_mul];omega
theorem P2(zs:List Ce):∀(n i j:Nat),i<n->j<zs.length->(mC zs n)[i*zs.length+j]?=zs[j]?
 |0,i,j,h,_=>by omega
 |n+1,0,j,_,hj=>by simp only[mC,Nat.zero_mul,Nat.zero_add];rw[List.getElem?_append_left hj]
 |n+1,i+1,j,h,hj=>by
  simp only[mC]
  rw[List.getElem?_append_right (by rw[Nat.add_mul];omega),show(i+1)*zs.length+j-zs.length=i*zs.length+j by rw[Nat.add_mul];omega]
  exact P2 zs n i j (by omega) hj
theorem P3{zs:List Ce}(h:dt zs=[]):∀n,dt (mC zs n)=[]
 |0=>rfl
 |n+1=>by rw[mC,HN,h,P3 h n];rfl
theorem adu{k n sz:Nat}(h:k<n*sz):k/sz<n∧k%sz<sz∧(k/sz)*sz+k%sz=k:=by
 have gn:0<sz:=by
  rcases Nat.eq_zero_or_pos sz with h0|h0
  ·rw[h0]at h;omega
  ·exact h0
 exact⟨Nat.div_lt_of_lt_mul (by rw[Nat.mul_comm];exact h),Nat.mod_lt _ gn,by rw[Nat.mul_comm];exact Nat.div_add_mod k sz⟩
theorem adv{zs:List Ce}{z:Array Value}{G1:Gh}(h:aS G1 w ρ zs z.toList)(n:Nat):aS G1 w ρ (mC zs n) (madeCells z (n*z.size)).toList:=by
 have hl:=h.length
 simp only[Array.length_toList]at hl
 refine aS.zF (by rw[kj_,hl,Array.length_toList,size_madeCells]) λk c v hc hv=>?_
 have hk:k<n*z.size:=by have:=(List.getElem?_eq_some_iff.1 hc).1;rw[kj_,hl]at this;exact this
 obtain⟨q1,q2,q3⟩:=adu hk
 have h1:=P2 zs n _ _ q1 (by rw[hl];exact q2)
 rw[hl,q3,hc]at h1
 have h2:=PG q2 q1
 rw[q3,<-Array.getElem?_toList,hv]at h2
 have hc:=h1.symm
 have hv:=h2.symm
 exact h.get _ c v hc (by simpa using hv)
theorem Ie(w:Nat):∀(n:Nat) (ts:List T) (i j:Nat),ts.length=n*w->i<n->j<w->dr (pU w n ts) i j=ts[i*w+j]?
 |0,_,_,_,_,h,_=>by omega
 |n+1,ts,0,j,hl,_,hj=>by
  simp only[pU,dr,List.getElem?_cons_zero,Option.bind_some,Nat.zero_mul,Nat.zero_add,List.getElem?_take,hj,if_true]
 |n+1,ts,i+1,j,hl,h,hj=>by
  have:=Ie w n (ts.drop w) i j (by simp[hl,Nat.add_mul]) (by omega) hj
  simp only[dr,pU,List.getElem?_cons_succ]at this⊢
  rw[this,List.getElem?_drop]
  congr 1
  rw[Nat.add_mul];omega
theorem Ig(w:Nat):∀(n:Nat) (ts:List T),(pU w n ts).length=n
 |0,_=>rfl
 |n+1,ts=>by simp[pU,Ig w n]
theorem zG(w:Nat):∀(n:Nat) (ts:List T),ts.length=n*w->∀r∈pU w n ts,r.length=w
 |0,_,_,r,h=>by cases h
 |n+1,ts,hl,r,h=>by
  simp only[pU,List.mem_cons]at h
  rcases h with rfl|h
  ·rw[List.length_take,hl,Nat.add_mul];omega
  ·exact zG w n (ts.drop w) (by simp[hl,Nat.add_mul]) r h
theorem zH:∀(ms:List Bool) (ts:List T),uo ms ts=true->∀(j:Nat) (t:T),ms[j]?=some true->ts[j]?=some t->eh t=true
 | [],_,_,j,t,h,_=>by simp at h
 |true::ms,[],h,_,_,_,h2=>by simp at h2
 |false::ms,[],h,_,_,_,h2=>by simp at h2
 |true::ms,t::ts,h,j,u,h1,h2=>by
  simp only[uo,bA]at h
  cases j with
  |zero=>simp at h2;subst h2;exact h.1
  |succ j=>exact zH ms ts h.2 j u (by simpa using h1) (by simpa using h2)
 |false::ms,t::ts,h,j,u,h1,h2=>by
  simp only[uo]at h
  cases j with
  |zero=>simp at h1
  |succ j=>exact zH ms ts h j u (by simpa using h1) (by simpa using h2)
theorem P4{t e n:Nat}{i:TypeInfo}{z:Value}(hu:P.underlying t=some (.slice e))(hi:P.info? e=some i)(hz:i.zero=some z)(hs:z.cells.size=i.size)(hb:n*i.size<=65536)
  {parts:Array (Nat×Value)}{bE:Array Value}(g:Instr.fill (λf=>some (f*i.size,i.size)) (madeCells z.cells (n*i.size)) parts.toList=some bE):
  (Instr.buildSlice t n parts).run P w=.ok (.slice (some ⟨w.heap.size,0,none⟩) n n) (w.alloc (.cells bE e)):=by
 have adw:¬(n*i.size>2^24):=by omega
 unfold madeCells at g
 by_cases h0:n*i.size=0
 ·simp only[h0,Array.range_zero',List.map_toArray,List.map_nil]at g
  simp[Instr.buildSlice,run_underlying hu,sizeOf,typeInfo,hi,h0,g,newRow,Array.range_zero']
 ·simp[Instr.buildSlice,run_underlying hu,sizeOf,typeInfo,hi,h0,adw,zeroValue,hz,g,newRow]
abbrev Mv:=List (Nat×Nat)
def gD:Mv->Nat->Option Nat
 | [],_=>none
 |(p,i)::mv,q=>bif Nat.beq p q then some i else gD mv q
def km:Mv->Nat->Option Nat
 | [],_=>none
 |(p,i)::mv,j=>bif Nat.beq i j then some p else km mv j
theorem zI:∀{mv:Mv} {q i:Nat},gD mv q=some i->(q,i)∈mv
 | [],q,i,h=>by simp[gD]at h
 |(p,j)::mv,q,i,h=>by
  simp only[gD]at h
  cases hb:Nat.beq p q with
  |true=>simp[hb]at h;subst h;rw[du hb];exact List.mem_cons_self
  |false=>simp[hb]at h;exact List.mem_cons_of_mem _ (zI h)
theorem De:∀{mv:Mv} {q i:Nat},km mv i=some q->(q,i)∈mv
 | [],q,i,h=>by simp[km]at h
 |(p,j)::mv,q,i,h=>by
  simp only[km]at h
  cases hb:Nat.beq j i with
  |true=>simp[hb]at h;subst h;rw[du hb];exact List.mem_cons_self
  |false=>simp[hb]at h;exact List.mem_cons_of_mem _ (De h)
def P5(G:Gh)(w:World)(ρ:List T)(mv:Mv):Nat->List Lf->List Value->Prop
 |_,[],[]=>True
 |q,x::xs,v::vs=>(∃t,x.fq ρ=some t∧((∃u,t=.c u∧v=u∧jH u=true)∨(t=.l []∧v=.slice none 0 0∧gD mv q=none)∨∃i,gD mv q=some i∧v=G.H i []∧eg G w i true [] t))∧P5 G w ρ mv (q+1) xs vs
 |_,_,_=>False
theorem ND{G1:Gh}:∀{zs cs:List Ce} {vs:List Value} {k k1:Wk} {xs:List Lf} {k0:Wk} {W0:St},db M B d up ρ G a w k0 G1->kl k k0 W0->(∀r u,W0.look r=some u->∃j,r=.o j∧u=.un)->aS G1 w ρ cs vs->(∀i∈dt cs,M i)->
  k.bJ zs cs=some (k1,xs)->∀q,k1.ct=k.ct∧k1.is=k.is∧xs.length=zs.length∧zs.length=cs.length∧∃mv W1,kl k1 k0 (W1++W0)∧(∀p i,(p,i)∈mv->q<=p∧M i∧W1.look (.o i)=some .un∧W0.look (.o i)=none)∧(∀r u,W1.look r=some u->∃p j,r=.o j∧u=.un∧M j∧(p,j)∈mv)∧
   (∀p i,(p,i)∈mv->gD mv p=some i∧km mv i=some p)∧
   (∀(BO:Mv),(∀p,q<=p->gD BO p=gD mv p)->(∀(j:Nat) (t:T),(∃x,xs[j]?=some x∧x.fq ρ=some t)->zs[j]?.map eX=some false->eh t=true)->P5 G1 w ρ BO q xs vs)
 | [],[],vs,k,k1,xs,k0,W0,hk,ho,hW,hr,hm,h,q=>by
  simp only[Wk.bJ,bc,Prod.mk.injEq]at h
  obtain⟨rfl,rfl⟩:=h
  cases vs with
  |nil=>exact⟨rfl,rfl,rfl,rfl,[],[],ho,(λp i h=>by cases h),(λr u h=>by cases h),(λp i h=>by cases h),λ_ _ _=>trivial⟩
  |cons _ _=>exact hr.elim
 |z::zs,.p x::cs,vs,k,k1,xs,k0,W0,hk,ho,hW,hr,hm,h,q=>by
  cases vs with
  |nil=>exact hr.elim
  |cons v vs=>
   simp only[Wk.bJ]at h
   cases hz:eX z with
   |true=>simp[hz]at h
   |false=>
    simp only[hz,cond_false,cm,bc,Prod.mk.injEq]at h
    obtain⟨⟨k2,ys⟩,h2,rfl,rfl⟩:=h
    obtain⟨e1,e2,e3,e4,mv,W1,e5,e6,e7,e8,e9⟩:=ND hk ho hW hr.2 (λi hi=>hm i (by simpa[dt]using hi)) h2 (q+1)
    refine⟨e1,e2,by simp[e3],by simp[e4],mv,W1,e5,λp i hp=>by have:=e6 p i hp;exact⟨by omega,this.2⟩,e7,e8,λBO rX lR=>?_⟩
    obtain⟨t,ht,hd⟩:=hr.1
    have cf:=lR 0 t ⟨x,rfl,ht⟩ (by simp[hz])
    obtain⟨u,rfl⟩:=uJ cf
    obtain⟨rfl,hu⟩:=hd.scalar
    exact⟨⟨.c v,ht,.inl ⟨v,rfl,rfl,hu⟩⟩,e9 BO (λp hp=>rX p (by omega)) λj t hj q7=>lR (j+1) t (by simpa using hj) (by simpa using q7)⟩
 |z::zs,.n::cs,vs,k,k1,xs,k0,W0,hk,ho,hW,hr,hm,h,q=>by
  cases vs with
  |nil=>exact hr.elim
  |cons v vs=>
   simp only[Wk.bJ,cm,bc,Prod.mk.injEq]at h
   obtain⟨⟨k2,ys⟩,h2,rfl,rfl⟩:=h
   obtain⟨e1,e2,e3,e4,mv,W1,e5,e6,e7,e8,e9⟩:=ND hk ho hW hr.2 (λi hi=>hm i (by simpa[dt]using hi)) h2 (q+1)
   refine⟨e1,e2,by simp[e3],by simp[e4],mv,W1,e5,λp i hp=>by have:=e6 p i hp;exact⟨by omega,this.2⟩,e7,e8,λBO rX lR=>?_⟩
   have hv:v=.slice none 0 0:=hr.1
   have cQ:gD mv q=none:=by
    cases hm:gD mv q with
    |none=>rfl
    |some i=>
     have:=zI hm
     have:=(e6 q i this).1
     omega
   exact⟨⟨.l [],rfl,.inr (.inl ⟨rfl,hv,by rw[rX q (Nat.le_refl _)];exact cQ⟩)⟩,e9 BO (λp hp=>rX p (by omega)) λj t hj q7=>lR (j+1) t (by simpa using hj) (by simpa using q7)⟩
 |z::zs,.o id []::cs,vs,k,k1,xs,k0,W0,hk,ho,hW,hr,hm,h,q=>by
  cases vs with
  |nil=>exact hr.elim
  |cons v vs=>
   simp only[Wk.bJ]at h
   split at h
   ·rename_i x hx
    simp only[cm,bc,Prod.mk.injEq]at h
    obtain⟨⟨k2,ys⟩,h2,rfl,rfl⟩:=h
    have cQ:W0.look (.o id)=none:=by
     cases hl:W0.look (.o id)with
     |none=>rfl
     |some u=>
      exfalso
      obtain⟨j,_,rfl⟩:=hW _ _ hl
      have:k.get (.o id)=.un:=by unfold Wk.get;rw[ho.2,hl];simp
      rw[this]at hx;cases hx
    have Gg:kl (k.set (.o id) .un) k0 ([(.o id,.un)]++W0):=⟨ho.1,λr=>by rw[show(k.set (.o id) .un).w.look r=_ from rT r,jX,ho.2,Option.or_assoc]⟩
    obtain⟨e1,e2,e3,e4,mv,W1,e5,e6,e7,e8,e9⟩:=ND hk Gg (λr u hl=>by
     rw[jX]at hl
     cases h1:St.look [(bf.o id,SV.un)] r with
     |some u'=>rw[h1]at hl;simp at hl;subst hl;rcases iH h1 with⟨q1,q2⟩|q1;exact⟨id,q1,q2⟩;cases q1
     |none=>rw[h1]at hl;exact hW r u (by simpa using hl)) hr.2 (λi hi=>hm i (by simp[dt,hi])) h2 (q+1)
    have ie:∀p i,(p,i)∈mv->i≠id:=by
     intro p i hp he
     subst he
     have:=(e6 p i hp).2.2.2
     rw[jX,sH]at this
     simp at this
    refine⟨e1,e2,by simp[e3],by simp[e4],(q,id)::mv,W1++[(.o id,.un)],by rw[List.append_assoc];exact e5,λp i hp=>?_,λr u hl=>?_,λp i hp=>?_,λBO rX lR=>?_⟩
    ·rcases List.mem_cons.1 hp with hp|hp
     ·cases hp
      have:W1.look (.o id)=none:=by
       cases hl:W1.look (.o id)with
       |none=>rfl
       |some u=>obtain⟨p,j,q1,_,_,q2⟩:=e7 _ _ hl;cases q1;exact absurd rfl (ie p _ q2)
      exact⟨Nat.le_refl _,hm id (by simp[dt]),by rw[jX,this,sH];simp,cQ⟩
     ·obtain⟨q1,q2,q3,q4⟩:=e6 p i hp
      refine⟨by omega,q2,by rw[jX,q3];rfl,?_⟩
      rw[jX]at q4
      exact(Option.or_eq_none_iff.1 q4).2
    ·rw[jX]at hl
     cases h1:W1.look r with
     |some u'=>
      rw[h1]at hl
      simp at hl
      subst hl
      obtain⟨p,j,q1,q2,q3,q4⟩:=e7 r u' h1
      exact⟨p,j,q1,q2,q3,by simp[q4]⟩
     |none=>
      rw[h1]at hl
      simp only[Option.none_or]at hl
      rcases iH hl with⟨q1,q2⟩|q1
      ·exact⟨q,id,q1,q2,hm id (by simp[dt]),by simp⟩
      ·cases q1
    ·rcases List.mem_cons.1 hp with hp|hp
     ·cases hp;simp[gD,km]
     ·have h1:=(e6 p i hp).1
      have h2:=ie p i hp
      have b1:Nat.beq q p=false:=by
       cases hb:Nat.beq q p with
       |false=>rfl
       |true=>have:=du hb;omega
      have b2:Nat.beq id i=false:=by
       cases hb:Nat.beq id i with
       |false=>rfl
       |true=>exact absurd (du hb).symm h2
      simp only[gD,km,b1,b2,cond_false]
      exact e8 p i hp
    ·have dJ:=hk.obj id
     have wZ:k0.get (.o id)=.ob true x:=by rw[<-ho.get cQ];exact hx
     rw[wZ]at dJ
     obtain⟨t,ht,bu⟩:=dJ
     obtain⟨p,hp,hv⟩:=hr.1
     simp only[lO,bc]at hp
     subst hp
     refine⟨⟨t,ht,.inr (.inr ⟨id,by rw[rX q (Nat.le_refl _)];simp[gD],hv,bu⟩)⟩,e9 BO (λp hp=>?_) λj t hj q7=>lR (j+1) t (by simpa using hj) (by simpa using q7)⟩
     rw[rX p (by omega)]
     have b1:Nat.beq q p=false:=by
      cases hb:Nat.beq q p with
      |false=>rfl
      |true=>have:=du hb;omega
     simp only[gD,b1,cond_false]
   ·rename_i x hx
    simp only[cm,bc,Prod.mk.injEq]at h
    obtain⟨⟨k2,ys⟩,h2,rfl,rfl⟩:=h
    have cQ:W0.look (.o id)=none:=by
     cases hl:W0.look (.o id)with
     |none=>rfl
     |some u=>
      exfalso
      obtain⟨j,_,rfl⟩:=hW _ _ hl
      have:k.get (.o id)=.un:=by unfold Wk.get;rw[ho.2,hl];simp
      rw[this]at hx;cases hx
    have Gg:kl (k.set (.o id) .un) k0 ([(.o id,.un)]++W0):=⟨ho.1,λr=>by rw[show(k.set (.o id) .un).w.look r=_ from rT r,jX,ho.2,Option.or_assoc]⟩
    obtain⟨e1,e2,e3,e4,mv,W1,e5,e6,e7,e8,e9⟩:=ND hk Gg (λr u hl=>by
     rw[jX]at hl
     cases h1:St.look [(bf.o id,SV.un)] r with
     |some u'=>rw[h1]at hl;simp at hl;subst hl;rcases iH h1 with⟨q1,q2⟩|q1;exact⟨id,q1,q2⟩;cases q1
     |none=>rw[h1]at hl;exact hW r u (by simpa using hl)) hr.2 (λi hi=>hm i (by simp[dt,hi])) h2 (q+1)
    have ie:∀p i,(p,i)∈mv->i≠id:=by
     intro p i hp he
     subst he
     have:=(e6 p i hp).2.2.2
     rw[jX,sH]at this
     simp at this
    refine⟨e1,e2,by simp[e3],by simp[e4],(q,id)::mv,W1++[(.o id,.un)],by rw[List.append_assoc];exact e5,λp i hp=>?_,λr u hl=>?_,λp i hp=>?_,λBO rX lR=>?_⟩
    ·rcases List.mem_cons.1 hp with hp|hp
     ·cases hp
      have:W1.look (.o id)=none:=by
       cases hl:W1.look (.o id)with
       |none=>rfl
       |some u=>obtain⟨p,j,q1,_,_,q2⟩:=e7 _ _ hl;cases q1;exact absurd rfl (ie p _ q2)
      exact⟨Nat.le_refl _,hm id (by simp[dt]),by rw[jX,this,sH];simp,cQ⟩
     ·obtain⟨q1,q2,q3,q4⟩:=e6 p i hp
      refine⟨by omega,q2,by rw[jX,q3];rfl,?_⟩
      rw[jX]at q4
      exact(Option.or_eq_none_iff.1 q4).2
    ·rw[jX]at hl
     cases h1:W1.look r with
     |some u'=>
      rw[h1]at hl
      simp at hl
      subst hl
      obtain⟨p,j,q1,q2,q3,q4⟩:=e7 r u' h1
      exact⟨p,j,q1,q2,q3,by simp[q4]⟩
     |none=>
      rw[h1]at hl
      simp only[Option.none_or]at hl
      rcases iH hl with⟨q1,q2⟩|q1
      ·exact⟨q,id,q1,q2,hm id (by simp[dt]),by simp⟩
      ·cases q1
    ·rcases List.mem_cons.1 hp with hp|hp
     ·cases hp;simp[gD,km]
     ·have h1:=(e6 p i hp).1
      have h2:=ie p i hp
      have b1:Nat.beq q p=false:=by
       cases hb:Nat.beq q p with
       |false=>rfl
       |true=>have:=du hb;omega
      have b2:Nat.beq id i=false:=by
       cases hb:Nat.beq id i with
       |false=>rfl
       |true=>exact absurd (du hb).symm h2
      simp only[gD,km,b1,b2,cond_false]
      exact e8 p i hp
    ·have dJ:=hk.obj id
     have wZ:k0.get (.o id)=.fl x:=by rw[<-ho.get cQ];exact hx
     rw[wZ]at dJ
     obtain⟨_,t,ht,bu⟩:=dJ
     obtain⟨p,hp,hv⟩:=hr.1
     simp only[lO,bc]at hp
     subst hp
     refine⟨⟨t,ht,.inr (.inr ⟨id,by rw[rX q (Nat.le_refl _)];simp[gD],hv,bu⟩)⟩,e9 BO (λp hp=>?_) λj t hj q7=>lR (j+1) t (by simpa using hj) (by simpa using q7)⟩
     rw[rX p (by omega)]
     have b1:Nat.beq q p=false:=by
      cases hb:Nat.beq q p with
      |false=>rfl
      |true=>have:=du hb;omega
     simp only[gD,b1,cond_false]
   ·cases h
 | [],_::_,vs,k,k1,xs,k0,W0,_,_,_,_,_,h,_=>by simp[Wk.bJ]at h
 |_::_,[],vs,k,k1,xs,k0,W0,_,_,_,_,_,h,_=>by simp[Wk.bJ]at h
 |_::_,.d::_,vs,k,k1,xs,k0,W0,_,_,_,_,_,h,_=>by simp[Wk.bJ]at h
 |_::_,.o _ (_::_)::_,vs,k,k1,xs,k0,W0,_,_,_,_,_,h,_=>by simp[Wk.bJ]at h
theorem P5.at{G1:Gh}{mv:Mv}:∀{xs:List Lf} {vs:List Value} {q:Nat},P5 G1 w ρ mv q xs vs->xs.length=vs.length∧∀(j:Nat) (t:T),(xs.map (Lf.ev ρ))[j]?=some t->∃v,vs[j]?=some v∧
  ((∃u,t=.c u∧v=u∧jH u=true)∨(t=.l []∧v=.slice none 0 0∧gD mv (q+j)=none)∨∃i,gD mv (q+j)=some i∧v=G1.H i []∧eg G1 w i true [] t)
 | [],[],q,_=>⟨rfl,λj t h=>by simp at h⟩
 |x::xs,v::vs,q,h=>by
  obtain⟨⟨t,h1,h2⟩,h3⟩:=h
  obtain⟨e1,e2⟩:=P5.at h3
  refine⟨by simp[e1],λj t' hj=>?_⟩
  cases j with
  |zero=>
   simp only[List.map_cons,List.getElem?_cons_zero,bc]at hj
   rw[Lf.bG h1]at hj
   subst hj
   exact⟨v,rfl,h2⟩
  |succ j=>
   have:=e2 j t' (by simpa using hj)
   rw[show q+1+j=q+(j+1) by omega]at this
   simpa using this
 | [],_::_,q,h=>h.elim
 |_::_,[],q,h=>h.elim
def Df(mv:Mv)(sz i:Nat):Lb->Option Lb
 | .o j p=>match km mv j with
  |some q=>some (.o i ((q/sz,q%sz)::p))
  |none=>some (.o j p)
 |l=>some l
theorem adx{mv:Mv}{sz i:Nat}(hi:i%2=0)(l l':Lb)(hq:qt l=true)(h:Df mv sz i l=some l'):qt l'=true:=by
 cases l with
 |o j p=>
  simp only[Df]at h
  split at h
  ·cases h;exact sD hi (by simp)
  ·cases h;exact hq
 |_=>simp[qt]at hq
def Gi(G:Gh)(mv:Mv)(sz:Nat)(v:Value):List (Nat×Nat)->Value
 | []=>v
 |(r,c)::p=>match gD mv (r*sz+c)with
  |some j=>G.H j p
  |none=>.slice none 0 0
theorem ko_:∀{zs cs:List Ce} {k k1:Wk} {xs:List Lf},k.bJ zs cs=some (k1,xs)->∀id,k.get (.o id)=.un->k1.get (.o id)=.un
 | [],[],k,k1,xs,h,id,hu=>by
  simp only[Wk.bJ,bc,Prod.mk.injEq]at h
  rw[<-h.1];exact hu
 |z::zs,.p x::cs,k,k1,xs,h,id,hu=>by
  simp only[Wk.bJ]at h
  cases hz:eX z with
  |true=>simp[hz]at h
  |false=>
   simp only[hz,cond_false,cm,bc,Prod.mk.injEq]at h
   obtain⟨⟨k2,ys⟩,h2,rfl,_⟩:=h
   exact ko_ h2 id hu
 |z::zs,.n::cs,k,k1,xs,h,id,hu=>by
  simp only[Wk.bJ,cm,bc,Prod.mk.injEq]at h
  obtain⟨⟨k2,ys⟩,h2,rfl,_⟩:=h
  exact ko_ h2 id hu
 |z::zs,.o j []::cs,k,k1,xs,h,id,hu=>by
  simp only[Wk.bJ]at h
  have key:∀k2 ys,Wk.bJ (k.set (.o j) .un) zs cs=some (k2,ys)->k2.get (.o id)=.un:=λk2 ys h2=>by
   refine ko_ h2 id ?_
   by_cases e:j=id
   ·subst e;exact Wk.bN _ _ _
   ·unfold Wk.get Wk.set
    rw[St.cg _ _ (by simpa using e)]
    exact hu
  split at h
  ·simp only[cm,bc,Prod.mk.injEq]at h
   obtain⟨⟨k2,ys⟩,h2,rfl,_⟩:=h
   exact key _ _ h2
  ·simp only[cm,bc,Prod.mk.injEq]at h
   obtain⟨⟨k2,ys⟩,h2,rfl,_⟩:=h
   exact key _ _ h2
  ·cases h
 | [],_::_,k,k1,xs,h,_,_=>by simp[Wk.bJ]at h
 |_::_,[],k,k1,xs,h,_,_=>by simp[Wk.bJ]at h
 |_::_,.d::_,k,k1,xs,h,_,_=>by simp[Wk.bJ]at h
 |_::_,.o _ (_::_)::_,k,k1,xs,h,_,_=>by simp[Wk.bJ]at h
theorem Dg:∀{zs cs:List Ce} {k k1:Wk} {xs:List Lf},k.bJ zs cs=some (k1,xs)->∀id,.o id []∈cs->k1.get (.o id)=.un
 | [],[],k,k1,xs,h,id,hm=>by cases hm
 |z::zs,.p x::cs,k,k1,xs,h,id,hm=>by
  simp only[Wk.bJ]at h
  cases hz:eX z with
  |true=>simp[hz]at h
  |false=>
   simp only[hz,cond_false,cm,bc,Prod.mk.injEq]at h
   obtain⟨⟨k2,ys⟩,h2,rfl,_⟩:=h
   exact Dg h2 id (by simpa using hm)
 |z::zs,.n::cs,k,k1,xs,h,id,hm=>by
  simp only[Wk.bJ,cm,bc,Prod.mk.injEq]at h
  obtain⟨⟨k2,ys⟩,h2,rfl,_⟩:=h
  exact Dg h2 id (by simpa using hm)
 |z::zs,.o j []::cs,k,k1,xs,h,id,hm=>by
  simp only[Wk.bJ]at h
  have key:∀k2 ys,Wk.bJ (k.set (.o j) .un) zs cs=some (k2,ys)->k2.get (.o id)=.un:=λk2 ys h2=>by
   rcases List.mem_cons.1 hm with e|hm
   ·refine ko_ h2 id ?_
    cases e
    exact Wk.bN _ _ _
   ·exact Dg h2 id hm
  split at h
  ·simp only[cm,bc,Prod.mk.injEq]at h
   obtain⟨⟨k2,ys⟩,h2,rfl,_⟩:=h
   exact key _ _ h2
  ·simp only[cm,bc,Prod.mk.injEq]at h
   obtain⟨⟨k2,ys⟩,h2,rfl,_⟩:=h
   exact key _ _ h2
  ·cases h
 | [],_::_,k,k1,xs,h,_,_=>by simp[Wk.bJ]at h
 |_::_,[],k,k1,xs,h,_,_=>by simp[Wk.bJ]at h
 |_::_,.d::_,k,k1,xs,h,_,_=>by simp[Wk.bJ]at h
 |_::_,.o _ (_::_)::_,k,k1,xs,h,_,_=>by simp[Wk.bJ]at h
def sS(k0:Wk):List Ce->St
 | []=>[]
 | .o id []::cs=>
  match k0.get (.o id)with
  | .ob true x=>sS k0 cs++[(.o id,.fz .z x)]
  |_=>sS k0 cs
 |_::cs=>sS k0 cs
theorem Ih{k0:Wk}:∀(cs:List Ce) (k:Wk),(Wk.alias k0 k cs).ct=k.ct∧(Wk.alias k0 k cs).is=k.is∧(Wk.alias k0 k cs).r=k.r∧∀r,(Wk.alias k0 k cs).w.look r=((sS k0 cs).look r).or (k.w.look r)
 | [],k=>⟨rfl,rfl,rfl,λr=>by simp[Wk.alias,sS,St.look]⟩
 | .o id []::cs,k=>by
  have Db:∀v,k0.get (.o id)=v->(∀x,v≠.ob true x)->Wk.alias k0 k (.o id []::cs)=Wk.alias k0 k cs∧sS k0 (.o id []::cs)=sS k0 cs:=λv hv hx=>by
   simp only[Wk.alias,sS,hv]
   exact⟨trivial,trivial⟩
  by_cases hx:∃x,k0.get (.o id)=.ob true x
  ·obtain⟨x,hx⟩:=hx
   obtain⟨e1,e2,e3,e4⟩:=Ih (k0:=k0) cs (k.set (.o id) (.fz .z x))
   have f1:Wk.alias k0 k (.o id []::cs)=Wk.alias k0 (k.set (.o id) (.fz .z x)) cs:=by simp only[Wk.alias,hx]
   have f2:sS k0 (.o id []::cs)=sS k0 cs++[(.o id,.fz .z x)]:=by simp only[sS,hx]
   rw[f1,f2]
   refine⟨e1,e2,e3,λr=>?_⟩
   rw[e4,jX,Option.or_assoc]
   congr 1
   exact rT r
  ·obtain⟨f1,f2⟩:=Db _ rfl λx e=>hx ⟨x,e⟩
   rw[f1,f2]
   exact Ih cs k
 | .p _::cs,k=>Ih (k0:=k0) cs k
 | .n::cs,k=>Ih (k0:=k0) cs k
 | .d::cs,k=>Ih (k0:=k0) cs k
 | .o _ (_::_)::cs,k=>Ih (k0:=k0) cs k
theorem Ii{k0:Wk}:∀{cs:List Ce} {r:bf} {u:SV},(sS k0 cs).look r=some u->∃id x,r=.o id∧u=.fz .z x∧.o id []∈cs∧k0.get (.o id)=.ob true x
 | [],r,u,h=>by cases h
 | .o id []::cs,r,u,h=>by
  simp only[sS]at h
  split at h
  ·rename_i x hx
   rw[jX]at h
   cases hl:(sS k0 cs).look r with
   |some u'=>
    rw[hl]at h
    simp only[Option.some_or,bc]at h
    subst h
    obtain⟨tU,x',e1,e2,e3,e4⟩:=Ii hl
    exact⟨tU,x',e1,e2,.tail _ e3,e4⟩
   |none=>
    rw[hl]at h
    simp only[Option.none_or]at h
    rcases iH h with⟨e1,e2⟩|hl
    ·exact⟨id,x,e1,e2,.head _,hx⟩
    ·cases hl
  ·obtain⟨tU,x',e1,e2,e3,e4⟩:=Ii h
   exact⟨tU,x',e1,e2,.tail _ e3,e4⟩
 | .p _::cs,r,u,h=>by obtain⟨tU,x',e1,e2,e3,e4⟩:=Ii (cs:=cs) h;exact⟨tU,x',e1,e2,.tail _ e3,e4⟩
 | .n::cs,r,u,h=>by obtain⟨tU,x',e1,e2,e3,e4⟩:=Ii (cs:=cs) h;exact⟨tU,x',e1,e2,.tail _ e3,e4⟩
 | .d::cs,r,u,h=>by obtain⟨tU,x',e1,e2,e3,e4⟩:=Ii (cs:=cs) h;exact⟨tU,x',e1,e2,.tail _ e3,e4⟩
 | .o _ (_::_)::cs,r,u,h=>by obtain⟨tU,x',e1,e2,e3,e4⟩:=Ii (cs:=cs) h;exact⟨tU,x',e1,e2,.tail _ e3,e4⟩
theorem eg.w8{G G':Gh}{w w':World}{id:Nat}{p:List (Nat×Nat)}{t:T}{dp:Bool}(h:eg G w id dp p t)(fA:dp=true)(gj:∀c q,G.ω c=some (.o id q)->G'.q c=none∧w'.heap[c]?=w.heap[c]?):eB G'.q w' t (G.H id p):=by
 induction h with
 |nil h=>rw[h];exact .nil
 | @l dp p xs b wd cap bE elem cv h1 h2 h3 h4 h5 h6 h7 h8 h9 lP pK ih=>
  obtain⟨e1,e2⟩:=gj b p h3
  rw[h1]
  refine .l (cv:=cv) h6 h2.1 e1 (F0 (e2.trans h4)) (λi j t ht=>?_) λi j t ht=>?_
  ·rw[uG (e2.trans h4),Nat.zero_add];exact h7 i j t ht
  ·cases t with
   |c v=>obtain⟨hv,hs⟩:=h8 i j v ht;rw[hv];exact .c hs
   |l ys=>rw[lP i j ys ht fA];exact ih i j ys ht fA rfl
theorem ady(dC:dU P cx)(h:Rel M B d up s ρ G a w)(hn:∀n,o.dst=some n->n<a.tmps.size){t n:Nat}{ps:Array (Nat×Operand)}(ho:o.op=.buildSlice t n ps){ti te:TI}(fj:cx.ty t=some ti)(nZ:cx.ty ti.el=some te)
  {i:TypeInfo}{z:Value}(hu:P.underlying t=some (.slice ti.el))(rU:P.info? ti.el=some i)(nl:i.size=te.sz)(BJ:i.zero=some z)(q8:z.cells.size=te.sz)(gn:0<te.sz)(hb:n*te.sz<=65536)
  (CX:aS G w ρ te.zero z.cells.toList)(rP:dt te.zero=[]){cs:List Ce}{bE:Array Value}(g1:Instr.fill (λi=>some (i*te.sz,te.sz)) (madeCells z.cells (n*z.cells.size)) (ps.toList.map λp=>(p.1,a.eval p.2))=some bE)(g2:aS G w ρ cs bE.toList∧∀i∈dt cs,M i)
  (wS:bE.size=n*te.sz){k1:Wk}{xs:List Lf}(hD:Wk.bJ ⟨s.only R,[],ct,[]⟩ (mC te.zero n) cs=some (k1,xs))
  (hk:(let r:=(Wk.alias ⟨s.only R,[],ct,[]⟩ k1 cs).em (.lit te.sz (bif true then(mC te.zero n).map (λz=>!eX z)else [])) xs;bP d o {r.1.set (.o (eE r.1.ct.i)) (.ob true r.2)with ct:=⟨r.1.ct.a,eE r.1.ct.i+1⟩} (.v false [.o (eE r.1.ct.i) []]))=k')(hd:k'.bm S ρ)(hM:∀i,ct.i<=i->i<k'.ct.i->¬M i):
  bH P (Mn M ct.i k'.ct.i) B d up ρ a w s o k'.w Q:=by
 have hw:=db.start h R ct
 obtain⟨a1,a2,a3,a4,mv,W1,a5,a6,a7,a8,a9⟩:=ND hw (show kl ⟨s.only R,[],ct,[]⟩ ⟨s.only R,[],ct,[]⟩ [] from⟨rfl,λr=>by simp[St.look]⟩) (λr u h=>by cases h) g2.1 g2.2 hD 0
 rw[List.append_nil]at a5
 have hun:=Dg hD
 obtain⟨l1,l2,l3,l4⟩:=Ih (k0:=⟨s.only R,[],ct,[]⟩) cs k1
 generalize Wk.alias ⟨s.only R,[],ct,[]⟩ k1 cs=NE at l1 l2 l3 l4 hk
 generalize hy:NE.em (.lit te.sz (bif true then(mC te.zero n).map (λz=>!eX z)else [])) xs=ky at hk
 obtain⟨k2,y⟩:=ky
 have zJ:k2=(NE.em (.lit te.sz (bif true then(mC te.zero n).map (λz=>!eX z)else [])) xs).1:=by rw[hy]
 have hye:y=(NE.em (.lit te.sz (bif true then(mC te.zero n).map (λz=>!eX z)else [])) xs).2:=by rw[hy]
 have my:NE.eO k2:=by rw[zJ];exact Wk.bB _ _ _
 have iz:bP d o {k2.set (.o (eE k2.ct.i)) (.ob true y)with ct:=⟨k2.ct.a,eE k2.ct.i+1⟩} (.v false [.o (eE k2.ct.i) []])=k':=hk
 have jV:k2.ct.i=ct.i:=by rw[my.i,l1,a1]
 have fi:(NE.em (.lit te.sz (bif true then(mC te.zero n).map (λz=>!eX z)else [])) xs).1.bm S ρ:=by
  rw[<-zJ]
  rw[<-iz]at hd
  have h2:=cF.1 hd
  exact h2
 obtain⟨zB,r,hr,mZ⟩:=Wk.bK fi
 rw[<-hye]at mZ
 have pX:te.zero.length=te.sz:=by have:=CX.length;rw[this];simpa using q8
 have zK:(xs.map (Lf.ev ρ)).length=n*te.sz:=by rw[List.length_map,a3,kj_,pX]
 have oD:r=.l (pU te.sz n (xs.map (Lf.ev ρ)))∧uo ((mC te.zero n).map (λz=>!eX z)) (xs.map (Lf.ev ρ))=true:=by
  simp only[Prim.ev,zK,Nat.mul_div_cancel _ gn,if_pos gn,cond_true]at hr
  split at hr
  ·rename_i hm
   exact⟨(Option.some.inj hr).symm,hm⟩
  ·cases hr
 obtain⟨rfl,sT⟩:=oD
 have rX:=a9 mv (λ_ _=>rfl) λj t ⟨x,hx,ht⟩ q7=>by
  refine zH _ _ sT j t ?_ ?_
  ·cases Dh:(mC te.zero n)[j]? with
   |none=>rw[Dh]at q7;cases q7
   |some zc=>rw[Dh]at q7;simp at q7;simp[Dh,q7]
  ·rw[List.getElem?_map,hx];simp[Lf.bG ht]
 obtain⟨b1,b3⟩:=rX.at
 have oB:k'.ct.i=eE ct.i+1:=by rw[<-iz,mw,<-jV]
 have jl:=yM ct.i
 let Hn:=Gi G mv te.sz (.slice (some ⟨w.heap.size,0,none⟩) n n)
 have ma:∀p,∃a n c,Hn p=.slice a n c:=λp=>by
  cases p with
  |nil=>exact⟨_,_,_,rfl⟩
  |cons x p=>
   obtain⟨r0,c0⟩:=x
   cases hm:gD mv (r0*te.sz+c0)with
   |none=>exact⟨none,0,0,by simp only[Hn,Gi,hm]⟩
   |some j=>obtain⟨a0,n0,c1,h0⟩:=G.hs j p;exact⟨a0,n0,c1,by simp only[Hn,Gi,hm];exact h0⟩
 have d_:(Instr.buildSlice t n (ps.map λ(i,x)=>(i,a.eval x))).run P w=.ok (.slice (some ⟨w.heap.size,0,none⟩) n n) (w.alloc (.cells bE ti.el)):=by
  have yc:(ps.map λ(x:Nat×Operand)=>(x.1,a.eval x.2)).toList=ps.toList.map λp=>(p.1,a.eval p.2):=by simp
  rw[<-yc,<-nl]at g1
  exact P4 hu rU BJ (by rw[q8,nl]) (by rw[nl];exact hb) (by rw[nl]at g1⊢;rw[<-q8]at g1⊢;exact g1)
 have gp:(execOp a.eval o).run P w=.ok (.value (Hn [])) (w.alloc (.cells bE ti.el)):=by
  unfold execOp
  simp only[ho]
  rw[Sem.run_bind,d_]
  rfl
 rw[oB,<-iz,<-jV]
 have Gj:¬M (eE k2.ct.i):=hM _ (by rw[jV];exact jl) (by rw[oB,jV];omega)
 refine bH.mono (M:=Mn M (eE k2.ct.i) (eE k2.ct.i+1)) ?_ (λi hi=>hi.imp_right λhi=>by rw[jV]at hi⊢;exact⟨by omega,hi.2⟩)
 refine C_ (nb:=some w.heap.size) (f:=Df mv te.sz (eE k2.ct.i)) (Hn:=Hn) (ma:=ma) (w':=w.alloc (.cells bE ti.el)) (k:={(⟨s.only R,[],ct,[]⟩:Wk)with ct:=⟨k2.ct.a,eE k2.ct.i⟩}) (W1:=sS ⟨s.only R,[],ct,[]⟩ cs++W1) (dp:=true) (y:=y) (t:=.l (pU te.sz n (xs.map (Lf.ev ρ))))
  h (show db M B d up ρ G a w {(⟨s.only R,[],ct,[]⟩:Wk)with ct:=⟨k2.ct.a,eE k2.ct.i⟩} G from⟨hw.rel,hw.aU⟩) hn Gj (λr=>?_) (λr u hu=>?_) (λl hl=>?_) (λl l' ⟨b,hb⟩ he=>?_)
  (adx (H5 _)) (λc hc=>by cases hc;exact .inl rfl) (by simp) (λc hc=>by cases hc;simp) (λb hb _=>heap_alloc_old w _ b hb) (CY _ _) rfl mZ ?_ gp
 ·show((k2.w.set (.o (eE k2.ct.i)) _)).look r=_
  rw[show(k2.w.set (.o (eE k2.ct.i)) (.ob true y)).look r=_ from rT (k:=k2) r]
  rw[show k2.w.look r=NE.w.look r by rw[my.w],l4 r,a5.2 r,<-Option.or_assoc,<-Option.or_assoc]
  congr 1
  show _=St.look ((bf.o (eE k2.ct.i),_)::(sS ⟨s.only R,[],ct,[]⟩ cs++W1)) r
  simp only[St.look,jX]
  cases(bf.o (eE k2.ct.i)).beq r<;>simp
 ·rw[jX]at hu
  cases hl:(sS ⟨s.only R,[],ct,[]⟩ cs).look r with
  |some u'=>
   rw[hl]at hu
   simp only[Option.some_or,bc]at hu
   subst hu
   obtain⟨id,x,e1,e2,e3,e4⟩:=Ii hl
   subst e1 e2
   have dJ:=hw.obj id
   rw[e4]at dJ
   obtain⟨t,ht,bu⟩:=dJ
   obtain⟨q,hq⟩:∃q,(q,id)∈mv:=by
    have h0:=hun id e3
    cases m5:W1.look (.o id)with
    |none=>
     have:k1.get (.o id)=Wk.get ⟨s.only R,[],ct,[]⟩ (.o id):=by unfold Wk.get;rw[a5.2,m5,a5.1];simp
     rw[this,e4]at h0;cases h0
    |some u=>obtain⟨p,j,q1,_,_,q4⟩:=a7 _ _ m5;cases q1;exact⟨p,q4⟩
   have m6:=(a8 _ id hq).2
   have NB:=(a6 q id hq).2.1
   have P6:id≠eE k2.ct.i:=λe=>Gj (e▸NB)
   refine⟨id,rfl,⟨t,ht,?_,trivial⟩,NB,λi hi=>by simp[cT]at hi⟩
   have hd:=bu.w8 (G':=G.dO (some w.heap.size) (eE k2.ct.i) (Df mv te.sz (eE k2.ct.i)) Hn ma) (w':=w.alloc (.cells bE ti.el)) rfl λc p hc=>by
    have a_:=(hw.rel.gx c _ hc).2
    have dj:¬(w.heap.size=c):=by omega
    exact⟨Hy (l:=.o (eE k2.ct.i) ((q/te.sz,q%te.sz)::p)) (by simp[Gh.dO,dj,hc,Df,m6]) (sD (H5 _) (by simp)),heap_alloc_old w _ c a_⟩
   have hh:(G.dO (some w.heap.size) (eE k2.ct.i) (Df mv te.sz (eE k2.ct.i)) Hn ma).H id []=G.H id []:=by simp[Gh.dO,P6]
   rw[hh]
   exact hd
  |none=>
   rw[hl]at hu
   simp only[Option.none_or]at hu
   obtain⟨p,j,q1,q2,q3,_⟩:=a7 r u hu
   subst q2
   exact⟨j,q1,trivial,q3,λi hi=>by simp[cT]at hi⟩
 ·cases l with
  |f=>rfl
  |x b=>rfl
  |o j p=>
   have h0:=(Option.or_eq_none_iff.1 (by have:=hl j p rfl;rwa[jX]at this)).2
   have:km mv j=none:=by
    cases hm:km mv j with
    |none=>rfl
    |some q=>have:=(a6 q j (De hm)).2.2.1;rw[h0]at this;cases this
   simp[Df,this]
 ·have je:=hw.rel.gx b _ hb
  cases l with
  |f=>cases he;exact .inl je.1
  |x b=>cases he;exact .inl je.1
  |o j p=>
   simp only[Df]at he
   split at he
   ·cases he;exact .inr rfl
   ·cases he;exact .inl je.1
 ·have hlen:(pU te.sz n (xs.map (Lf.ev ρ))).length=n:=Ig _ _ _
  have uQ:∀(ii j:Nat) (t:T),dr (pU te.sz n (xs.map (Lf.ev ρ))) ii j=some t->ii<n∧j<te.sz∧∃v,bE[ii*te.sz+j]?=some v∧
    ((∃u,t=.c u∧v=u∧jH u=true)∨(t=.l []∧v=.slice none 0 0∧gD mv (ii*te.sz+j)=none)∨∃i,gD mv (ii*te.sz+j)=some i∧v=G.H i []∧eg G w i true [] t):=by
   intro ii j t ht
   obtain⟨rr,_,hm,F_,q1,q2⟩:=rO ht
   rw[hlen]at q1
   rw[zG _ _ _ zK rr hm]at q2
   rw[Ie _ _ _ _ _ zK q1 q2]at ht
   obtain⟨v,c2,c3⟩:=b3 _ t ht
   rw[Nat.zero_add]at c3
   exact⟨q1,q2,v,by simpa using c2,c3⟩
  refine .l (wd:=te.sz) (cv:=λii j=>bE.getD (ii*te.sz+j) undef) (by rw[hlen];simp[Gh.dO,Hn,Gi]) ⟨by rw[hlen];exact Nat.le_refl _,λhe=>by have:=congrArg List.length he;rw[hlen]at this;simpa using this⟩ (by simp[Gh.dO]) (heap_alloc_new w _) wS (zG _ _ _ zK) ?_ ?_ (λ_ _ _ _ hf=>by cases hf) ?_ ?_
  ·intro ii j t ht
   obtain⟨q1,q2,v,q3,_⟩:=uQ ii j t ht
   simp[Array.getD_eq_getD_getElem?,q3]
  ·intro ii j v ht
   obtain⟨q1,q2,u,q3,q4⟩:=uQ ii j _ ht
   rcases q4 with⟨u',e1,e2,e3⟩|⟨e1,_⟩|⟨i',_,_,e1⟩
   ·cases e1;subst e2;exact⟨by simp[Array.getD_eq_getD_getElem?,q3],e3⟩
   ·cases e1
   ·cases e1
  ·intro ii j ys ht _
   obtain⟨q1,q2,u,q3,q4⟩:=uQ ii j _ ht
   rcases q4 with⟨u',e1,e2,e3⟩|⟨e1,e2,e3⟩|⟨i',e1,e2,e3⟩
   ·cases e1
   ·simp[Array.getD_eq_getD_getElem?,q3,e2,Gh.dO,Hn,Gi,e3]
   ·simp[Array.getD_eq_getD_getElem?,q3,e2,Gh.dO,Hn,Gi,e1]
  ·intro ii j ys ht _
   obtain⟨q1,q2,u,q3,q4⟩:=uQ ii j _ ht
   rcases q4 with⟨u',e1,e2,e3⟩|⟨e1,e2,e3⟩|⟨i',e1,e2,e3⟩
   ·cases e1
   ·cases e1;exact .nil (by simp[Gh.dO,Hn,Gi,e3])
   ·have m6:=(a8 _ i' (zI e1)).2
    refine e3.move rfl (λc p hc=>?_) λp=>?_
    ·have a_:=(hw.rel.gx c _ hc).2
     have dj:¬(w.heap.size=c):=by omega
     simp only[List.nil_append]at hc
     refine⟨?_,heap_alloc_old w _ c a_⟩
     have hdiv:(ii*te.sz+j)/te.sz=ii:=by rw[Nat.add_comm,Nat.add_mul_div_right _ _ gn,Nat.div_eq_of_lt q2];omega
     have adA:(ii*te.sz+j)%te.sz=j:=by rw[Nat.add_comm,Nat.add_mul_mod_self_right,Nat.mod_eq_of_lt q2]
     simp[Gh.dO,dj,hc,Df,m6,hdiv,adA]
    ·simp[Gh.dO,Hn,Gi,e1]
theorem adB(dC:dU P cx)(h:Rel M B d up s ρ G a w)(hn:∀n,o.dst=some n->n<a.tmps.size){t n:Nat}{ps:Array (Nat×Operand)}(ho:o.op=.buildSlice t n ps)
  (hk:iy cx cw eW d o oi ⟨s.only R,[],ct,[]⟩=some k')(hd:k'.bm S ρ)(hM:∀i,ct.i<=i->i<k'.ct.i->¬M i):bH P (Mn M ct.i k'.ct.i) B d up ρ a w s o k'.w Q:=by
 have hw:=db.start h R ct
 simp only[iy,ho,cm]at hk
 obtain⟨ti,fj,te,nZ,hk⟩:=hk
 cases hc:(Nat.beq ti.kd 3&&Nat.ble (n*te.sz) 65536&&Nat.blt 0 te.sz)with
 |false=>simp[hc]at hk
 |true=>
  simp only[hc,cond_true,cm,bc]at hk
  simp only[bA]at hc
  obtain⟨⟨nX,jm⟩,hc3⟩:=hc
  obtain⟨l,hl,cs,jW,⟨k1,xs,dp⟩,lT,hk⟩:=hk
  simp only at hk
  have hT:=dC.ty _ _ fj
  have hE:=dC.ty _ _ nZ
  obtain⟨i,z,rU,nl,Ny,BJ,uI⟩:=hE.info
  have hu:=hT.sl (du nX)
  obtain⟨CX,rP⟩:=F6 (G:=G) (w:=w) (ρ:=ρ) uI
  have q8:z.cells.size=te.sz:=by
   have:=CX.length
   rw[hE.ze]at this
   simpa using this.symm
  have gn:0<te.sz:=Nat.lt_of_succ_le (by simpa[Nat.blt]using hc3)
  obtain⟨bE,g1,g2,g3,g4⟩:=HP (a:=a) hw (fs:=(List.range n).map λi=>(i*te.sz,te.sz)) (place:=λi=>some (i*te.sz,te.sz)) (λf o hf=>by
   rw[List.getElem?_map]at hf
   cases hr:(List.range n)[f]? with
   |none=>simp[hr]at hf
   |some f'=>
    have a_:=(List.getElem?_eq_some_iff.1 hr).1
    rw[List.getElem?_eq_getElem a_,List.getElem_range,bc]at hr
    subst hr
    rw[List.getElem?_eq_getElem a_]at hf
    simpa using hf) ps.toList l (mC te.zero n) cs (madeCells z.cells (n*z.cells.size)) hl jW (adv CX n) (λi hi=>by rw[P3 rP]at hi;cases hi)
  cases hD:(bif cx.fz cw eW oi then none else Wk.bJ ⟨s.only R,[],ct,[]⟩ (mC te.zero n) cs)with
  |some r=>
   obtain⟨kD,xsD⟩:=r
   simp only[Wk.qI,hD,bc,Prod.mk.injEq]at lT
   obtain⟨rfl,rfl,rfl⟩:=lT
   have hD':Wk.bJ ⟨s.only R,[],ct,[]⟩ (mC te.zero n) cs=some (kD,xsD):=by
    cases rV:cx.fz cw eW oi with
    |true=>rw[rV]at hD;cases hD
    |false=>rw[rV]at hD;exact hD
   exact ady dC h hn ho fj nZ hu rU nl BJ q8 gn (Nat.le_of_ble_eq_true jm) CX rP g1 ⟨g2,g3⟩ (by rw[g4,size_madeCells,q8]) hD' hk hd hM
  |none=>
  simp only[Wk.qI,hD]at lT
  obtain⟨a1,a2,a3,G2,w2,a4,a5,a6⟩:=zE hw g2 lT
  generalize hy:k1.em (.lit te.sz (bif dp then(mC te.zero n).map (λz=>!eX z)else [])) xs=ky at hk
  obtain⟨k2,y⟩:=ky
  have zJ:k2=(k1.em (.lit te.sz (bif dp then(mC te.zero n).map (λz=>!eX z)else [])) xs).1:=by rw[hy]
  have hye:y=(k1.em (.lit te.sz (bif dp then(mC te.zero n).map (λz=>!eX z)else [])) xs).2:=by rw[hy]
  have my:k1.eO k2:=by rw[zJ];exact Wk.bB _ _ _
  have iz:bP d o {k2.set (.o (eE k2.ct.i)) (.ob dp y)with ct:=⟨k2.ct.a,eE k2.ct.i+1⟩} (.v false [.o (eE k2.ct.i) []])=k':=hk
  have jV:k2.ct.i=ct.i:=by rw[my.i,a1]
  have fi:(k1.em (.lit te.sz (bif dp then(mC te.zero n).map (λz=>!eX z)else [])) xs).1.bm S ρ:=by
   rw[<-zJ]
   rw[<-iz]at hd
   have h2:=cF.1 hd
   exact h2
  obtain⟨zB,r,hr,mZ⟩:=Wk.bK fi
  rw[<-hye]at mZ
  obtain⟨b1,b2,b3⟩:=a6.at
  have wS:bE.size=n*te.sz:=by rw[g4,size_madeCells,q8]
  have zK:(xs.map (Lf.ev ρ)).length=n*te.sz:=by rw[List.length_map,b1,Array.length_toList,wS]
  have oD:r=.l (pU te.sz n (xs.map (Lf.ev ρ)))∧uo (bif dp then(mC te.zero n).map (λz=>!eX z)else []) (xs.map (Lf.ev ρ))=true:=by
   simp only[Prim.ev,zK,Nat.mul_div_cancel _ gn,if_pos gn]at hr
   split at hr
   ·rename_i hm
    exact⟨(Option.some.inj hr).symm,hm⟩
   ·cases hr
  obtain⟨rfl,sT⟩:=oD
  have oB:k'.ct.i=eE ct.i+1:=by rw[<-iz,mw,<-jV]
  have jl:=yM ct.i
  let Hn:List (Nat×Nat)->Value:=λp=>match p with| []=>.slice (some ⟨w.heap.size,0,none⟩) n n|_=>.slice none 0 0
  have ma:∀p,∃a n c,Hn p=.slice a n c:=λp=>by cases p<;>exact⟨_,_,_,rfl⟩
  have d_:(Instr.buildSlice t n (ps.map λ(i,x)=>(i,a.eval x))).run P w=.ok (.slice (some ⟨w.heap.size,0,none⟩) n n) (w.alloc (.cells bE ti.el)):=by
   have yc:(ps.map λ(x:Nat×Operand)=>(x.1,a.eval x.2)).toList=ps.toList.map λp=>(p.1,a.eval p.2):=by simp
   rw[<-yc,<-nl]at g1
   have:=Nat.le_of_ble_eq_true jm
   exact P4 hu rU BJ (by rw[q8,nl]) (by rw[nl];omega) (by rw[nl]at g1⊢;rw[<-q8]at g1⊢;exact g1)
  have gp:(execOp a.eval o).run P w=.ok (.value (Hn [])) (w.alloc (.cells bE ti.el)):=
   by
   unfold execOp
   simp only[ho]
   rw[Sem.run_bind,d_]
   rfl
  rw[oB,<-iz,<-jV]
  refine bH.mono (M:=Mn M (eE k2.ct.i) (eE k2.ct.i+1)) ?_ (λi hi=>hi.imp_right λhi=>by rw[jV]at hi⊢;exact⟨by omega,hi.2⟩)
  have w3:=w2.same my
  refine C_ (nb:=some w.heap.size) (f:=some) (Hn:=Hn) (ma:=ma) (w':=w.alloc (.cells bE ti.el)) (k:={k2 with ct:=⟨k2.ct.a,eE k2.ct.i⟩}) (W1:=[]) (t:=.l (pU te.sz n (xs.map (Lf.ev ρ))))
   h (show db M B d up ρ G a w {k2 with ct:=⟨k2.ct.a,eE k2.ct.i⟩} G2 from⟨w3.rel,w3.aU⟩) hn (hM _ (by show ct.i<=eE k2.ct.i;rw[jV];exact jl) (by rw[oB];show eE k2.ct.i<_;rw[jV];omega)) (λr=>by exact rT (k:=k2) r) (λr u hu=>by cases hu) (λl _=>rfl) (λl l' ⟨b,hb⟩ he=>by cases he;exact .inl (w2.rel.gx b _ hb).1)
   (λl l' hq he=>by cases he;exact hq) (λc hc=>by cases hc;exact .inl rfl) (by simp) (λc hc=>by cases hc;simp) (λb hb _=>heap_alloc_old w _ b hb) (CY _ _) rfl mZ ?_ gp
  have hlen:(pU te.sz n (xs.map (Lf.ev ρ))).length=n:=Ig _ _ _
  have oY:∀b,b<w.heap.size->G2.q b=none->(G2.dO (some w.heap.size) (eE k2.ct.i) some Hn ma).q b=none∧(w.alloc (.cells bE ti.el)).heap[b]?=w.heap[b]?:=by
   intro b hb h0
   have dj:some w.heap.size≠some b:=by simp;omega
   exact⟨C9 (λl l' hq he=>by cases he;exact hq) dj h0,heap_alloc_old w _ b hb⟩
  have uQ:∀(ii j:Nat) (t:T),dr (pU te.sz n (xs.map (Lf.ev ρ))) ii j=some t->ii<n∧j<te.sz∧∃v,bE[ii*te.sz+j]?=some v∧eB G2.q w t v∧(dp=true->∀ys,t=.l ys->t=.l []∧v=.slice none 0 0):=by
   intro ii j t ht
   obtain⟨rr,_,hm,F_,q1,q2⟩:=rO ht
   rw[hlen]at q1
   rw[zG _ _ _ zK rr hm]at q2
   rw[Ie _ _ _ _ _ zK q1 q2]at ht
   obtain⟨zc,v,c1,c2,c3,c4⟩:=b3 _ t ht
   refine⟨q1,q2,v,by simpa using c2,c3,λfA ys P7=>?_⟩
   subst fA
   cases hzn:eX zc with
   |true=>exact c4 rfl hzn
   |false=>
    have:=zH _ _ sT (ii*te.sz+j) t (by simp[c1,hzn]) ht
    subst P7
    simp[eh]at this
  refine .l (wd:=te.sz) (cv:=λii j=>bE.getD (ii*te.sz+j) undef) (by rw[hlen];simp[Gh.dO,Hn]) ⟨by rw[hlen];exact Nat.le_refl _,λhe=>by have:=congrArg List.length he;rw[hlen]at this;simpa using this⟩ (by simp[Gh.dO]) (heap_alloc_new w _) wS (zG _ _ _ zK) ?_ ?_ ?_ ?_ ?_
  ·intro ii j t ht
   obtain⟨q1,q2,v,q3,_⟩:=uQ ii j t ht
   simp[Array.getD_eq_getD_getElem?,q3]
  ·intro ii j v ht
   obtain⟨q1,q2,u,q3,q4,_⟩:=uQ ii j _ ht
   obtain⟨rfl,hs⟩:=q4.scalar
   exact⟨by simp[Array.getD_eq_getD_getElem?,q3],hs⟩
  ·intro ii j ys ht fA
   obtain⟨q1,q2,u,q3,q4,_⟩:=uQ ii j _ ht
   have:=q4.aU (by simp) oY
   simpa[Array.getD_eq_getD_getElem?,q3]using this
  ·intro ii j ys ht fA
   obtain⟨q1,q2,u,q3,q4,q5⟩:=uQ ii j _ ht
   obtain⟨_,rfl⟩:=q5 fA ys rfl
   simp[Array.getD_eq_getD_getElem?,q3,Gh.dO,Hn]
  ·intro ii j ys ht fA
   obtain⟨q1,q2,u,q3,q4,q5⟩:=uQ ii j _ ht
   obtain⟨e1,rfl⟩:=q5 fA ys rfl
   cases e1
   exact .nil (by simp[Gh.dO,Hn])
end
end Go.Proofs.YtjimmglpkndemaaGreatC

/- The walk by reflection: a part of its laws, for any function. Conditions: none. -/
import Derived.Test.YtbhplkilhknciaaKa
import Derived.Laws.Slices
import Derived.Deep.AppendSrc
namespace Go.Proofs.YtbhplkilhknciaaC
set_option linter.unusedVariables false
theorem BL{xs:List (List T)}{i off:Nat}{r ts:List T}(hr:xs[i]?=some r)(hf:off+ts.length<=r.length)(i' j':Nat):
  cI (setRow xs i off ts) i' j'=if i'=i∧off<=j'∧j'<off+ts.length then ts[j'-off]? else cI xs i' j':=by
 unfold cI setRow
 rw[List.getElem?_modify]
 by_cases hi:i=i'
 ·subst hi
  simp only[hr,if_true,Option.map_eq_map,Option.map_some,Option.bind_some,true_and]
  have hl:(r.take off).length=off:=by simp;omega
  by_cases h1:j'<off
  ·rw[if_neg (by omega),List.append_assoc,List.getElem?_append_left (by omega),List.getElem?_take,if_pos h1]
  ·rw[List.append_assoc,List.getElem?_append_right (by omega),hl]
   by_cases h2:j'<off+ts.length
   ·rw[if_pos ⟨by omega,h2⟩,List.getElem?_append_left (by omega)]
   ·rw[if_neg (by omega),List.getElem?_append_right (by omega),List.getElem?_drop]
    congr 1
    omega
 ·rw[if_neg (by omega:¬(i'=i∧_))]
  cases xs[i']? <;>simp[hi]
theorem w5{xs:List (List T)}{i off:Nat}{ts:List T}:(setRow xs i off ts).length=xs.length:=by simp[setRow]
theorem Hr{xs:List (List T)}{i off wd:Nat}{r ts:List T}(hw:∀r∈xs,r.length=wd)(hr:xs[i]?=some r)(hf:off+ts.length<=r.length):
  ∀r∈setRow xs i off ts,r.length=wd:=by
 intro r' gJ
 obtain⟨n,hn⟩:=List.getElem?_of_mem gJ
 unfold setRow at hn
 rw[List.getElem?_modify]at hn
 by_cases hi:i=n
 ·subst hi
  simp only[hr,if_true,Option.map_eq_map,Option.map_some,aJ]at hn
  have:=hw r (List.mem_of_getElem? hr)
  subst hn
  simp
  omega
 ·simp only[if_neg hi]at hn
  cases hx:xs[n]? with
  |none=>simp[hx]at hn
  |some r''=>simp[hx]at hn;subst hn;exact hw _ (List.mem_of_getElem? hx)
theorem dh.PT{G:Gh}{w w':World}{id:Nat}{p:List (Nat×Nat)}{t:T}{dp:Bool}(h:dh G w id dp p t)(eA:dp=true)
  (hh:∀c q,G.ω c=some (.o id (p++q))->w'.heap[c]?=w.heap[c]?):dh G w' id dp p t:=by
 induction h with
 |nil h=>exact .nil h
 | @l dp p xs b wd cap aX elem cv h1 h2 h3 h4 h5 h6 h7 h8 h9 kf pU ih=>
  refine .l h1 h2 h3 ((hh b [] (by simpa using h3)).trans h4) h5 h6 h7 h8 (λi j ys hy hd=>by rw[eA]at hd;cases hd) kf λi j ys hy hd=>?_
  exact ih i j ys hy hd rfl λc q hc=>hh c ((i,j)::q) (by simpa using hc)
theorem dh.put{G:Gh}{w w':World}{id:Nat}{dp:Bool}{p:List (Nat×Nat)}{xs:List (List T)}{b n cap:Nat}(h:dh G w id dp p (.l xs))
  (hH:G.H id p=.slice (some ⟨b,0,none⟩) n cap)(yl:qt (.o id p)=false){i off:Nat}{r ts:List T}{vs:List Value}(hr:xs[i]?=some r)(hf:off+ts.length<=r.length)(hl:vs.length=ts.length)
  {aX:Array Value}{elem:TypeId}(hb:w.heap[b]?=some (.cells aX elem (0,0)))
  (jU:w'.heap[b]?=some (.cells (aX.toList.take (i*r.length+off)++vs++aX.toList.drop (i*r.length+off+vs.length)).toArray elem (0,0)))
  (hs:w'.heap.size=w.heap.size)(hh:∀c,c≠b->w'.heap[c]?=w.heap[c]?)
  (hd:∀(j:Nat) (t:T) (v:Value),ts[j]?=some t->vs[j]?=some v->du G.q w' t v)(kh:dp=true->ts.all dr=true):dh G w' id dp p (.l (setRow xs i off ts)):=by
 cases h with
 |nil Ah=>rw[hH]at Ah;cases Ah
 | @l _ _ _ b2 wd ym PU Hs cv h1 h2 h3 h4 h5 h6 h7 h8 h9 kf pU=>
  rw[hH]at h1
  cases h1
  rw[hb]at h4
  cases h4
  have hrl:r.length=wd:=h6 r (List.mem_of_getElem? hr)
  rw[hrl]at jU
  have Ht:i<xs.length:=(List.getElem?_eq_some_iff.1 hr).1
  have jt:i*wd+off+vs.length<=aX.size:=by
   rw[h5]
   have:(i+1)*wd<=cap*wd:=Nat.mul_le_mul_right _ (by omega)
   rw[Nat.add_mul]at this
   omega
  have nC:∀c,c<w.heap.size->G.q c=none->G.q c=none∧w'.heap[c]?=w.heap[c]?:=λc _ hc=>⟨hc,hh c λe=>by subst e;exact z9 h3 yl hc⟩
  let oV:Nat->Nat->Value:=λi' j'=>if i'=i∧off<=j'∧j'<off+ts.length then vs.getD (j'-off) undef else cv i' j'
  have aR:=BL hr hf
  have nD:∀i' j',j'<wd->(aX.toList.take (i*wd+off)++vs++aX.toList.drop (i*wd+off+vs.length)).toArray[i'*wd+j']? =
    if i'=i∧off<=j'∧j'<off+ts.length then vs[j'-off]? else aX[i'*wd+j']?:=by
   intro i' j' oX
   rw[List.getElem?_toArray,<-Nu _ _ _ jt,Array.getElem?_toList,EY _ _ _ _ jt]
   have key:(i*wd+off<=i'*wd+j'∧i'*wd+j'<i*wd+off+vs.length)↔(i'=i∧off<=j'∧j'<off+ts.length):=by
    constructor
    ·rintro⟨g1,g2⟩
     have:i'=i:=by
      rcases Nat.lt_trichotomy i' i with bH|he|BM
      ·have:(i'+1)*wd<=i*wd:=Nat.mul_le_mul_right _ bH
       rw[Nat.add_mul]at this
       omega
      ·exact he
      ·have:(i+1)*wd<=i'*wd:=Nat.mul_le_mul_right _ BM
       rw[Nat.add_mul]at this
       omega
     subst this
     exact⟨rfl,by omega,by omega⟩
    ·rintro⟨rfl,g1,g2⟩
     exact⟨by omega,by omega⟩
   by_cases hc:i'=i∧off<=j'∧j'<off+ts.length
   ·rw[if_pos (key.2 hc),if_pos hc]
    congr 1
    obtain⟨rfl,_,_⟩:=hc
    omega
   ·rw[if_neg (λg=>hc (key.1 g)),if_neg hc]
  have PV:∀i' j' t,cI (setRow xs i off ts) i' j'=some t->(i'=i∧off<=j'∧j'<off+ts.length)->∃v,vs[j'-off]?=some v∧oV i' j'=v∧du G.q w' t v:=by
   intro i' j' t ht hc
   rw[aR,if_pos hc]at ht
   have bH:j'-off<vs.length:=by omega
   refine⟨vs[j'-off],List.getElem?_eq_getElem bH,?_,hd _ _ _ ht (List.getElem?_eq_getElem bH)⟩
   simp[oV,hc,List.getD,List.getElem?_eq_getElem bH]
  have out:∀i' j' t,cI (setRow xs i off ts) i' j'=some t->¬(i'=i∧off<=j'∧j'<off+ts.length)->cI xs i' j'=some t∧oV i' j'=cv i' j':=by
   intro i' j' t ht hc
   rw[aR,if_neg hc]at ht
   exact⟨ht,by simp only[oV,if_neg hc]⟩
  have sf:∀i' j' t,cI (setRow xs i off ts) i' j'=some t->(i'=i∧off<=j'∧j'<off+ts.length)->dp=true->dr t=true:=by
   intro i' j' t ht hc eA
   rw[aR,if_pos hc]at ht
   exact List.all_eq_true.1 (kh eA) t (List.mem_of_getElem? ht)
  refine .l (cv:=oV) (b:=b) (wd:=wd) (cap:=cap) (elem:=elem) (by rw[hH,w5]) (by rw[w5];exact⟨h2.1,λhe=>h2.2 (List.eq_nil_of_length_eq_zero (by rw[<-w5,he];rfl))⟩) h3 jU ?_ (Hr h6 hr hf) ?_ ?_ ?_ ?_ ?_
  ·rw[List.size_toArray,<-Nu _ _ _ jt,Array.length_toList,BF];exact h5
  ·intro i' j' t ht
   have oX:j'<wd:=by
    obtain⟨r',gJ,gX,_,_,bH⟩:=pC ht
    have:=Hr h6 hr hf r' gX
    omega
   rw[nD i' j' oX]
   by_cases hc:i'=i∧off<=j'∧j'<off+ts.length
   ·obtain⟨v,g1,g2,_⟩:=PV i' j' t ht hc
    rw[if_pos hc,g1,g2]
   ·obtain⟨g1,g2⟩:=out i' j' t ht hc
    rw[if_neg hc,g2]
    exact h7 i' j' t g1
  ·intro i' j' v ht
   by_cases hc:i'=i∧off<=j'∧j'<off+ts.length
   ·obtain⟨u,g1,g2,g3⟩:=PV i' j' _ ht hc
    obtain⟨e,hs⟩:=g3.scalar
    exact⟨g2.trans e,hs⟩
   ·obtain⟨g1,g2⟩:=out i' j' _ ht hc
    rw[g2];exact h8 i' j' v g1
  ·intro i' j' ys ht eA
   by_cases hc:i'=i∧off<=j'∧j'<off+ts.length
   ·obtain⟨u,g1,g2,g3⟩:=PV i' j' _ ht hc
    rw[g2];exact g3
   ·obtain⟨g1,g2⟩:=out i' j' _ ht hc
    rw[g2];exact(h9 i' j' ys g1 eA).aG (by omega) nC
  ·intro i' j' ys ht eA
   by_cases hc:i'=i∧off<=j'∧j'<off+ts.length
   ·have:=sf i' j' _ ht hc eA
    simp[dr]at this
   ·obtain⟨g1,g2⟩:=out i' j' _ ht hc
    rw[g2];exact kf i' j' ys g1 eA
  ·intro i' j' ys ht eA
   by_cases hc:i'=i∧off<=j'∧j'<off+ts.length
   ·have:=sf i' j' _ ht hc eA
    simp[dr]at this
   ·obtain⟨g1,g2⟩:=out i' j' _ ht hc
    refine(pU i' j' ys g1 eA).PT rfl λc q BN=>hh c λe=>?_
    subst e
    rw[h3]at BN
    simp at BN
def lB:List (Nat×Nat)->T->T->Option T
 | [],_,u=>some u
 |(i,j)::p,.l xs,u=>(cI xs i j).bind λs=>(lB p s u).bind λs'=>some (.l (setRow xs i j [s']))
 |_,_,_=>none
theorem PW:∀{p:List (Nat×Nat)} {t:T} {ys:List (List T)},fG p t=some (.l ys)->∃xs,t=.l xs
 | [],t,ys,h=>by simp[fG]at h;exact⟨ys,h⟩
 |(i,j)::p,.l xs,ys,h=>⟨xs,rfl⟩
 |(i,j)::p,.c v,ys,h=>by simp[fG]at h
theorem PX:∀{p:List (Nat×Nat)} {t t':T} {zs:List (List T)},lB p t (.l zs)=some t'->∃xs,t'=.l xs
 | [],t,t',zs,h=>by simp[lB]at h;exact⟨zs,h.symm⟩
 |(i,j)::p,.l xs,t',zs,h=>by
  simp only[lB,bQ,aJ]at h
  obtain⟨s,hs,s',yn,rfl⟩:=h
  exact⟨_,rfl⟩
 |(i,j)::p,.c v,t',zs,h=>by simp[lB]at h
theorem dh.lB{G:Gh}{w w':World}{id b:Nat}(hh:∀c,c≠b->w'.heap[c]?=w.heap[c]?):∀{p p0:List (Nat×Nat)} {t t':T} {ys zs:List (List T)},
  dh G w id true p0 t->fG p t=some (.l ys)->lB p t (.l zs)=some t'->G.ω b=some (.o id (p0++p))->dh G w' id true (p0++p) (.l zs)->dh G w' id true p0 t'
 | [],p0,t,t',ys,zs,h,hd,hb,eT,hs=>by
  simp only[Go.Proofs.YtbhplkilhknciaaC.lB,aJ]at hb
  subst hb
  simpa using hs
 |(i,j)::p,p0,t,t',ys,zs,h,hd,hb,eT,hs=>by
  cases h with
  |nil hH=>simp[fG,cI]at hd
  | @l _ _ xs b2 wd cap aX elem cv h1 h2 h3 h4 h5 h6 h7 h8 h9 kf pU=>
   simp only[fG,bQ]at hd
   obtain⟨s,jl,lZ⟩:=hd
   simp only[Go.Proofs.YtbhplkilhknciaaC.lB,jl,Option.bind_some,bQ,aJ]at hb
   obtain⟨s',yn,rfl⟩:=hb
   obtain⟨us,rfl⟩:=PW lZ
   obtain⟨PY,rfl⟩:=PX yn
   have ih:=dh.lB hh (p:=p) (p0:=p0++[(i,j)]) (pU i j us jl rfl) lZ yn (by simpa using eT) (by simpa using hs)
   obtain⟨r,hr,gX,Ai,_,hjl⟩:=pC jl
   have hf:j+[T.l PY].length<=r.length:=by simp;omega
   have cP:b2≠b:=by intro e;subst e;rw[h3]at eT;simp at eT
   have aR:∀i' j',cI (setRow xs i j [T.l PY]) i' j'=if i'=i∧j'=j then some (T.l PY)else cI xs i' j':=by
    intro i' j'
    rw[BL hr hf]
    by_cases hc:i'=i∧j'=j
    ·obtain⟨rfl,rfl⟩:=hc
     rw[if_pos ⟨rfl,Nat.le_refl _,by simp⟩,if_pos ⟨rfl,rfl⟩];simp
    ·rw[if_neg (by simp only[List.length_singleton];omega),if_neg hc]
   refine .l (cv:=cv) (by rw[w5];exact h1) (by rw[w5];exact⟨h2.1,λhe=>h2.2 (List.eq_nil_of_length_eq_zero (by rw[<-w5,he];rfl))⟩) h3 ((hh b2 cP).trans h4) h5 (Hr h6 hr hf) ?_ ?_ (λi' j' Nw ht rk=>by cases rk) ?_ ?_
   ·intro i' j' t ht
    rw[aR]at ht
    split at ht
    ·rename_i hc;obtain⟨rfl,rfl⟩:=hc;exact h7 _ _ _ jl
    ·exact h7 _ _ _ ht
   ·intro i' j' v ht
    rw[aR]at ht
    split at ht
    ·cases ht
    ·exact h8 _ _ _ ht
   ·intro i' j' Nw ht _
    rw[aR]at ht
    split at ht
    ·rename_i hc;obtain⟨rfl,rfl⟩:=hc;exact kf _ _ _ jl rfl
    ·exact kf _ _ _ ht rfl
   ·intro i' j' Nw ht _
    rw[aR]at ht
    split at ht
    ·rename_i hc;obtain⟨rfl,rfl⟩:=hc;cases ht;exact ih
    ·rename_i hc
     refine(pU i' j' Nw ht rfl).PT rfl λc q BN=>hh c λe=>?_
     subst e
     rw[eT]at BN
     simp at BN
     exact hc ⟨BN.1.1.symm,BN.1.2.symm⟩
section
variable {S:Nat->ay} {ρ:List T}
theorem Wk.oY:∀(q:lh) (k:Wk) (x y:Lf),k.dE (k.up x y q).1
 | [],k,x,y=>.refl k
 |(ix,w,j)::q,k,x,y=>by
  simp only[Wk.up]
  exact((Wk.aS k _ _).trans (Wk.oY q _ _ _)).trans (Wk.aS _ _ _)
theorem Wk.rp:∀(q:lh) (k:Wk) (x y:Lf),(k.up x y q).1.aP S ρ->k.aP S ρ
 | [],_,_,_,h=>h
 |(ix,w,j)::q,k,x,y,h=>by
  simp only[Wk.up]at h
  exact(Wk.be (Wk.rp q _ _ _ (Wk.be h).1)).1
theorem PZ{x ix z:Lf}{w j i:Nat}{xs:List (List T)}{t u:T}(hx:x.ej ρ=some (.l xs))(hi:jT ρ ix=some i)(hz:z.ej ρ=some u)
  (h:Prim.ev (.sR w j) [x.ev ρ,ix.ev ρ,z.ev ρ]=some t):t=.l (setRow xs i j [u]):=by
 obtain⟨k,hk⟩:=EU hi
 rw[Lf.aZ hx,hk,Lf.aZ hz]at h
 simp only[Prim.ev,GX,T.rows,T.int,Option.bind_some,Int.toNat_natCast]at h
 cases hr:xs[i]? with
 |none=>simp[hr]at h
 |some r=>
  simp only[hr,Option.bind_some]at h
  split at h
  ·split at h
   ·simp only[aJ]at h;exact h.symm
   ·cases h
  ·cases h
theorem Wk.sj:∀(q:lh) (k:Wk) (x y:Lf) {t:T} {zs:List (List T)} {p:List (Nat×Nat)},(k.up x y q).1.aP S ρ->x.ej ρ=some t->y.ej ρ=some (.l zs)->eK ρ q=some p->
  (q=[]∨∃xs,t=.l xs)->∃t',lB p t (.l zs)=some t'∧(k.up x y q).2.ej ρ=some t'
 | [],k,x,y,t,zs,p,h,hx,hy,hp,_=>by
  simp only[eK]at hp
  cases hp
  exact⟨.l zs,rfl,hy⟩
 |(ix,w,j)::q,k,x,y,t,zs,p,h,hx,hy,hp,ht=>by
  simp only[Wk.up]at h⊢
  obtain⟨xs,rfl⟩:=ht.resolve_left (by simp)
  simp only[eK]at hp
  cases hi:jT ρ ix with
  |none=>simp[hi]at hp
  |some i=>
   cases hq:eK ρ q with
   |none=>simp[hi,hq]at hp
   |some p'=>
    simp[hi,hq]at hp
    subst hp
    obtain⟨h2,t',hY,lA⟩:=Wk.be h
    obtain⟨_,u,hu,O6⟩:=Wk.be (Wk.rp q _ _ _ h2)
    obtain⟨ys,rfl,aR,_⟩:=yc hx hi hu
    obtain⟨v,hv,pB⟩:=Wk.sj q _ _ _ h2 O6 hy hq (.inr ⟨ys,rfl⟩)
    have:=PZ hx hi pB hY
    subst this
    exact⟨_,by simp[lB,aR,hv],lA⟩
end
section
variable {M:Nat->Prop} {B:dt} {d:Nat} {up:Nat->Nat->Value} {ρ:List T} {G:Gh} {a:Act} {w:World} {S:Nat->ay} {P:Program}
variable {cx:Cx} {bW dR oi:Nat} {s:St} {R:List aM} {ct:Ct} {k':Wk} {o:Oper} {Q:Exit->Act->World->Prop}
theorem Nx{t:Nat}{ti:TI}(hT:pV P t ti){b off:Nat}{v:Value}(hl:v.cells.size=ti.sz){aX:Array Value}{elem:TypeId}
  (hb:w.heap[b]?=some (.cells aX elem (0,0)))(hf:off+v.cells.size<=aX.size)(h1:∀u∈v.cells.toList,u.oneCell'=true):
  (Instr.storeAt t (.pointer (some ⟨b,off,none⟩)) v).run P w=.ok () (w.setRow b (aX.toList.take off++v.cells.toList++aX.toList.drop (off+v.cells.toList.length)).toArray):=by
 obtain⟨i,z,hi,hs,_,_,_⟩:=hT.info
 have cU:=run_storeCells_at (P:=P) b off elem v.cells.toList 0 aX w hb (by simpa using hf) h1
 simp only[Nat.add_zero]at cU
 simp[Instr.storeAt,Instr.sureAddr,storeVar,sizeOf,typeInfo,hi,hs,hl]
 simpa[hl]using cU
theorem BO(w:World)(b:Nat)(cs:Array Value):gA w (w.setRow b cs):=⟨rfl,rfl,rfl⟩
theorem Aj(w:World)(b:Nat)(cs:Array Value):(w.setRow b cs).heap.size=w.heap.size:=by simp[World.setRow]
theorem Hu{b:Nat}{l:Lb}(hl:G.ω b=some l)(yl:qt l=false)(cs:Array Value){I:Lb->Prop}(hI:I l){N:Nat->Prop}:cB I N G w G (w.setRow b cs):=by
 refine⟨by rw[Aj];exact Nat.le_refl _,λc _ hc=>⟨hc,setRow_other _ _ _ _ λe=>?_⟩,λc _ hc=>hc,λc l' hc hn=>⟨hc,setRow_other _ _ _ _ λe=>?_⟩,λ_ _=>⟨rfl,λ_ _=>rfl⟩⟩
 ·subst e;exact z9 hl yl hc
 ·subst e;rw[hl]at hc;cases hc;exact hn hI
theorem Ny{t:Nat}{x y:Operand}(ho:o.op=.store t x y){w':World}(h:(Instr.storeAt t (a.eval x) (a.eval y)).run P w=.ok () w'):
  (execOp a.eval o).run P w=.ok .skip w':=by
 unfold execOp
 rw[ho]
 show Sem.run P (do Instr.storeAt t (a.eval x) (a.eval y);pure Next.skip) w=_
 rw[Sem.run_bind,h];rfl
theorem P0(cN:cW P cx)(h:Rel M B d up s ρ G a w)(hn:∀n,o.dst=some n->n<a.tmps.size){t:Nat}{x y:Operand}(ho:o.op=.store t x y)
  {bx off:Nat}(hx:bz d (Wk.get ⟨s.only R,[],ct,[]⟩) x=.pt bx off)
  (hk:∃k1,storeAt cx ⟨s.only R,[],ct,[]⟩ t (bz d (Wk.get ⟨s.only R,[],ct,[]⟩) x) (bz d (Wk.get ⟨s.only R,[],ct,[]⟩) y)=some k1∧bm d o k1 .un=k'):a_ P M B d up ρ a w s o k'.w Q∧k'.ct.i=ct.i:=by
 have hw:=cC.start h R ct
 obtain⟨k1,cU,hk⟩:=hk
 have dN:bm d o k1 .un=k':=hk
 subst dN
 simp only[storeAt,hx,bQ]at cU
 obtain⟨ti,ed,cs,iR,cU⟩:=cU
 cases hl:Nat.beq cs.length ti.sz with
 |false=>simp[hl]at cU
 |true=>
  simp only[hl,cond_true]at cU
  have hlen:=cK hl
  obtain⟨hr,hm⟩:=hw.fH y
  obtain⟨sb,_⟩:=hw.fH x
  rw[hx]at sb
  unfold cellsOf at iR
  split at iR
  ·rename_i ag es0 dl
   cases iR
   rw[dl]at hr hm
   have pG:=Hk hr
   split at cU
   ·rename_i Nz uW hold
    cases hle:Nat.ble (off+cs.length) uW.length with
    |false=>simp[hle]at cU
    |true=>
     simp only[hle,cond_true,aJ]at cU
     subst cU
     have jt:=Nat.le_of_ble_eq_true hle
     have qI:=hw.rel.bx bx
     rw[<-Wk.aE,hold]at qI
     obtain⟨eT,aX,elem,hb,Ak⟩:=qI
     have lR:=pG.length
     have oZ:=Ak.length
     simp only[Array.length_toList]at lR oZ
     have c_:=Nx (w:=w) (cN.ty _ _ ed) (v:=a.eval y) (by rw[<-lR];exact hlen) hb (off:=off) (by omega) (λu hu=>pG.one u hu)
     have vq:=Ak.eI off pG
     have yk:=Hi uW cs off
     have hmo:∀i∈cJ uW,M i:=λi hi=>hw.rel.eD (.x bx) i (by rw[<-Wk.aE,hold];exact hi)
     have hmM:∀i∈cJ (eI uW off cs),M i:=λi hi=>(yk i hi).elim (hmo i) (hm i)
     refine⟨?_,by rw[ll];rfl⟩
     have hK:cB (lY (dF d o .un++[(.x bx,.v Nz (eI uW off cs))])) (λ_=>False) G w G
       (w.setRow (G.β bx) (aX.toList.take off++(a.eval y).cells.toList++aX.toList.drop (off+(a.eval y).cells.toList.length)).toArray):=by
      refine Hu eT rfl _ ?_
      show St.look _ (aM.x bx)≠none
      rw[iS,pY];simp
     simp only[a_,Oper.wp,Ny ho (by rw[show a.eval x=_ from sb];exact c_),Oper.upon]
     refine⟨G,Af h hw (W2:=dF d o .un++[(.x bx,.v Nz (eI uW off cs))]) (BJ (W2:=[(.x bx,.v Nz (eI uW off cs))]) λr=>by exact pH r)
      hK (λi hi=>hi.elim) (λi hi=>hi) (λn mN=>Ag mN) (BO _ _ _) ?_,ul _ _ _⟩
     refine⟨λe n u he hl=>?_,λb u hl=>?_,λi u hl=>?_,λr u hl i hi=>?_,λi hi=>?_,λb l hb=>?_⟩
     ·rcases hZ hl with⟨n',eu,e1,rfl⟩|hl
      ·trivial
      ·rcases gh hl with⟨e1,_⟩|hl
       ·cases e1
       ·cases hl
     ·rcases hZ hl with⟨n',eu,e1,rfl⟩|hl
      ·cases e1
      ·rcases gh hl with⟨e1,rfl⟩|hl
       ·cases e1
        refine⟨eT,_,elem,setRow_heap w _ aX _ elem _ hb,?_⟩
        exact vq.aG hK λi _ hf=>hf
       ·cases hl
     ·rcases hZ hl with⟨n',eu,e1,rfl⟩|hl
      ·cases e1
      ·rcases gh hl with⟨e1,rfl⟩|hl
       ·cases e1
       ·cases hl
     ·rcases hZ hl with⟨n',eu,e1,rfl⟩|hl
      ·simp[cp]at hi
      ·rcases gh hl with⟨e1,rfl⟩|hl
       ·exact hmM i hi
       ·cases hl
     ·have:∀r:aM,(r=.x i∨r=.o i)->St.look (dF d o .un++[(aM.x bx,SV.v Nz (eI uW off cs))]) r≠none->i=bx:=by
       intro r hr hl
       obtain⟨u,hu⟩:=Option.ne_none_iff_exists'.1 hl
       rcases hZ hu with⟨n',eu,e1,rfl⟩|hl
       ·rcases hr with rfl|rfl<;>cases e1
       ·rcases gh hl with⟨e1,rfl⟩|hl
        ·rcases hr with rfl|rfl
         ·cases e1;rfl
         ·cases e1
        ·cases hl
      have hMb:M bx:=hw.rel.key bx (.inl (by rw[<-Wk.aE,hold];simp))
      rcases hi with hi|hi
      ·rw[this _ (.inl rfl) hi];exact hMb
      ·rw[this _ (.inr rfl) hi];exact hMb
     ·rw[Aj];exact h.fg b l hb
   ·cases cU
  ·cases iR
def dm(ω:Nat->Option Lb)(w:World):List T->List Value->Prop
 | [],[]=>True
 |t::ts,v::vs=>du ω w t v∧dm ω w ts vs
 |_,_=>False
theorem dm.length{ω:Nat->Option Lb}:∀{ts:List T} {vs:List Value},dm ω w ts vs->ts.length=vs.length
 | [],[],_=>rfl
 | [],_::_,h=>h.elim
 |_::_,[],h=>h.elim
 |_::ts,_::vs,h=>by simp[dm.length h.2]
theorem dm.get{ω:Nat->Option Lb}:∀{ts:List T} {vs:List Value},dm ω w ts vs->∀(j:Nat) (t:T) (v:Value),ts[j]?=some t->vs[j]?=some v->du ω w t v
 | [],[],_,j,t,v,h,_=>by simp at h
 | [],_::_,h,_,_,_,_,_=>h.elim
 |_::_,[],h,_,_,_,_,_=>h.elim
 |t::ts,v::vs,h,0,_,_,h1,h2=>by simp at h1 h2;subst h1 h2;exact h.1
 |t::ts,v::vs,h,j+1,_,_,h1,h2=>dm.get h.2 j _ _ (by simpa using h1) (by simpa using h2)
theorem dm.dr{ω ra:Nat->Option Lb}{w':World}:∀{ts:List T} {vs:List Value},dm ω w ts vs->ts.all dr=true->dm ra w' ts vs
 | [],[],_,_=>trivial
 | [],_::_,h,_=>h.elim
 |_::_,[],h,_=>h.elim
 |t::ts,v::vs,h,hs=>by
  simp only[List.all_cons,bB]at hs
  refine⟨?_,dm.dr h.2 hs.2⟩
  obtain⟨u,rfl⟩:=BA hs.1
  obtain⟨rfl,hu⟩:=h.1.scalar
  exact .c hu
theorem dm.aG{ω ra:Nat->Option Lb}{w':World}(hs:w.heap.size<=w'.heap.size)(hf:∀b,b<w.heap.size->ω b=none->ra b=none∧w'.heap[b]?=w.heap[b]?):
  ∀{ts:List T} {vs:List Value},dm ω w ts vs->dm ra w' ts vs
 | [],[],_=>trivial
 | [],_::_,h=>h.elim
 |_::_,[],h=>h.elim
 |t::ts,v::vs,h=>⟨h.1.aG hs hf,dm.aG hs hf h.2⟩
def vr(k:Wk)(cs:List Ce):Prop:=∀id∈cJ cs,∃pv x,k.get (.o id)=.fz pv x
theorem Wk.oz{k k1:Wk}{c:Ce}{x:Lf}{G1:Gh}{v:Value}(h:k.val c=some (k1,x))(hr:eF G1 w ρ c v)(hk:cC M B d up ρ G a w k G1)(hf:vr k [c]):
  ∃t,x.ej ρ=some t∧du G1.q w t v:=by
 cases c with
 |p y=>simp[Wk.val]at h;obtain⟨_,rfl⟩:=h;exact hr
 |n=>simp[Wk.val]at h;obtain⟨_,rfl⟩:=h;cases hr;exact⟨_,rfl,.nil⟩
 |d=>simp[Wk.val]at h
 |o id q=>
  obtain⟨pv,y,hy⟩:=hf id (by simp[cJ])
  have cS:=hk.obj id
  obtain⟨p,hp,rfl⟩:=hr
  simp only[Wk.val,hy]at h
  rw[hy]at cS
  split at h
  ·simp at h
   obtain⟨_,rfl⟩:=h
   simp only[ke]at hp
   cases hp
   exact⟨_,cS.choose_spec.1,cS.choose_spec.2.1⟩
  ·cases h
theorem Wk.fj:∀{cs:List Ce} {k k1:Wk} {xs:List Lf},k.gv cs=some (k1,xs)->k.dE k1
 | [],k,k1,xs,h=>by simp[Wk.gv]at h;obtain⟨rfl,_⟩:=h;exact .refl _
 |c::cs,k,k1,xs,h=>by
  simp only[Wk.gv,bQ,aJ,Prod.mk.injEq]at h
  obtain⟨⟨k2,x⟩,h1,⟨k3,ys⟩,h2,rfl,rfl⟩:=h
  exact(Wk.cR h1).trans (Wk.fj h2)
theorem Wk.ju:∀{cs:List Ce} {k k1:Wk} {xs:List Lf},k.gv cs=some (k1,xs)->k1.aP S ρ->k.aP S ρ
 | [],k,k1,xs,h,hd=>by simp[Wk.gv]at h;obtain⟨rfl,_⟩:=h;exact hd
 |c::cs,k,k1,xs,h,hd=>by
  simp only[Wk.gv,bQ,aJ,Prod.mk.injEq]at h
  obtain⟨⟨k2,x⟩,h1,⟨k3,ys⟩,h2,rfl,rfl⟩:=h
  exact Wk.jV h1 (Wk.ju h2 hd)
theorem Wk.fk:∀{cs:List Ce} {k k1:Wk} {xs:List Lf} {G1:Gh} {vs:List Value},k.gv cs=some (k1,xs)->k1.aP S ρ->aF G1 w ρ cs vs->cC M B d up ρ G a w k G1->
  ∃ts,xs.map (Lf.ev ρ)=ts∧dm (er G1.ω) w ts vs∧(vr k cs->dm G1.q w ts vs)∧xs.length=vs.length
 | [],k,k1,xs,G1,vs,h,hd,hr,hk=>by
  simp[Wk.gv]at h
  obtain⟨_,rfl⟩:=h
  cases vs with
  |nil=>exact⟨[],rfl,trivial,λ_=>trivial,rfl⟩
  |cons _ _=>exact hr.elim
 |c::cs,k,k1,xs,G1,[],h,hd,hr,hk=>hr.elim
 |c::cs,k,k1,xs,G1,v::vs,h,hd,hr,hk=>by
  simp only[Wk.gv,bQ,aJ,Prod.mk.injEq]at h
  obtain⟨⟨k2,x⟩,h1,⟨k3,ys⟩,h2,rfl,rfl⟩:=h
  have hs:=Wk.cR h1
  obtain⟨ts,e1,e2,e3,e4⟩:=Wk.fk h2 hd hr.2 (hk.same hs)
  obtain⟨t,ht,kg⟩:=Wk.jp h1 (Wk.ju h2 hd) hr.1 λid _=>hk.obj id
  refine⟨t::ts,by simp[e1,Lf.aZ ht],⟨kg,e2⟩,λhf=>⟨?_,e3 λid j3=>?_⟩,by simp[e4]⟩
  ·obtain⟨t',hY,ko⟩:=Wk.oz h1 hr.1 hk λid j3=>hf id (by rw[s7];exact List.mem_append_left _ j3)
   rw[ht]at hY
   cases hY
   exact ko
  ·rw[hs.get]
   exact hf id (by rw[s7];exact List.mem_append_right _ j3)
theorem cC.dg:∀{cs:List Ce} {k k1:Wk} {G1:Gh},cC M B d up ρ G a w k G1->k.dg cs=some k1->
  ∃G2,cC M B d up ρ G a w k1 G2∧G2.β=G1.β∧G2.H=G1.H∧k1.ct=k.ct∧k1.is=k.is∧vr k1 cs∧(∀id pv x,k.get (.o id)=.fz pv x->k1.get (.o id)=.fz pv x)∧
   (∀id dp x,k1.get (.o id)=.ob dp x->k.get (.o id)=.ob dp x)
 | [],k,k1,G1,h,hk=>by
  simp[Wk.dg]at hk
  subst hk
  exact⟨G1,h,rfl,rfl,rfl,rfl,(λ_ h=>by cases h),(λ_ _ _ h=>h),λ_ _ _ h=>h⟩
 |c::cs,k,k1,G1,h,hk=>by
  cases c with
  |o id q=>
   simp only[Wk.dg,bQ]at hk
   obtain⟨k2,h1,h2⟩:=hk
   obtain⟨G2,g1,g2,g3,g4,g5,g6⟩:=h.jY h1
   obtain⟨G3,f1,f2,f3,f4,f5,f6,f7,f8⟩:=cC.dg g1 h2
   have vt:∃pv x,k2.get (.o id)=.fz pv x:=by
    unfold Wk.jY at h1
    split at h1
    ·rename_i dp x hx;cases h1;exact⟨.z,x,by simp[Wk.get,Wk.set,St.aK]⟩
    ·rename_i pv x hx;cases h1;exact⟨pv,x,hx⟩
    ·cases h1
   have rq:∀i,i≠id->k2.get (.o i)=k.get (.o i):=by
    intro i hi
    unfold Wk.jY at h1
    split at h1
    ·cases h1;simp only[Wk.get,Wk.set];rw[St.bJ _ _ (by simpa using Ne.symm hi)]
    ·cases h1;rfl
    ·cases h1
   have Hv:∀pv x,k.get (.o id)=.fz pv x->k2.get (.o id)=.fz pv x:=by
    intro pv x hx
    unfold Wk.jY at h1
    rw[hx]at h1
    cases h1
    exact hx
   refine⟨G3,f1,f2.trans g2,f3.trans g3,f4.trans g5,f5.trans g6,?_,?_,?_⟩
   ·intro i hi
    rw[s7]at hi
    rcases List.mem_append.1 hi with hi|hi
    ·simp[cJ]at hi
     subst hi
     obtain⟨pv,x,hx⟩:=vt
     exact⟨pv,x,f7 _ _ _ hx⟩
    ·exact f6 i hi
   ·intro i pv x hx
    refine f7 i pv x ?_
    by_cases hi:i=id
    ·subst hi;exact Hv pv x hx
    ·rw[rq i hi];exact hx
   ·intro i dp x hx
    have:=f8 i dp x hx
    by_cases hi:i=id
    ·subst hi;obtain⟨pv,y,hy⟩:=vt;rw[hy]at this;cases this
    ·rwa[rq i hi]at this
  |p x=>
   obtain⟨G2,g1,g2,g3,g4,g5,g6,g7⟩:=cC.dg h (show k.dg cs=some k1 from hk)
   exact⟨G2,g1,g2,g3,g4,g5,by intro i hi;rw[s7]at hi;exact g6 i (by simpa[cJ]using hi),g7⟩
  |n=>
   obtain⟨G2,g1,g2,g3,g4,g5,g6,g7⟩:=cC.dg h (show k.dg cs=some k1 from hk)
   exact⟨G2,g1,g2,g3,g4,g5,by intro i hi;rw[s7]at hi;exact g6 i (by simpa[cJ]using hi),g7⟩
  |d=>
   obtain⟨G2,g1,g2,g3,g4,g5,g6,g7⟩:=cC.dg h (show k.dg cs=some k1 from hk)
   exact⟨G2,g1,g2,g3,g4,g5,by intro i hi;rw[s7]at hi;exact g6 i (by simpa[cJ]using hi),g7⟩
theorem Hw{k:Wk}{G1:Gh}(h:Rel M B d up s ρ G a w)(hk:cC M B d up ρ G a w k G1)(hn:∀n,o.dst=some n->n<a.tmps.size){id b:Nat}{p:List (Nat×Nat)}{dp:Bool}{y:Lf}
  {t':T}{cells:Array Value}(eT:G1.ω b=some (.o id p))(yl:p=[]∨id%2=1)(o4:id%4≠2)(hy:y.ej ρ=some t')(aT:dh G1 (w.setRow b cells) id dp [] t')
  (hx:(execOp a.eval o).run P w=.ok .skip (w.setRow b cells)):a_ P M B d up ρ a w s o (bm d o (k.set (.o id) (.ob dp y)) .un).w Q:=by
 have hM:M id:=(hk.rel.fg b _ eT).1
 have hK:cB (lY (dF d o .un++[(.o id,.ob dp y)])) (λ_=>False) G1 w G1 (w.setRow b cells):=by
  refine Hu eT (xV (ρ:=ρ) yl o4) _ ?_
  show St.look _ (aM.o id)≠none
  rw[iS,pY];simp
 simp only[a_,Oper.wp,hx,Oper.upon]
 refine⟨G1,Af h hk (W2:=dF d o .un++[(.o id,.ob dp y)]) (BJ (W2:=[(.o id,.ob dp y)]) λr=>by exact pH r)
  hK (λi hi=>hi.elim) (λi hi=>hi) (λn mN=>Ag mN) (BO _ _ _) ?_,ul _ _ _⟩
 refine⟨λe n u he hl=>?_,λb u hl=>?_,λi u hl=>?_,λr u hl i hi=>?_,λi hi=>?_,λb l hb=>?_⟩
 ·rcases hZ hl with⟨n',eu,e1,rfl⟩|hl
  ·trivial
  ·rcases gh hl with⟨e1,_⟩|hl
   ·cases e1
   ·cases hl
 ·rcases hZ hl with⟨n',eu,e1,rfl⟩|hl
  ·cases e1
  ·rcases gh hl with⟨e1,rfl⟩|hl
   ·cases e1
   ·cases hl
 ·rcases hZ hl with⟨n',eu,e1,rfl⟩|hl
  ·cases e1
  ·rcases gh hl with⟨e1,rfl⟩|hl
   ·cases e1
    exact⟨t',hy,aT⟩
   ·cases hl
 ·rcases hZ hl with⟨n',eu,e1,rfl⟩|hl
  ·simp[cp]at hi
  ·rcases gh hl with⟨e1,rfl⟩|hl
   ·simp[cp]at hi
   ·cases hl
 ·have:∀r:aM,(r=.x i∨r=.o i)->St.look (dF d o .un++[(aM.o id,SV.ob dp y)]) r≠none->i=id:=by
   intro r hr hl
   obtain⟨u,hu⟩:=Option.ne_none_iff_exists'.1 hl
   rcases hZ hu with⟨n',eu,e1,rfl⟩|hl
   ·rcases hr with rfl|rfl<;>cases e1
   ·rcases gh hl with⟨e1,rfl⟩|hl
    ·rcases hr with rfl|rfl
     ·cases e1
     ·cases e1;rfl
    ·cases hl
  rcases hi with hi|hi
  ·rw[this _ (.inl rfl) hi];exact hM
  ·rw[this _ (.inr rfl) hi];exact hM
 ·rw[Aj];exact hk.rel.fg b l hb
theorem Hx{x ix:Lf}{sc:Bool}{wd off n i:Nat}{xs:List (List T)}{ts:List T}{t:T}(hx:x.ej ρ=some (.l xs))(hi:jT ρ ix=some i)
  (h:Prim.ev (.put sc wd off n) (x.ev ρ::ix.ev ρ::ts)=some t):∃r,xs[i]?=some r∧r.length=wd∧off+ts.length<=r.length∧(sc=true->ts.all dr=true)∧t=.l (setRow xs i off ts):=by
 obtain⟨k,hk⟩:=EU hi
 rw[Lf.aZ hx,hk]at h
 simp only[Prim.ev,GX,T.rows,T.int,Option.bind_some,Int.toNat_natCast]at h
 cases hr:xs[i]? with
 |none=>simp[hr]at h
 |some r=>
  simp only[hr,Option.bind_some]at h
  split at h
  ·rename_i g1
   split at h
   ·rename_i g2
    split at h
    ·rename_i g3
     split at h
     ·rename_i g4
      simp only[aJ]at h
      refine⟨r,rfl,g1,by omega,λhs=>?_,h.symm⟩
      subst hs
      simpa using g4
     ·cases h
    ·cases h
   ·cases h
  ·cases h
theorem Wk.bg(k:Wk)(r:aM)(v:SV):(k.set r v).get r=v:=by
 simp[Wk.get,Wk.set,St.aK]
theorem P1(cN:cW P cx)(h:Rel M B d up s ρ G a w)(hn:∀n,o.dst=some n->n<a.tmps.size){t:Nat}{x y:Operand}(ho:o.op=.store t x y)
  {id:Nat}{q:lh}{ix:Lf}{wd off:Nat}(hx:bz d (Wk.get ⟨s.only R,[],ct,[]⟩) x=.ep id q ix wd off)
  (hk:∃k1,storeAt cx ⟨s.only R,[],ct,[]⟩ t (bz d (Wk.get ⟨s.only R,[],ct,[]⟩) x) (bz d (Wk.get ⟨s.only R,[],ct,[]⟩) y)=some k1∧bm d o k1 .un=k')(hd:k'.aP S ρ):a_ P M B d up ρ a w s o k'.w Q∧k'.ct.i=ct.i:=by
 have hw:=cC.start h R ct
 obtain⟨k1,cU,hk⟩:=hk
 have dN:bm d o k1 .un=k':=hk
 subst dN
 have eo:=b_.1 hd
 simp only[storeAt,hx,bQ]at cU
 obtain⟨ti,ed,cs,iR,cU⟩:=cU
 cases hl:Nat.beq cs.length ti.sz with
 |false=>simp[hl]at cU
 |true=>
  simp only[hl,cond_true]at cU
  have hlen:=cK hl
  obtain⟨hr,hm⟩:=hw.fH y
  obtain⟨sb,_⟩:=hw.fH x
  rw[hx]at sb
  obtain⟨p,b,n,cap,i,hp,hH,hi,n9,lA⟩:=sb
  unfold cellsOf at iR
  split at iR
  ·rename_i ag es0 dl
   cases iR
   rw[dl]at hr hm
   have pG:=Hk hr
   have lR:=pG.length
   cases o4:Nat.beq (id%4) 2 with
   |true=>simp[o4]at cU
   |false=>
   have o4:id%4≠2:=λe=>by rw[e]at o4;cases o4
   simp only[show Nat.beq (id%4) 2=false from(by cases hb:Nat.beq (id%4) 2 with|false=>rfl|true=>exact absurd (cK hb) o4),cond_false]at cU
   cases hN:ti.zero.any dS with
   |true=>
    simp only[hN,cond_true]at cU
    split at cU
    ·simp only[ke,aJ]at hp
     subst hp
     simp only[bQ]at cU
     obtain⟨k2,tg,k3,n_,⟨k4,xs⟩,mW,cU⟩:=cU
     obtain⟨G2,w2,e1,e2,e3,e4,e5⟩:=hw.flat tg
     obtain⟨G3,w3,f1,f2,f4,f5,f6,f7,f8⟩:=w2.dg n_
     have yo:=Wk.fj mW
     have w4:=w3.same yo
     simp only at cU
     split at cU
     ·rename_i dp0 z hz
      simp only[aJ]at cU
      subst cU
      have cS:=w4.obj id
      rw[hz]at cS
      obtain⟨tt,uo,aT⟩:=cS
      have oq:(k4.em (.put false wd off xs.length) (z::ix::xs)).1.aP S ρ:=eo
      obtain⟨Ad,t',j4,w6⟩:=Wk.be oq
      have Hy:G3.H id []=.slice (some ⟨b,0,none⟩) n cap:=by rw[f2,e2];exact hH
      have P2:aF G3 w ρ cs (a.eval y).cells.toList:=by
       have k3:cB (lY k3.w) (λ_=>False) G w G3 w:=w3.aG
       exact pG.aG k3 λ_ _ hf=>hf
      obtain⟨ts,g1,_,g3,g4⟩:=Wk.fk mW Ad P2 w3
      simp only[List.map_cons]at j4
      rw[g1]at j4
      obtain⟨rows,rfl⟩:∃ys,tt=.l ys:=by cases aT<;>exact⟨_,rfl⟩
      obtain⟨r,mL,pE,w7,_,rfl⟩:=Hx uo hi j4
      have EZ:=g3 λj hj=>f6 j hj
      have vu:=EZ.length
      have eA:dp0=false:=by
       have h3:k3.get (.o id)=.ob dp0 z:=by rw[<-yo.get];exact hz
       have h2:=f8 _ _ _ h3
       unfold Wk.flat at tg
       split at tg
       ·cases tg;rw[Wk.bg]at h2;cases h2;rfl
       ·rename_i z2 oP;cases tg;rw[oP]at h2;cases h2
       ·cases tg
      subst eA
      have pZ:∃aX elem,G3.ω b=some (.o id [])∧w.heap[b]?=some (.cells aX elem (0,0))∧(i*wd+off)+(a.eval y).cells.size<=aX.size:=by
       cases aT with
       |nil Ah=>rw[Hy]at Ah;cases Ah
       | @l _ _ _ b2 w8 ym aX elem cv h1 h2 h3 h4 h5 h6 _ _ _ _ _=>
        rw[Hy]at h1
        cases h1
        refine⟨aX,elem,h3,h4,?_⟩
        have lm:w8=wd:=by rw[<-pE];exact(h6 r (List.mem_of_getElem? mL)).symm
        subst lm
        rw[h5]
        have:(i+1)*w8<=cap*w8:=Nat.mul_le_mul_right _ (by omega)
        rw[Nat.add_mul]at this
        simp only[Array.length_toList]at vu
        omega
      obtain⟨aX,elem,eT,hb,jt⟩:=pZ
      have c_:=Nx (P:=P) (w:=w) (cN.ty _ _ ed) (v:=a.eval y) (by simp only[Array.length_toList]at lR;rw[<-lR];exact hlen) hb (off:=i*wd+off) jt (λu hu=>pG.one u hu)
      have nB:=aT.put (w':=w.setRow b (aX.toList.take (i*wd+off)++(a.eval y).cells.toList++aX.toList.drop (i*wd+off+(a.eval y).cells.toList.length)).toArray)
       Hy (xW o4) mL w7 vu.symm hb (by rw[pE];exact setRow_heap w _ aX _ elem _ hb) (Aj _ _ _) (λc hc=>setRow_other _ _ _ _ hc)
       (dm.get (EZ.aG (by rw[Aj];exact Nat.le_refl _) λc _ hc=>⟨hc,setRow_other _ _ _ _ λe=>by subst e;exact z9 eT (xW o4) hc⟩)) (λhf=>by cases hf)
      refine⟨Hw h (w4.same (Wk.aS _ _ _)) hn (eT:=eT) (yl:=.inl rfl) (o4:=o4) (hy:=w6) (aT:=nB) (Ny ho (by rw[lA];exact c_)),?_⟩
      rw[ll]
      show k4.ct.i=ct.i
      rw[yo.i,f4,e4]
     ·cases cU
    ·cases cU
   |false=>
    simp only[hN,cond_false,bQ]at cU
    obtain⟨⟨k4,xs⟩,mW,cU⟩:=cU
    have yo:=Wk.fj mW
    have w4:=hw.same yo
    simp only at cU
    split at cU
    ·rename_i dp z hz
     cases NA:(dp||q.isEmpty)with
     |false=>simp[NA]at cU
     |true=>
      simp only[NA,cond_true,aJ]at cU
      subst cU
      have cS:=w4.obj id
      rw[hz]at cS
      obtain⟨tt,uo,aT⟩:=cS
      obtain⟨rows,rfl⟩:∃ys,tt=.l ys:=by cases aT<;>exact⟨_,rfl⟩
      have hdu:(Wk.up ((k4.down z q).1.em (.put true wd off xs.length) ((k4.down z q).2::ix::xs)).1 z ((k4.down z q).1.em (.put true wd off xs.length) ((k4.down z q).2::ix::xs)).2 q).1.aP S ρ:=eo
      have P3:=Wk.rp _ _ _ _ hdu
      obtain⟨mN,t',j4,w6⟩:=Wk.be P3
      obtain⟨u,hu,P4,Bs⟩:=Wk.fh q k4 z mN uo (xX hp) (.inr ⟨_,rfl⟩)
      obtain⟨ys,rfl⟩:∃ys,u=.l ys:=by
       rcases Bs with rfl|h'
       ·simp only[ke]at hp;cases hp;simp[fG]at hu;exact⟨rows,hu.symm⟩
       ·exact h'
      obtain⟨ts,g1,g2,_,g4⟩:=Wk.fk mW (Wk.jo q _ _ mN) pG hw
      simp only[List.map_cons]at j4
      rw[g1]at j4
      obtain⟨r,mL,pE,w7,kh,rfl⟩:=Hx P4 hi j4
      obtain⟨t2,Hg,hy2⟩:=Wk.sj q _ z _ hdu uo w6 (xX hp) (.inr ⟨_,rfl⟩)
      have EZ:dm G.q (w.setRow b #[]) ts (a.eval y).cells.toList:=g2.dr (kh rfl)
      have vu:=g2.length
      have jr:dh G w id dp p (.l ys):=by
       cases dp with
       |true=>simpa using dh.jj p aT hu ⟨ys,rfl⟩
       |false=>
        have hq:q=[]:=by simpa using NA
        subst hq
        simp only[ke]at hp
        cases hp
        simp[fG]at hu
        subst hu
        exact aT
      have pZ:∃aX elem,G.ω b=some (.o id p)∧w.heap[b]?=some (.cells aX elem (0,0))∧(i*wd+off)+(a.eval y).cells.size<=aX.size:=by
       cases jr with
       |nil Ah=>rw[hH]at Ah;cases Ah
       | @l _ _ _ b2 w8 ym aX elem cv h1 h2 h3 h4 h5 h6 _ _ _ _ _=>
        rw[hH]at h1
        cases h1
        refine⟨aX,elem,h3,h4,?_⟩
        have lm:w8=wd:=by rw[<-pE];exact(h6 r (List.mem_of_getElem? mL)).symm
        subst lm
        rw[h5]
        have:(i+1)*w8<=cap*w8:=Nat.mul_le_mul_right _ (by omega)
        rw[Nat.add_mul]at this
        simp only[Array.length_toList]at vu
        omega
      obtain⟨aX,elem,eT,hb,jt⟩:=pZ
      have c_:=Nx (P:=P) (w:=w) (cN.ty _ _ ed) (v:=a.eval y) (by simp only[Array.length_toList]at lR;rw[<-lR];exact hlen) hb (off:=i*wd+off) jt (λu hu=>pG.one u hu)
      have nB:=jr.put (w':=w.setRow b (aX.toList.take (i*wd+off)++(a.eval y).cells.toList++aX.toList.drop (i*wd+off+(a.eval y).cells.toList.length)).toArray)
       hH (xV (ρ:=ρ) (xY hp) o4) mL w7 vu.symm hb (by rw[pE];exact setRow_heap w _ aX _ elem _ hb) (Aj _ _ _) (λc hc=>setRow_other _ _ _ _ hc)
       (dm.get (g2.dr (kh rfl))) (λ_=>kh rfl)
      have Hz:dh G (w.setRow b (aX.toList.take (i*wd+off)++(a.eval y).cells.toList++aX.toList.drop (i*wd+off+(a.eval y).cells.toList.length)).toArray) id dp [] t2:=by
       cases dp with
       |true=>exact dh.lB (λc hc=>setRow_other _ _ _ _ hc) aT hu Hg (by simpa using eT) (by simpa using nB)
       |false=>
        have hq:q=[]:=by simpa using NA
        subst hq
        simp only[ke]at hp
        cases hp
        simp only[lB,aJ]at Hg
        subst Hg
        exact nB
      refine⟨Hw h (((w4.same (Wk.dD q _ _)).same (Wk.aS _ _ _)).same (Wk.oY q _ _ _)) hn (eT:=eT) (yl:=xY hp) (o4:=o4) (hy:=hy2) (aT:=Hz) (Ny ho (by rw[lA];exact c_)),?_⟩
      rw[ll]
      show(Wk.up _ z _ q).1.ct.i=ct.i
      rw[(Wk.oY q _ _ _).i,(Wk.aS _ _ _).i,(Wk.dD q _ _).i,yo.i]
    ·cases cU
  ·cases iR
theorem P5(cN:cW P cx)(h:Rel M B d up s ρ G a w)(hn:∀n,o.dst=some n->n<a.tmps.size){t:Nat}{x y:Operand}(ho:o.op=.store t x y)
  (hk:∃k1,storeAt cx ⟨s.only R,[],ct,[]⟩ t (bz d (Wk.get ⟨s.only R,[],ct,[]⟩) x) (bz d (Wk.get ⟨s.only R,[],ct,[]⟩) y)=some k1∧bm d o k1 .un=k')(hd:k'.aP S ρ):a_ P M B d up ρ a w s o k'.w Q∧k'.ct.i=ct.i:=by
 cases hx:bz d (Wk.get ⟨s.only R,[],ct,[]⟩) x with
 |pt bx off=>exact P0 cN h hn ho hx hk
 |ep id q ix wd off=>exact P1 cN h hn ho hx hk hd
 |_=>
  exfalso
  obtain⟨k1,hk,_⟩:=hk
  simp only[storeAt,hx,bQ]at hk
  obtain⟨ti,_,cs,_,h1⟩:=hk
  cases hb:Nat.beq cs.length ti.sz<;>simp[hb]at h1
theorem BP{xs:List (List T)}{l h:Nat}{i j:Nat}{t:T}(ht:cI ((xs.take h).drop l) i j=some t):cI xs (l+i) j=some t:=by
 unfold cI at ht⊢
 rw[List.getElem?_drop,List.getElem?_take]at ht
 split at ht
 ·exact ht
 ·simp at ht
theorem du.sub{ω:Nat->Option Lb}{xs:List (List T)}{ao:Option Addr}{n cap l h sz:Nat}(hd:du ω w (.l xs) (.slice ao n cap))(ru:l<=h)(hh:h<=xs.length)(dL:okW sz xs=true):
  du ω w (.l ((xs.take h).drop l)) (sliced ao l h cap sz):=by
 unfold sliced
 by_cases he:l=h
 ·subst he
  have:(xs.take l).drop l=[]:=by simp
  rw[this,Nat.sub_self]
  exact .nil
 ·cases hd with
  |nil=>simp at hh;omega
  | @l _ b off wd _ cv hw hc hb bH h1 h2=>
   have cP:¬(cap=l):=by omega
   have hlen:((xs.take h).drop l).length=h-l:=by simp;omega
   have eY:sz=wd:=by
    cases xs with
    |nil=>simp at hh;omega
    |cons r xs=>rw[<-hw r (by simp)];exact(cK dL).symm
   subst eY
   rw[if_neg cP]
   simp only[Option.map_some,Addr.add_lit]
   rw[<-hlen]
   refine .l (cv:=λi j=>cv (l+i) j) (λr hr=>hw r (List.mem_of_mem_take (List.mem_of_mem_drop hr))) (by rw[hlen];omega) hb bH (λi j t ht=>?_) λi j t ht=>h2 _ _ _ (BP ht)
   have:=h1 _ _ _ (BP ht)
   rw[Nat.add_mul]at this
   rw[show off+l*sz+(i*sz+j)=off+(l*sz+i*sz+j) by omega]
   exact this
def mY(k:Wk)(f:Operand->SV):Option Operand->Option (Wk×List Lf)
 |none=>some (k,[])
 |some l=>(k.one (f l)).bind λr=>some (r.1,[r.2])
theorem NB{k k1:Wk}{G1:Gh}(hk:cC M B d up ρ G a w k G1){lo:Option Operand}{ls:List Lf}{f:Operand->SV}(hf:∀x,lo=some x->bY G1 w ρ (f x) (a.eval x))
  (h:mY k f lo=some (k1,ls))(hd:k1.aP S ρ):
  k.aP S ρ∧k.dE k1∧((lo=none∧ls=[])∨∃x y t,lo=some x∧ls=[y]∧y.ev ρ=t∧du (er G1.ω) w t (a.eval x)):=by
 cases lo with
 |none=>
  simp only[mY,aJ,Prod.mk.injEq]at h
  obtain⟨rfl,rfl⟩:=h
  exact⟨hd,.refl _,.inl ⟨rfl,rfl⟩⟩
 |some x=>
  simp only[mY,bQ,aJ,Prod.mk.injEq]at h
  obtain⟨⟨k2,y⟩,h1,rfl,rfl⟩:=h
  obtain⟨e1,e2,t,e3,e4⟩:=Wk.eM hk h1 hd (hf x rfl)
  exact⟨e1,e2,.inr ⟨x,y,t,rfl,rfl,Lf.aZ e3,e4⟩⟩
theorem vw{ω:Nat->Option Lb}{k:IntKind}{n:Int}{v:Value}(h:du ω w (.c (.int k n)) v):v=.int k n:=h.scalar.1
theorem BQ{ω:Nat->Option Lb}{lo hi:Option Operand}{ls hs:List Lf}{n:Nat}{r:T}{F:Int->Int->Option T}
  (l7:(lo=none∧ls=[])∨∃x y t,lo=some x∧ls=[y]∧y.ev ρ=t∧du ω w t (a.eval x))(rv:(hi=none∧hs=[])∨∃x y t,hi=some x∧hs=[y]∧y.ev ρ=t∧du ω w t (a.eval x))
  (h:((match lo.isSome,hi.isSome,(ls++hs).map (Lf.ev ρ)with
   |false,false,[]=>some ((0:Int),(n:Int))
   |true,false,[.c (.int _ l)]=>some (l,(n:Int))
   |false,true,[.c (.int _ h)]=>some (0,h)
   |true,true,[.c (.int _ l),.c (.int _ h)]=>some (l,h)
   |_,_,_=>none).bind λb=>F b.1 b.2)=some r):
  ∃l h:Int,F l h=some r∧((lo.map a.eval=none∧l=0)∨∃k,lo.map a.eval=some (.int k l))∧((hi.map a.eval=none∧h=n)∨∃k,hi.map a.eval=some (.int k h)):=by
 rcases l7 with⟨rfl,rfl⟩|⟨x,y,t,rfl,rfl,ht,kg⟩
 ·rcases rv with⟨rfl,rfl⟩|⟨x',y',t',rfl,rfl,hY,ko⟩
  ·simp at h
   exact⟨0,n,h,.inl ⟨rfl,rfl⟩,.inl ⟨rfl,rfl⟩⟩
  ·simp only[Option.isSome_none,Option.isSome_some,List.nil_append,List.map_cons,List.map_nil,hY]at h
   cases t' with
   |l _=>simp at h
   |c v=>cases v with
    |int k m=>
     simp at h
     have:=vw ko
     exact⟨0,m,h,.inl ⟨rfl,rfl⟩,.inr ⟨k,by simp[this]⟩⟩
    |_=>simp at h
 ·cases t with
  |l _=>rcases rv with⟨rfl,rfl⟩|⟨x',y',t',rfl,rfl,hY,ko⟩<;>simp[ht]at h
  |c v=>cases v with
   |int k m=>
    have e1:=vw kg
    rcases rv with⟨rfl,rfl⟩|⟨x',y',t',rfl,rfl,hY,ko⟩
    ·simp[ht]at h
     exact⟨m,n,h,.inr ⟨k,by simp[e1]⟩,.inl ⟨rfl,rfl⟩⟩
    ·simp only[Option.isSome_some,List.cons_append,List.nil_append,List.map_cons,List.map_nil,ht,hY]at h
     cases t' with
     |l _=>simp at h
     |c v'=>cases v' with
      |int k' m'=>
       simp at h
       have e2:=vw ko
       exact⟨m,m',h,.inr ⟨k,by simp[e1]⟩,.inr ⟨k',by simp[e2]⟩⟩
      |_=>simp at h
   |_=>rcases rv with⟨rfl,rfl⟩|⟨x',y',t',rfl,rfl,hY,ko⟩<;>simp[ht]at h
theorem HA{t e:Nat}(ht:P.underlying t=some (.slice e)){sz:Nat}(vo:∃i,P.info? e=some i∧i.size=sz){ao:Option Addr}{n cap:Nat}(hc:n<=cap){lo hi:Option Value}{l h:Int}
  (l7:(lo=none∧l=0)∨∃k,lo=some (.int k l))(rv:(hi=none∧h=n)∨∃k,hi=some (.int k h))(h0:0<=l)(ru:l<=h)(hh:h<=n):
  (Instr.sliceAt t (.slice ao n cap) lo hi none).run P w=.ok (sliced ao l.toNat h.toNat cap sz) w:=by
 have E0:P.elem t=e:=by simp[Program.elem,ht]
 have hY:P.underlying t=some (.slice (P.elem t)):=by rw[E0];exact ht
 obtain⟨i,qJ,l8⟩:=vo
 have hs:(sizeOf (P.elem t)).run P w=.ok sz w:=by rw[E0];simp[sizeOf,typeInfo,qJ,l8]
 rw[run_sliceAt_slice w t _ _ _ _ hY]
 have j5:h<=cap:=by omega
 rcases l7 with⟨rfl,rfl⟩|⟨k,rfl⟩
 ·rcases rv with⟨rfl,rfl⟩|⟨k',rfl⟩
  ·rw[run_slice_all w t ao n cap hY,hs];simp
  ·rw[run_slice_h w t ao n cap hY k' h ru j5,hs];simp
 ·rcases rv with⟨rfl,rfl⟩|⟨k',rfl⟩
  ·rw[run_slice_l w t ao n cap hY k l h0 ru,hs];simp
  ·rw[run_slice_lh w t ao n cap hY k k' l h h0 ru j5,hs];simp
theorem HB{sz:Nat}{b1 b2:Bool}{t r:T}{ts:List T}(h:Prim.ev (.sub sz b1 b2) (t::ts)=some r):∃xs,t=.l xs∧okW sz xs=true∧
  ((match b1,b2,ts with
   |false,false,[]=>some ((0:Int),(xs.length:Int))
   |true,false,[.c (.int _ l)]=>some (l,(xs.length:Int))
   |false,true,[.c (.int _ h)]=>some (0,h)
   |true,true,[.c (.int _ l),.c (.int _ h)]=>some (l,h)
   |_,_,_=>none).bind λb=>if 0<=b.1 then(if b.1<=b.2 then(if b.2<=xs.length then some (T.l ((xs.take b.2.toNat).drop b.1.toNat))else none)else none)else none)=some r:=by
 cases t with
 |c v=>simp[Prim.ev]at h
 |l xs=>
  simp only[Prim.ev]at h
  split at h
  ·rename_i dL
   exact⟨xs,rfl,dL,h⟩
  ·cases h
theorem P6{b1 b2:Bool}{t r:T}{ts:List T}(h:Prim.ev (.uR b1 b2) (t::ts)=some r):∃x:ByteArray,t=.c (.string x)∧
  ((match b1,b2,ts with
   |false,false,[]=>some ((0:Int),(x.size:Int))
   |true,false,[.c (.int _ l)]=>some (l,(x.size:Int))
   |false,true,[.c (.int _ h)]=>some (0,h)
   |true,true,[.c (.int _ l),.c (.int _ h)]=>some (l,h)
   |_,_,_=>none).bind λb=>if 0<=b.1 then(if b.1<=b.2 then(if b.2<=x.size then some (T.c (.string (x.extract b.1.toNat b.2.toNat)))else none)else none)else none)=some r:=by
 cases t with
 |l xs=>simp[Prim.ev]at h
 |c v=>
  cases v with
  |string x=>exact⟨x,rfl,h⟩
  |_=>simp[Prim.ev]at h
theorem P7{t:Nat}(ht:P.underlying t=some .string){x:ByteArray}{lo hi:Option Value}{l h:Int}
  (l7:(lo=none∧l=0)∨∃k,lo=some (.int k l))(rv:(hi=none∧h=x.size)∨∃k,hi=some (.int k h))(h0:0<=l)(ru:l<=h)(hh:h<=x.size):
  (Instr.sliceAt t (.string x) lo hi none).run P w=.ok (.string (x.extract l.toNat h.toNat)) w:=by
 rw[run_sliceAt_string w t _ _ _ _ ht]
 have e1:(h.toNat:Int)=h:=Int.toNat_of_nonneg (by omega)
 rcases l7 with⟨rfl,rfl⟩|⟨k,rfl⟩
 ·rcases rv with⟨rfl,rfl⟩|⟨k',rfl⟩
  ·rw[run_slice_string_all w t x ht];simp
  ·rw[run_slice_string_h w t x ht k' h ru hh];simp
 ·rcases rv with⟨rfl,rfl⟩|⟨k',rfl⟩
  ·rw[run_slice_string_l w t x ht k l h0 ru];simp
  ·simp[Instr.slice,run_underlying ht,Instr.sliceBounds,run_sliceBound,e1,h0,ru,hh,(by omega:0<=h)]
theorem P8(cN:cW P cx)(h:Rel M B d up s ρ G a w)(hn:∀n,o.dst=some n->n<a.tmps.size){t:Nat}{x:Operand}{lo hi mx:Option Operand}(ho:o.op=.slice t x lo hi mx)
  (P9:(bif mx.isSome then none else uZ cx ⟨s.only R,[],ct,[]⟩ t (bz d (Wk.get ⟨s.only R,[],ct,[]⟩) x) (lo.map (bz d (Wk.get ⟨s.only R,[],ct,[]⟩))) (hi.map (bz d (Wk.get ⟨s.only R,[],ct,[]⟩))))=none)
  (hk:gb cx bW dR d o oi ⟨s.only R,[],ct,[]⟩=some k')(hd:k'.aP S ρ):a_ P M B d up ρ a w s o k'.w Q∧k'.ct.i=ct.i:=by
 have hw:=cC.start h R ct
 simp only[gb,ho]at hk
 split at hk
 ·rename_i k v he
  exact absurd (he.symm.trans P9) (by simp)
 simp only[bQ]at hk
 obtain⟨ti,ed,k1,n_,⟨k2,z⟩,l9,hk⟩:=hk
 obtain⟨G2,w1,e1,e2,e3,e4,e5,_⟩:=hw.dg n_
 have hK:cB (lY k1.w) (λ_=>False) G w G2 w:=w1.aG
 have fH:∀y,bY G2 w ρ (bz d (Wk.get ⟨s.only R,[],ct,[]⟩) y) (a.eval y):=λy=>(hw.fH y).1.aG hK λ_ _ hf=>hf
 have lZ:k1.dE k2:=by
  unfold Wk.one at l9
  split at l9
  ·exact Wk.cR l9
  ·cases l9
 have w2:=w1.same lZ
 simp only at hk
 cases mx with
 |some _=>simp at hk
 |none=>
  simp only at hk
  have oU:∃k3 ls,mY k2 (bz d (Wk.get ⟨s.only R,[],ct,[]⟩)) lo=some (k3,ls)∧
    ∃k4 hs,mY k3 (bz d (Wk.get ⟨s.only R,[],ct,[]⟩)) hi=some (k4,hs)∧
    ((Nat.beq ti.kd 3=true∧∃te,cx.ty ti.el=some te∧k'=bm d o (k4.em (.sub te.sz lo.isSome hi.isSome) (z::(ls++hs))).1 (.v false [.p (k4.em (.sub te.sz lo.isSome hi.isSome) (z::(ls++hs))).2]))∨
     (Nat.beq ti.kd 2=true∧k'=bm d o (k4.em (.uR lo.isSome hi.isSome) (z::(ls++hs))).1 (.v false [.p (k4.em (.uR lo.isSome hi.isSome) (z::(ls++hs))).2]))):=by
   rw[bQ]at hk
   obtain⟨⟨k3,ls⟩,h1,hk⟩:=hk
   rw[bQ]at hk
   obtain⟨⟨k4,hs⟩,h2,hk⟩:=hk
   refine⟨k3,ls,?_,k4,hs,?_,?_⟩
   ·cases lo<;>exact h1
   ·cases hi<;>exact h2
   ·simp only at hk
    cases h3:Nat.beq ti.kd 3 with
    |true=>
     simp only[h3,cond_true,bQ,aJ]at hk
     obtain⟨te,mM,hk⟩:=hk
     exact .inl ⟨rfl,te,mM,hk.symm⟩
    |false=>
     simp only[h3,cond_false]at hk
     cases h4:Nat.beq ti.kd 2 with
     |true=>
      simp only[h4,cond_true,aJ]at hk
      exact .inr ⟨rfl,hk.symm⟩
     |false=>simp[h4]at hk
  obtain⟨k3,ls,l7,k4,hs,rv,kq⟩:=oU
  have fin:∀(p:Prim),k'=bm d o (k4.em p (z::(ls++hs))).1 (.v false [.p (k4.em p (z::(ls++hs))).2])->
    ∃r tz,p.ev (tz::(ls++hs).map (Lf.ev ρ))=some r∧(∀c,(bz d (Wk.get ⟨s.only R,[],ct,[]⟩) x)=.v false [c]->du G2.q w tz (a.eval x))∧
     (∃c,(bz d (Wk.get ⟨s.only R,[],ct,[]⟩) x)=.v false [c])∧
     ((lo=none∧ls=[])∨∃x y t,lo=some x∧ls=[y]∧y.ev ρ=t∧du (er G2.ω) w t (a.eval x))∧((hi=none∧hs=[])∨∃x y t,hi=some x∧hs=[y]∧y.ev ρ=t∧du (er G2.ω) w t (a.eval x))∧
     (∀v,(execOp a.eval o).run P w=.ok (.value v) w->du G2.q w r v->(∀x,v≠.agg x)->a_ P M B d up ρ a w s o k'.w Q∧k'.ct.i=ct.i):=by
   intro p hp
   subst hp
   have rk:=b_.1 hd
   obtain⟨Ad,r,hr,jk⟩:=Wk.be rk
   have P_:k2.dE k3:=by
    unfold mY at l7
    split at l7
    ·simp only[aJ,Prod.mk.injEq]at l7;obtain⟨rfl,_⟩:=l7;exact .refl _
    ·simp only[bQ,aJ,Prod.mk.injEq]at l7
     obtain⟨⟨k5,y5⟩,h5,rfl,_⟩:=l7
     unfold Wk.one at h5
     split at h5
     ·exact Wk.cR h5
     ·cases h5
   obtain⟨uq,yo,mU⟩:=NB (w2.same P_) (f:=bz d (Wk.get ⟨s.only R,[],ct,[]⟩)) (λy _=>fH y) rv Ad
   obtain⟨oq,_,lC⟩:=NB w2 (f:=bz d (Wk.get ⟨s.only R,[],ct,[]⟩)) (λy _=>fH y) l7 uq
   have s8:∃c,(bz d (Wk.get ⟨s.only R,[],ct,[]⟩) x)=.v false [c]:=by
    unfold Wk.one at l9
    split at l9
    ·rename_i c dl;exact⟨c,dl⟩
    ·cases l9
   obtain⟨c,hc⟩:=s8
   have HC:=fH x
   rw[hc]at HC l9 n_
   obtain⟨_,mK,m_,_⟩:=HC
   cases mK
   have fB:k1.val c=some (k2,z):=l9
   obtain⟨E1,w1',_,_,_,_,pI,_⟩:=hw.dg n_
   obtain⟨tz,hz,HD⟩:=Wk.oz fB m_ w1 (by simpa[xr]using pI)
   refine⟨r,tz,by simpa[Lf.aZ hz]using hr,λ_ _=>HD,⟨c,hc⟩,lC,mU,λv hv hdv ye=>⟨?_,?_⟩⟩
   ·exact oO h (((w2.same P_).same yo).same (Wk.aS _ _ _)) hn hv (G0 jk hdv ye) (λi hi=>by simp[cp,cJ]at hi) Q
   ·rw[ll,(Wk.aS _ _ _).i,yo.i,P_.i,lZ.i,e3]
  have c_:∀v,(Instr.sliceAt t (a.eval x) (lo.map a.eval) (hi.map a.eval) none).run P w=.ok v w->(execOp a.eval o).run P w=.ok (.value v) w:=by
   intro v hv
   exact wY (x:=Instr.sliceAt t (a.eval x) (lo.map a.eval) (hi.map a.eval) none) (by unfold execOp;rw[ho];rfl) hv
  rcases kq with⟨h3,te,mM,hk⟩|⟨h3,hk⟩
  ·obtain⟨r,tz,hr,HD,⟨c,hc⟩,lC,mU,kq⟩:=fin _ hk
   obtain⟨xs,rfl,dL,hr⟩:=HB hr
   obtain⟨l,hh,hF,lR,oZ⟩:=BQ (F:=λl h=>if 0<=l then(if l<=h then(if h<=xs.length then some (T.l ((xs.take h.toNat).drop l.toNat))else none)else none)else none) lC mU hr
   split at hF
   ·rename_i h0
    split at hF
    ·rename_i ru
     split at hF
     ·rename_i HE
      simp only[aJ]at hF
      subst hF
      have vx:=HD c hc
      obtain⟨ao,cap,fB,j5⟩:=vx.rows
      have hT:=cN.ty _ _ ed
      have hE:=cN.ty _ _ mM
      obtain⟨i,zz,qJ,l8,_⟩:=hE.info
      by_cases o5:xs.length<=cap
      ·have mO:=HA (P:=P) (w:=w) (hT.sl (cK h3)) ⟨i,qJ,l8⟩ (ao:=ao) o5 lR oZ h0 ru HE
       rw[<-fB]at mO
       refine kq _ (c_ _ mO) ?_ (λ_ hf=>by unfold sliced at hf;cases hf)
       rw[fB]at vx
       exact vx.sub (by omega) (by omega) dL
      ·have tl:xs=[]:=by
        cases xs with
        |nil=>rfl
        |cons y ys=>exact absurd (j5 (by simp)) o5
       subst tl
       simp at o5
     ·cases hF
    ·cases hF
   ·cases hF
  ·obtain⟨r,tz,hr,HD,⟨c,hc⟩,lC,mU,kq⟩:=fin _ hk
   obtain⟨x',rfl,hr⟩:=P6 hr
   obtain⟨l,hh,hF,lR,oZ⟩:=BQ (F:=λl h=>if 0<=l then(if l<=h then(if h<=x'.size then some (T.c (.string (x'.extract l.toNat h.toNat)))else none)else none)else none) lC mU hr
   split at hF
   ·rename_i h0
    split at hF
    ·rename_i ru
     split at hF
     ·rename_i HE
      simp only[aJ]at hF
      subst hF
      obtain⟨fB,_⟩:=(HD c hc).scalar
      have hT:=cN.ty _ _ ed
      have mO:=P7 (P:=P) (w:=w) (hT.st (cK h3)) (x:=x') lR oZ h0 ru HE
      rw[<-fB]at mO
      exact kq _ (c_ _ mO) (.c rfl) (λ_ hf=>by cases hf)
     ·cases hF
    ·cases hF
   ·cases hF
end
def Gh.cg(G:Gh)(nb:Option Nat)(i:Nat)(f:Lb->Option Lb)(Hn:List (Nat×Nat)->Value)(kt:∀p,∃a n c,Hn p=.slice a n c):Gh where
 ω:=λb=>if nb=some b then some (.o i [])else(G.ω b).bind f
 β:=G.β
 H:=λj=>if j=i then Hn else G.H j
 hs:=λj p=>by
  by_cases h:j=i
  ·simp only[h,if_true];exact kt p
  ·simp only[h,if_false];exact G.hs j p
section
variable {M:Nat->Prop} {B:dt} {d:Nat} {up:Nat->Nat->Value} {ρ:List T} {G:Gh} {a:Act} {w:World} {S:Nat->ay} {P:Program}
variable {cx:Cx} {bW dR oi:Nat} {s:St} {R:List aM} {ct:Ct} {k':Wk} {o:Oper} {Q:Exit->Act->World->Prop}
variable {nb:Option Nat} {i:Nat} {f:Lb->Option Lb} {Hn:List (Nat×Nat)->Value} {kt:∀p,∃a n c,Hn p=.slice a n c} {w':World}
theorem yp(HF:∀l l',qt l=true->f l=some l'->qt l'=true){b:Nat}(cP:nb≠some b)(h0:G.q b=none):(G.cg nb i f Hn kt).q b=none:=by
 refine z_ h0 (λh1=>by simp[Gh.cg,cP,h1]) λl hl hq=>?_
 cases tg:f l with
 |none=>exact .inl (by simp[Gh.cg,cP,hl,tg])
 |some l'=>exact .inr ⟨l',by simp[Gh.cg,cP,hl,tg],HF l l' hq tg⟩
theorem P'{I:Lb->Prop}(hf:∀l,¬I l->f l=some l)(HF:∀l l',qt l=true->f l=some l'->qt l'=true)(oA:∀c,nb=some c->w.heap.size<=c∨∃l,G.ω c=some l∧I l∧qt l=false)(hs:w.heap.size<=w'.heap.size)
  (hh:∀b,b<w.heap.size->nb≠some b->w'.heap[b]?=w.heap[b]?)(gK:∀b l,G.ω b=some l->b<w.heap.size):cB I (λj=>j=i) G w (G.cg nb i f Hn kt) w':=by
 refine⟨hs,λb hb h0=>?_,λb hb h0=>?_,λb l hb hl=>?_,λj hj=>?_⟩
 ·have cP:nb≠some b:=by
   intro e
   rcases oA _ e with h|⟨l,h,_,hq⟩
   ·omega
   ·exact z9 h hq h0
  refine⟨yp HF cP h0,hh b hb cP⟩
 ·have cP:nb≠some b:=by
   intro e
   rcases oA _ e with h|⟨l,h,_⟩
   ·omega
   ·rw[h0]at h;cases h
  simp[Gh.cg,cP,h0]
 ·have bH:=gK b l hb
  have cP:nb≠some b:=by
   intro e
   rcases oA _ e with h|⟨l',h,h',_⟩
   ·omega
   ·rw[hb]at h;cases h;exact hl h'
  exact⟨by simp[Gh.cg,cP,hb,hf l hl],hh b bH cP⟩
 ·exact⟨rfl,λ_ _=>by simp[Gh.cg,hj]⟩
theorem Qd{x:Sem Value}{v:Value}(he:execOp a.eval o=(do let v <-x;pure (Next.value v)))(h:x.run P w=.ok v w'):(execOp a.eval o).run P w=.ok (.value v) w':=by
 rw[he,Sem.run_bind,h];rfl
theorem a_.mono{M':Nat->Prop}{W:St}(h:a_ P M B d up ρ a w s o W Q)(hM:∀i,M i->M' i):a_ P M' B d up ρ a w s o W Q:=
 Oper.wp_mono (λa' w' ⟨G',h1,h2⟩=>⟨G',h1.mono hM,h2⟩) h
theorem yq{k:Wk}{G1:Gh}(h:Rel M B d up s ρ G a w)(hk:cC M B d up ρ G a w k G1)(hn:∀n,o.dst=some n->n<a.tmps.size)(hM:¬M k.ct.i)
  {W1:St}{kw:Wk}{dp:Bool}{y:Lf}{t:T}{v:Value}
  (HG:∀r,kw.w.look r=(St.look ((.o k.ct.i,.ob dp y)::W1) r).or (k.w.look r))(sk:∀r u,W1.look r=some u->∃j,r=.o j∧bZ (G1.cg nb k.ct.i f Hn kt) w' ρ j u∧M j∧∀i∈cp u,M i)
  (hf:∀l,(∀j p,l=.o j p->W1.look (.o j)=none)->f l=some l)(j3:∀l l',(∃b,G1.ω b=some l)->f l=some l'->M l'.id∨l'.id=k.ct.i)
  (HF:∀l l',qt l=true->f l=some l'->qt l'=true)(oA:∀c,nb=some c->c=w.heap.size∨∃j,G1.ω c=some (.o j [])∧W1.look (.o j)≠none∧j%4≠2)(hs:w.heap.size<=w'.heap.size)(Qf:∀c,nb=some c->c<w'.heap.size)
  (hh:∀b,b<w.heap.size->nb≠some b->w'.heap[b]?=w.heap[b]?)(so:gA w w')(hv:v=Hn [])
  (hy:y.ej ρ=some t)(aT:dh (G1.cg nb k.ct.i f Hn kt) w' k.ct.i dp [] t)(hx:(execOp a.eval o).run P w=.ok (.value v) w'):
  a_ P (Mn M k.ct.i (k.ct.i+1)) B d up ρ a w s o (bm d o kw (.v false [.o k.ct.i []])).w Q:=by
 have iZ:Mn M k.ct.i (k.ct.i+1) k.ct.i:=.inr ⟨Nat.le_refl _,Nat.lt_succ_self _⟩
 have BR:∀j u,W1.look (.o j)=some u->St.look (dF d o (.v false [.o k.ct.i []])++((aM.o k.ct.i,SV.ob dp y)::W1)) (.o j)≠none:=by
  intro j u hu
  rw[iS]
  intro e
  have:=(Option.or_eq_none_iff.1 e).2
  simp only[St.look,hu]at this
  cases hb:(aM.o k.ct.i).beq (.o j)<;>simp[hb]at this
 have hK:cB (lY (dF d o (.v false [.o k.ct.i []])++((aM.o k.ct.i,SV.ob dp y)::W1))) (λj=>j=k.ct.i) G1 w (G1.cg nb k.ct.i f Hn kt) w':=by
  refine P' (λl hl=>hf l λj p hj=>?_) HF ?_ hs hh λb l hb=>(hk.rel.fg b l hb).2
  ·subst hj
   cases hw:W1.look (.o j)with
   |none=>rfl
   |some u=>exact absurd (BR j u hw) hl
  ·intro c hc
   rcases oA c hc with rfl|⟨j,h1,h2,h3⟩
   ·exact .inl (Nat.le_refl _)
   ·obtain⟨u,hu⟩:=Option.ne_none_iff_exists'.1 h2
    exact .inr ⟨_,h1,BR j u hu,xW h3⟩
 simp only[a_,Oper.wp,hx,Oper.upon]
 refine⟨G1.cg nb k.ct.i f Hn kt,Af h hk (W2:=dF d o (.v false [.o k.ct.i []])++((aM.o k.ct.i,SV.ob dp y)::W1)) (BJ (W2:=(aM.o k.ct.i,SV.ob dp y)::W1) HG)
  hK (λj hj=>by subst hj;exact hM) (λj hj=>.inl hj) (λn mN=>Ag mN) so ?_,ul _ _ _⟩
 refine⟨λe n u he hl=>?_,λb u hl=>?_,λj u hl=>?_,λr u hl j hj=>?_,λj hj=>?_,λb l hb=>?_⟩
 ·rcases hZ hl with⟨n',eu,e1,rfl⟩|hl
  ·cases e1
   rw[eu,ET (hn _ eu),hv]
   refine⟨_,rfl,⟨[],rfl,by simp[Gh.cg]⟩,λx hx=>?_⟩
   obtain⟨a1,a2,a3,e1⟩:=kt []
   rw[e1]at hx;cases hx
  ·rcases gh hl with⟨e1,_⟩|hl
   ·cases e1
   ·obtain⟨j,e1,_⟩:=sk _ _ hl;cases e1
 ·rcases hZ hl with⟨n',eu,e1,rfl⟩|hl
  ·cases e1
  ·rcases gh hl with⟨e1,rfl⟩|hl
   ·cases e1
   ·obtain⟨j,e1,_⟩:=sk _ _ hl;cases e1
 ·rcases hZ hl with⟨n',eu,e1,rfl⟩|hl
  ·cases e1
  ·rcases gh hl with⟨e1,rfl⟩|hl
   ·cases e1
    exact⟨t,hy,aT⟩
   ·obtain⟨j,e1,h2,_⟩:=sk _ _ hl;cases e1;exact h2
 ·rcases hZ hl with⟨n',eu,e1,rfl⟩|hl
  ·simp[cp,cJ]at hj;subst hj;exact iZ
  ·rcases gh hl with⟨e1,rfl⟩|hl
   ·simp[cp]at hj
   ·obtain⟨j',e1,_,_,hm⟩:=sk _ _ hl;exact .inl (hm j hj)
 ·have:∀r:aM,(r=.x j∨r=.o j)->St.look (dF d o (.v false [.o k.ct.i []])++((aM.o k.ct.i,SV.ob dp y)::W1)) r≠none->Mn M k.ct.i (k.ct.i+1) j:=by
   intro r hr hl
   obtain⟨u,hu⟩:=Option.ne_none_iff_exists'.1 hl
   rcases hZ hu with⟨n',eu,e1,rfl⟩|hl
   ·rcases hr with rfl|rfl<;>cases e1
   ·rcases gh hl with⟨e1,rfl⟩|hl
    ·rcases hr with rfl|rfl
     ·cases e1
     ·cases e1;exact iZ
    ·obtain⟨j',e1,_,hm,_⟩:=sk _ _ hl
     rcases hr with rfl|rfl
     ·cases e1
     ·cases e1;exact .inl hm
  rcases hj with hj|hj
  ·exact this _ (.inl rfl) hj
  ·exact this _ (.inr rfl) hj
 ·simp only[Gh.cg]at hb
  split at hb
  ·rename_i he
   cases hb
   exact⟨iZ,Qf _ he⟩
  ·obtain⟨l0,h0,h1⟩:=Option.bind_eq_some_iff.1 hb
   obtain⟨_,bH⟩:=hk.rel.fg b l0 h0
   refine⟨?_,by omega⟩
   rcases j3 l0 l ⟨_,h0⟩ h1 with hm|he
   ·exact .inl hm
   ·rw[he];exact iZ
end
section
variable {M:Nat->Prop} {B:dt} {d:Nat} {up:Nat->Nat->Value} {ρ:List T} {G:Gh} {a:Act} {w:World} {S:Nat->ay} {P:Program}
variable {cx:Cx} {bW dR oi:Nat} {s:St} {R:List aM} {ct:Ct} {k':Wk} {o:Oper} {Q:Exit->Act->World->Prop}
def zT:List Ce->List T
 | []=>[]
 | .p (.k v)::cs=>.c v::zT cs
 |_::cs=>.l []::zT cs
theorem BS:∀{zs:List Ce} {vs:List Value} {k k1:Wk} {xs:List Lf},vh zs vs->k.gv zs=some (k1,xs)->k1=k∧xs.map (Lf.ev ρ)=zT zs
 | [],[],k,k1,xs,_,h=>by simp[Wk.gv]at h;obtain⟨rfl,rfl⟩:=h;exact⟨rfl,rfl⟩
 | [],_::_,_,_,_,h,_=>h.elim
 | .p (.k v)::cs,v'::vs,k,k1,xs,h,hk=>by
  obtain⟨rfl,hs,h⟩:=h
  simp only[Wk.gv,Wk.val,Option.bind_some,bQ,aJ,Prod.mk.injEq]at hk
  obtain⟨⟨k2,ys⟩,h2,rfl,rfl⟩:=hk
  obtain⟨rfl,h3⟩:=BS h h2
  exact⟨rfl,by simp[zT,h3,Lf.ev]⟩
 | .n::cs,v'::vs,k,k1,xs,h,hk=>by
  obtain⟨rfl,h⟩:=h
  simp only[Wk.gv,Wk.val,Option.bind_some,bQ,aJ,Prod.mk.injEq]at hk
  obtain⟨⟨k2,ys⟩,h2,rfl,rfl⟩:=hk
  obtain⟨rfl,h3⟩:=BS h h2
  exact⟨rfl,by simp[zT,h3,Lf.ev]⟩
 | .p (.k _)::_,[],_,_,_,h,_=>h.elim
 | .n::_,[],_,_,_,h,_=>h.elim
 | .p (.a _)::_,[],_,_,_,h,_=>h.elim
 | .p (.a _)::_,_::_,_,_,_,h,_=>h.elim
 | .p .e::_,[],_,_,_,h,_=>h.elim
 | .p .e::_,_::_,_,_,_,h,_=>h.elim
 | .o _ _::_,[],_,_,_,h,_=>h.elim
 | .o _ _::_,_::_,_,_,_,h,_=>h.elim
 | .d::_,[],_,_,_,h,_=>h.elim
 | .d::_,_::_,_,_,_,h,_=>h.elim
theorem BT:∀{zs:List Ce} {vs:List Value},vh zs vs->(zT zs).length=vs.length∧∀(j:Nat) (t:T),(zT zs)[j]?=some t->
  ∃v,vs[j]?=some v∧((t=.c v∧ib v=true)∨(t=.l []∧v=.slice none 0 0))
 | [],[],_=>⟨rfl,λj t h=>by simp[zT]at h⟩
 | [],_::_,h=>h.elim
 | .p (.k v)::cs,v'::vs,h=>by
  obtain⟨rfl,hs,h⟩:=h
  obtain⟨h1,h2⟩:=BT h
  refine⟨by simp[zT,h1],λj t ht=>?_⟩
  cases j with
  |zero=>simp[zT]at ht;subst ht;exact⟨v,rfl,.inl ⟨rfl,hs⟩⟩
  |succ j=>simpa using h2 j t (by simpa[zT]using ht)
 | .n::cs,v'::vs,h=>by
  obtain⟨rfl,h⟩:=h
  obtain⟨h1,h2⟩:=BT h
  refine⟨by simp[zT,h1],λj t ht=>?_⟩
  cases j with
  |zero=>simp[zT]at ht;subst ht;exact⟨_,rfl,.inr ⟨rfl,rfl⟩⟩
  |succ j=>simpa using h2 j t (by simpa[zT]using ht)
 | .p (.k _)::_,[],h=>h.elim
 | .n::_,[],h=>h.elim
 | .p (.a _)::_,[],h=>h.elim
 | .p (.a _)::_,_::_,h=>h.elim
 | .p .e::_,[],h=>h.elim
 | .p .e::_,_::_,h=>h.elim
 | .o _ _::_,[],h=>h.elim
 | .o _ _::_,_::_,h=>h.elim
 | .d::_,[],h=>h.elim
 | .d::_,_::_,h=>h.elim
theorem HH{z:Array Value}{n i j:Nat}(hj:j<z.size)(hi:i<n):(madeCells z (n*z.size))[i*z.size+j]?=z[j]?:=by
 have bH:i*z.size+j<n*z.size:=by
  have:(i+1)*z.size<=n*z.size:=Nat.mul_le_mul_right _ hi
  rw[Nat.add_mul]at this
  omega
 have hm:(i*z.size+j)%z.size=j:=by rw[Nat.add_comm,Nat.add_mul_mod_self_right,Nat.mod_eq_of_lt hj]
 simp[madeCells,bH,hm,hj]
theorem Qj{n i j:Nat}{ts:List T}{t:T}(h:cI (List.replicate n ts) i j=some t):i<n∧ts[j]?=some t:=by
 unfold cI at h
 rw[List.getElem?_replicate]at h
 split at h
 ·rename_i hi;exact⟨hi,h⟩
 ·simp at h
theorem Qk{t t' r:T}{ts:List T}(h:Prim.ev .mk (t::t'::ts)=some r):∃(k k2:IntKind) (n c:Int),t=.c (.int k n)∧t'=.c (.int k2 c)∧0<=n∧n=c∧c<qD∧r=.l (List.replicate n.toNat ts):=by
 cases t with
 |l _=>simp[Prim.ev]at h
 |c v=>
  cases v with
  |int k n=>
   cases t' with
   |l _=>simp[Prim.ev]at h
   |c v'=>
    cases v' with
    |int k2 c=>
     simp only[Prim.ev]at h
     split at h
     ·split at h
      ·split at h
       ·simp only[aJ]at h
        exact⟨k,k2,n,c,rfl,rfl,by assumption,by assumption,by assumption,h.symm⟩
       ·cases h
      ·cases h
     ·cases h
    |_=>simp[Prim.ev]at h
  |_=>cases t'<;>simp[Prim.ev]at h
theorem Qr(cN:cW P cx)(h:Rel M B d up s ρ G a w)(hn:∀n,o.dst=some n->n<a.tmps.size){t:Nat}{x y:Operand}(ho:o.op=.makeSlice t x y)
  (hk:gb cx bW dR d o oi ⟨s.only R,[],ct,[]⟩=some k')(hd:k'.aP S ρ)(hM:∀i,ct.i<=i->i<k'.ct.i->¬M i):a_ P (Mn M ct.i k'.ct.i) B d up ρ a w s o k'.w Q:=by
 have hw:=cC.start h R ct
 simp only[gb,ho,bQ]at hk
 obtain⟨ti,ed,te,mM,⟨k1,n⟩,h1,⟨k2,m⟩,h2,⟨k3,zs⟩,h3,hk⟩:=hk
 cases hc:(Nat.beq ti.kd 3&&Nat.ble te.bytes 65536&&Nat.blt 0 te.sz)with
 |false=>simp[hc]at hk
 |true=>
  simp only[hc,cond_true,aJ]at hk
  simp only[bB]at hc
  obtain⟨⟨mK,ln⟩,hc3⟩:=hc
  have hT:=cN.ty _ _ ed
  have hE:=cN.ty _ _ mM
  obtain⟨i,z,qJ,l8,E2,w9,ri⟩:=hE.info
  have hu:=hT.sl (cK mK)
  obtain⟨rfl,tq⟩:=BS (ρ:=ρ) ri h3
  obtain⟨oT,hza⟩:=BT ri
  have eY:z.cells.size=te.sz:=by
   have:=(Ae (G:=G) (w:=w) (ρ:=ρ) ri).1.length
   rw[hE.vi]at this
   simpa using this.symm
  have dN:bm d o {(k3.em .mk (n::m::zs)).1.set (.o (dy k3.ct.i)) (.ob true (k3.em .mk (n::m::zs)).2)with ct:=⟨(k3.em .mk (n::m::zs)).1.ct.a,dy k3.ct.i+1⟩} (.v false [.o (dy k3.ct.i) []])=k':=hk
  have eo:(k3.em .mk (n::m::zs)).1.aP S ρ:=by
   rw[<-dN]at hd
   have h2:=b_.1 hd
   exact h2
  obtain⟨uq,r,hr,jk⟩:=Wk.be eo
  have jl:Wk.dE ⟨s.only R,[],ct,[]⟩ k1:=by
   unfold Wk.one at h1
   split at h1
   ·exact Wk.cR h1
   ·cases h1
  obtain⟨oq,lZ,tm,hm,hdm⟩:=Wk.eM (hw.same jl) h2 uq (hw.fH y).1
  obtain⟨_,_,tn,Nv,mN⟩:=Wk.eM hw h1 oq (hw.fH x).1
  have qH:=((hw.same jl).same lZ).same (Wk.aS k3 .mk (n::m::zs))
  have iQ:k3.ct.i=ct.i:=by rw[lZ.i,jl.i]
  simp only[List.map_cons,tq,Lf.aZ hm,Lf.aZ Nv]at hr
  obtain⟨kn,kc,nn,cc,rfl,rfl,g1,g2,g3,rfl⟩:=Qk hr
  have en:=vw mN
  have ec:=vw hdm
  have hb:=Nat.le_of_ble_eq_true ln
  have j5:cc<4294967296:=g3
  have BU:(i.bytes:Int)*cc<=281474976710656:=by
   rw[E2]
   have e1:(te.bytes:Int)<=65536:=by omega
   have h0:(0:Int)<=cc:=by omega
   calc (te.bytes:Int)*cc<=65536*cc:=Int.mul_le_mul_of_nonneg_right e1 h0
    _<=281474976710656:=by omega
  have c_:=run_make (P:=P) w t ti.el i z hu qJ w9 kn kc nn cc g1 (by omega) BU (by omega)
  rw[l8,<-eY]at c_
  have mX:k'.ct.i=dy ct.i+1:=by rw[<-dN,ll,<-iQ]
  have lA:=uX ct.i
  have Qv:nn.toNat<=cc.toNat:=by omega
  let Hn:List (Nat×Nat)->Value:=λp=>match p with| []=>.slice (some ⟨w.heap.size,0,none⟩) nn.toNat cc.toNat|_=>.slice none 0 0
  have kt:∀p,∃a n c,Hn p=.slice a n c:=λp=>by cases p<;>exact⟨_,_,_,rfl⟩
  rw[mX,<-dN,<-iQ]
  refine a_.mono (M:=Mn M (dy k3.ct.i) (dy k3.ct.i+1)) ?_ (λi hi=>hi.imp_right λhi=>by rw[iQ]at hi⊢;exact⟨by omega,hi.2⟩)
  refine yq (nb:=some w.heap.size) (f:=some) (Hn:=Hn) (kt:=kt) (w':=w.alloc (.cells (madeCells z.cells (cc.toNat*z.cells.size)) ti.el)) (k:={(k3.em .mk (n::m::zs)).1 with ct:=⟨(k3.em .mk (n::m::zs)).1.ct.a,dy k3.ct.i⟩}) (W1:=[]) (t:=.l (List.replicate nn.toNat (zT te.zero)))
   h (show cC M B d up ρ G a w {(k3.em .mk (n::m::zs)).1 with ct:=⟨(k3.em .mk (n::m::zs)).1.ct.a,dy k3.ct.i⟩} G from⟨qH.rel,qH.aG⟩) hn (hM _ (by show ct.i<=dy k3.ct.i;rw[iQ];exact lA) (by rw[mX];show dy k3.ct.i<_;rw[iQ];omega)) (λr=>by exact pH (k:=(k3.em .mk (n::m::zs)).1) r) (λr u hu=>by cases hu) (λl _=>rfl) (λl l' ⟨b,hb⟩ he=>by cases he;exact .inl (qH.rel.fg b _ hb).1)
   (λl l' hq he=>by cases he;exact hq) (λc hc=>by cases hc;exact .inl rfl) (by simp) (λc hc=>by cases hc;simp) (λb hb _=>heap_alloc_old w _ b hb) (yj _ _) rfl jk ?_ (Qd (x:=Instr.makeSlice t (a.eval x) (a.eval y)) (by unfold execOp;rw[ho]) (by rw[en,ec];exact c_))
  have hlen:(List.replicate nn.toNat (zT te.zero)).length=nn.toNat:=by simp
  have hzT:(zT te.zero).length=z.cells.size:=by rw[oT];simp
  have ry:∀(ii j:Nat) (t:T),cI (List.replicate nn.toNat (zT te.zero)) ii j=some t->ii<nn.toNat∧j<z.cells.size∧∃v,z.cells[j]?=some v∧((t=.c v∧ib v=true)∨(t=.l []∧v=.slice none 0 0)):=by
   intro ii j t ht
   obtain⟨q1,q2⟩:=Qj ht
   obtain⟨v,q3,q4⟩:=hza j t q2
   refine⟨q1,?_,v,by simpa using q3,q4⟩
   rw[<-hzT];exact(List.getElem?_eq_some_iff.1 q2).1
  refine .l (wd:=z.cells.size) (cv:=λ_ j=>z.cells.getD j undef) (by rw[hlen];simp[Gh.cg,Hn]) ⟨by rw[hlen];exact Qv,λhe=>by have:=congrArg List.length he;simp at this;omega⟩ (by simp[Gh.cg]) (heap_alloc_new w _) (size_madeCells _ _) (λr hr=>?_) ?_ ?_ (λ_ _ _ _ hf=>by cases hf) ?_ ?_
  ·rw[List.eq_of_mem_replicate hr];exact hzT
  ·intro ii j t ht
   obtain⟨q1,q2,v,q3,_⟩:=ry ii j t ht
   rw[HH q2 (by omega),q3]
   simp[Array.getD_eq_getD_getElem?,q3]
  ·intro ii j v ht
   obtain⟨q1,q2,u,q3,q4⟩:=ry ii j _ ht
   rcases q4 with⟨e1,e2⟩|⟨e1,_⟩
   ·cases e1
    exact⟨by simp[Array.getD_eq_getD_getElem?,q3],e2⟩
   ·cases e1
  ·intro ii j ys ht _
   obtain⟨q1,q2,u,q3,q4⟩:=ry ii j _ ht
   rcases q4 with⟨e1,e2⟩|⟨e1,e2⟩
   ·cases e1
   ·simp[Array.getD_eq_getD_getElem?,q3,e2,Gh.cg,Hn]
  ·intro ii j ys ht _
   obtain⟨q1,q2,u,q3,q4⟩:=ry ii j _ ht
   rcases q4 with⟨e1,e2⟩|⟨e1,e2⟩
   ·cases e1
   ·cases e1
    exact .nil (by simp[Gh.cg,Hn])
end
theorem dh.move{G:Gh}{w:World}{id:Nat}{p:List (Nat×Nat)}{t:T}{dp:Bool}(h:dh G w id dp p t)(eA:dp=true){G':Gh}{w':World}{qK:Nat}{p':List (Nat×Nat)}
  (eT:∀c r,G.ω c=some (.o id (p++r))->G'.ω c=some (.o qK (p'++r))∧w'.heap[c]?=w.heap[c]?)(hH:∀r,G'.H qK (p'++r)=G.H id (p++r)):dh G' w' qK dp p' t:=by
 induction h generalizing p' with
 |nil h=>exact .nil (by have:=hH [];simp only[List.append_nil]at this;rw[this];exact h)
 | @l dp p xs b wd cap aX elem cv h1 h2 h3 h4 h5 h6 h7 h8 h9 kf pU ih=>
  have hb:=eT b [] (by simpa using h3)
  simp only[List.append_nil]at hb
  have h0:=hH []
  simp only[List.append_nil]at h0
  refine .l (by rw[h0];exact h1) h2 hb.1 (hb.2.trans h4) h5 h6 h7 h8 (λi j ys hy hd=>by rw[eA]at hd;cases hd) (λi j ys hy hd=>by rw[hH [(i,j)]];exact kf i j ys hy hd) λi j ys hy hd=>?_
  refine ih i j ys hy hd rfl (p':=p'++[(i,j)]) (λc r hc=>?_) λr=>?_
  ·have:=eT c ((i,j)::r) (by simpa using hc)
   simpa using this
  ·have:=hH ((i,j)::r)
   simpa using this
structure nE (G:Gh) (w:World) (id:Nat) (dp:Bool) (sz n0:Nat) (xs:List (List T)) (cv:Nat->Nat->Value):Prop where
 wd:∀r∈xs,r.length=sz
 sc:∀i j v,cI xs i j=some (.c v)->cv i j=v∧ib v=true
 pl:∀i j ys,cI xs i j=some (.l ys)->dp=false->du G.q w (.l ys) (cv i j)
 hd:∀i j ys,cI xs i j=some (.l ys)->dp=true->cv i j=G.H id [(n0+i,j)]
 ow:∀i j ys,cI xs i j=some (.l ys)->dp=true->dh G w id true [(n0+i,j)] (.l ys)
theorem BV{xs ys:List (List T)}{i j:Nat}{t:T}(h:cI (xs++ys) i j=some t):
  (i<xs.length∧cI xs i j=some t)∨(xs.length<=i∧cI ys (i-xs.length) j=some t):=by
 unfold cI at h⊢
 by_cases hi:i<xs.length
 ·rw[List.getElem?_append_left hi]at h;exact .inl ⟨hi,h⟩
 ·rw[List.getElem?_append_right (by omega)]at h;exact .inr ⟨by omega,h⟩
theorem nE.join{G:Gh}{w:World}{id:Nat}{dp:Bool}{sz:Nat}{xs ys:List (List T)}{cv oV:Nat->Nat->Value}(hx:nE G w id dp sz 0 xs cv)(hy:nE G w id dp sz xs.length ys oV)
  {b cap:Nat}{aX:Array Value}{elem:TypeId}(hH:G.H id []=.slice (some ⟨b,0,none⟩) (xs.length+ys.length) cap)(hc:xs.length+ys.length<=cap∧(xs++ys=[]->cap=0))(eT:G.ω b=some (.o id []))
  (hh:w.heap[b]?=some (.cells aX elem (0,0)))(hs:aX.size=cap*sz)(h1:∀i j,i<xs.length->j<sz->aX[i*sz+j]?=some (cv i j))
  (h2:∀i j,i<ys.length->j<sz->aX[(xs.length+i)*sz+j]?=some (oV i j)):dh G w id dp [] (.l (xs++ys)):=by
 have lx:∀{i j:Nat} {t:T},cI xs i j=some t->i<xs.length∧j<sz:=by
  intro i j t ht
  obtain⟨r,_,hm,_,q1,q2⟩:=pC ht
  exact⟨q1,by rw[<-hx.wd r hm];exact q2⟩
 have ly:∀{i j:Nat} {t:T},cI ys i j=some t->i<ys.length∧j<sz:=by
  intro i j t ht
  obtain⟨r,_,hm,_,q1,q2⟩:=pC ht
  exact⟨q1,by rw[<-hy.wd r hm];exact q2⟩
 let c:Nat->Nat->Value:=λi j=>if i<xs.length then cv i j else oV (i-xs.length) j
 refine .l (cv:=c) (by rw[List.length_append];exact hH) (by rw[List.length_append];exact hc) eT hh hs (λr hr=>?_) ?_ ?_ ?_ ?_ ?_
 ·rcases List.mem_append.1 hr with hr|hr
  ·exact hx.wd r hr
  ·exact hy.wd r hr
 ·intro i j t ht
  rcases BV ht with⟨q,ht⟩|⟨q,ht⟩
  ·simp only[c,if_pos q];exact h1 i j q (lx ht).2
  ·have:=h2 (i-xs.length) j (ly ht).1 (ly ht).2
   rw[show xs.length+(i-xs.length)=i by omega]at this
   simp only[c,if_neg (show¬i<xs.length by omega)];exact this
 ·intro i j v ht
  rcases BV ht with⟨q,ht⟩|⟨q,ht⟩
  ·simp only[c,if_pos q];exact hx.sc i j v ht
  ·simp only[c,if_neg (show¬i<xs.length by omega)];exact hy.sc _ j v ht
 ·intro i j zs ht hd
  rcases BV ht with⟨q,ht⟩|⟨q,ht⟩
  ·simp only[c,if_pos q];exact hx.pl i j zs ht hd
  ·simp only[c,if_neg (show¬i<xs.length by omega)];exact hy.pl _ j zs ht hd
 ·intro i j zs ht hd
  rcases BV ht with⟨q,ht⟩|⟨q,ht⟩
  ·simp only[c,if_pos q];have:=hx.hd i j zs ht hd;simpa using this
  ·have:=hy.hd _ j zs ht hd
   rw[show xs.length+(i-xs.length)=i by omega]at this
   simp only[c,if_neg (show¬i<xs.length by omega)];simpa using this
 ·intro i j zs ht hd
  rcases BV ht with⟨q,ht⟩|⟨q,ht⟩
  ·have:=hx.ow i j zs ht hd;simpa using this
  ·have:=hy.ow _ j zs ht hd
   rw[show xs.length+(i-xs.length)=i by omega]at this
   simpa using this
def oB(cv:Nat->Nat->Value)(sz m:Nat):List Value:=(List.range (m*sz)).map λk=>cv (k/sz) (k%sz)
theorem ur(cv:Nat->Nat->Value)(sz m:Nat):(oB cv sz m).length=m*sz:=by simp[oB]
theorem HI{cv:Nat->Nat->Value}{sz m i j:Nat}(hi:i<m)(hj:j<sz):(oB cv sz m)[i*sz+j]?=some (cv i j):=by
 have bH:i*sz+j<m*sz:=by
  have:(i+1)*sz<=m*sz:=Nat.mul_le_mul_right _ hi
  rw[Nat.add_mul]at this
  omega
 have h1:(i*sz+j)/sz=i:=by rw[Nat.add_comm,Nat.add_mul_div_right _ _ (by omega),Nat.div_eq_of_lt hj];omega
 have h2:(i*sz+j)%sz=j:=by rw[Nat.add_comm,Nat.add_mul_mod_self_right,Nat.mod_eq_of_lt hj]
 simp[oB,bH,h1,h2]
theorem Qw{cv:Nat->Nat->Value}{sz m:Nat}{v:Value}(eY:0<sz)(h:v∈oB cv sz m):∃i j,i<m∧j<sz∧v=cv i j:=by
 simp only[oB,List.mem_map,List.mem_range]at h
 obtain⟨k,hk,rfl⟩:=h
 exact⟨k/sz,k%sz,Nat.div_lt_of_lt_mul (by rw[Nat.mul_comm];exact hk),Nat.mod_lt _ eY,rfl⟩
section
variable {ρ:List T} {w:World} {P:Program}
theorem QA{sz wd:Nat}{xs:List (List T)}(hw:∀r∈xs,r.length=wd)(dL:okW sz xs=true):∀r∈xs,r.length=sz:=by
 intro r hr
 cases xs with
 |nil=>cases hr
 |cons x xs=>
  have h1:=hw x (by simp)
  have h2:=cK dL
  rw[hw r hr,<-h1,h2]
theorem yr{xs:List (List T)}{sz i j:Nat}(hw:∀r∈xs,r.length=sz)(hi:i<xs.length)(hj:j<sz):∃t,cI xs i j=some t:=by
 have hr:=List.getElem?_eq_getElem hi
 have hl:=hw xs[i] (List.getElem_mem hi)
 exact⟨xs[i][j],by simp[cI,hr,List.getElem?_eq_getElem (show j<xs[i].length by omega)]⟩
theorem BW{ω:Nat->Option Lb}{ys:List (List T)}{v:Value}(h:du ω w (.l ys) v){sz:Nat}(eY:0<sz)(dL:okW sz ys=true){tx e':TypeId}(ht:P.underlying tx=some (.slice e')):
  ∃cv:Nat->Nat->Value,Src P sz tx v ys.length (oB cv sz ys.length) w∧(∀r∈ys,r.length=sz)∧(∀i j t,cI ys i j=some t->du ω w t (cv i j))∧
   (∀b off n cap,v=.slice (some ⟨b,off,none⟩) n cap->∀i j t,cI ys i j=some t->w.cell? ⟨b,off+(i*sz+j),none⟩=some (cv i j)):=by
 cases h with
 |nil=>
  rename_i ao cap
  refine⟨λ_ _=>undef,?_,(λr hr=>by cases hr),(λi j t h=>by simp[cI]at h),λ_ _ _ _ _ i j t h=>by simp[cI]at h⟩
  have e0:oB (λ_ _=>undef) sz ([]:List (List T)).length=[]:=by simp[oB]
  rw[e0]
  cases ao with
  |none=>exact Src.ofNil w ht cap
  |some ad=>exact Src.ofSlice w ht ad 0 cap [] (by simp) (λj u hu=>by simp at hu) λu hu=>by cases hu
 | @l _ b off wd cap cv hw hc hb bH h1 h2=>
  have E3:=QA hw dL
  have p9:ys=[]∨wd=sz:=by
   cases ys with
   |nil=>exact .inl rfl
   |cons y ys=>exact .inr ((hw y (by simp)).symm.trans (E3 y (by simp)))
  have nD:∀i j t,cI ys i j=some t->w.cell? ⟨b,off+(i*sz+j),none⟩=some (cv i j):=by
   intro i j t aR
   rcases p9 with rfl|rfl
   ·simp[cI]at aR
   ·exact h1 i j t aR
  refine⟨cv,Src.ofSlice w ht ⟨b,off,none⟩ ys.length cap _ (ur _ _ _) (λk u hu=>?_) (λu hu=>?_),E3,h2,λb' PB n' oS he=>by cases he;exact nD⟩
  ·have hk:k<ys.length*sz:=by rw[<-ur cv sz ys.length];exact(List.getElem?_eq_some_iff.1 hu).1
   have hi:k/sz<ys.length:=Nat.div_lt_of_lt_mul (by rw[Nat.mul_comm];exact hk)
   have hj:k%sz<sz:=Nat.mod_lt _ eY
   have BX:(k/sz)*sz+k%sz=k:=by rw[Nat.mul_comm];exact Nat.div_add_mod k sz
   obtain⟨t,aR⟩:=yr E3 hi hj
   have:=HI (cv:=cv) hi hj
   rw[BX,hu]at this
   cases this
   have ln:=nD _ _ t aR
   rw[BX]at ln
   rw[Addr.add_lit]
   exact ln
  ·obtain⟨i,j,hi,hj,rfl⟩:=Qw eY hu
   obtain⟨t,aR⟩:=yr E3 hi hj
   exact(h2 i j t aR).one
end
section
variable {P:Program} {w:World}
theorem HJ(b:Nat)(t:TypeId):∀(vs:List Value) (o:Nat) (w:World) (aX:Array Value),w.heap[b]?=some (.cells aX t (0,0))->
  (w.setCells b o vs).heap[b]?=some (.cells (tb vs o aX) t (0,0))∧(∀c,c≠b->(w.setCells b o vs).heap[c]?=w.heap[c]?)∧(w.setCells b o vs).heap.size=w.heap.size∧
   gA w (w.setCells b o vs)
 | [],o,w,aX,h=>⟨h,λ_ _=>rfl,rfl,⟨rfl,rfl,rfl⟩⟩
 |v::vs,o,w,aX,h=>by
  have h1:=heap_setCell_same w b o aX t v h
  obtain⟨g1,g2,g3,g4⟩:=HJ b t vs (o+1) _ _ h1
  refine⟨g1,λc hc=>(g2 c hc).trans (heap_setCell_other w ⟨b,o,none⟩ c v hc),?_,?_⟩
  ·rw[World.setCells,g3];simp
  ·exact⟨g4.os.trans rfl,g4.tape.trans rfl,g4.output.trans rfl⟩
def yu(w:World)(sz:Nat)(v:Value)(n:Nat)(b0:Option Nat)(cv:Nat->Nat->Value):Prop:=
 (v=.slice none 0 0∧n=0∧b0=none)∨∃b cap aX elem,v=.slice (some ⟨b,0,none⟩) n cap∧b0=some b∧w.heap[b]?=some (.cells aX elem (0,0))∧aX.size=cap*sz∧n<=cap∧(n=0->cap=0)∧
  ∀i j,i<n->j<sz->aX[i*sz+j]?=some (cv i j)
structure HK (w w':World) (sz:Nat) (v':Value) (n m:Nat) (b0 nb:Option Nat) (cv oV:Nat->Nat->Value):Prop where
 so:gA w w'
 size:w.heap.size<=w'.heap.size
 yv:∀c,c<w.heap.size->nb≠some c->w'.heap[c]?=w.heap[c]?
 at_:∀c,nb=some c->(c=w.heap.size∨b0=some c)∧c<w'.heap.size
 len:∀c,b0=some c->nb=some c->∀aX elem z,w.heap[c]?=some (.cells aX elem z)->∃gg vy,w'.heap[c]?=some (.cells gg vy (0,0))∧gg.size=aX.size
 row:(nb=none∧v'=.slice none 0 0∧n=0∧m=0)∨∃b cap aX elem,nb=some b∧v'=.slice (some ⟨b,0,none⟩) (n+m) cap∧w'.heap[b]?=some (.cells aX elem (0,0))∧aX.size=cap*sz∧n+m<=cap∧(n+m=0->cap=0)∧
  (∀i j,i<n->j<sz->aX[i*sz+j]?=some (cv i j))∧∀i j,i<m->j<sz->aX[(n+i)*sz+j]?=some (oV i j)
theorem vz{i n j sz:Nat}(hi:i<n)(hj:j<sz):i*sz+j<n*sz:=by
 have:(i+1)*sz<=n*sz:=Nat.mul_le_mul_right _ hi
 rw[Nat.add_mul]at this
 omega
theorem QB{aX:Array Value}{sz n:Nat}{cv:Nat->Nat->Value}(eY:0<sz)(h:∀i j,i<n->j<sz->aX[i*sz+j]?=some (cv i j)){k:Nat}{u:Value}(hu:(oB cv sz n)[k]?=some u):aX[k]?=some u:=by
 have hk:k<n*sz:=by rw[<-ur cv sz n];exact(List.getElem?_eq_some_iff.1 hu).1
 have hi:k/sz<n:=Nat.div_lt_of_lt_mul (by rw[Nat.mul_comm];exact hk)
 have hj:k%sz<sz:=Nat.mod_lt _ eY
 have BX:(k/sz)*sz+k%sz=k:=by rw[Nat.mul_comm];exact Nat.div_add_mod k sz
 have h1:=HI (cv:=cv) hi hj
 rw[BX,hu]at h1
 cases h1
 have h2:=h _ _ hi hj
 rw[BX]at h2
 exact h2
theorem HL{t tx ty e:TypeId}{i:TypeInfo}{z:Value}(ht:P.underlying t=some (.slice e))(hi:P.info? e=some i)(hz:i.zero=some z){sz:Nat}(hs:i.size=sz)(tq:z.cells.size=sz)(eY:0<sz)
  (HM:i.bytes<=32768){va vb:Value}{n m:Nat}{b0:Option Nat}{cv oV:Nat->Nat->Value}(hr:yu w sz va n b0 cv)(l_:Src P sz tx vb m (oB oV sz m) w)(j5:n+m<qD):
  ∃v' w' nb,(Builtin.append_ #[t,tx] ty #[va,vb]).run P w=.ok v' w'∧HK w w' sz v' n m b0 nb cv oV:=by
 subst hs
 have adN:n+m<4294967296:=j5
 have grown:∀(base:Option Addr) (rz:Nat),(Builtin.firstCells i.size n (.slice base n rz)).run P w.drew=.ok (oB cv i.size n).toArray w.drew->rz<n+m->
   ∃v' w' nb,(Builtin.append_ #[t,tx] ty #[.slice base n rz,vb]).run P w=.ok v' w'∧HK w w' i.size v' n m b0 nb cv oV:=by
  intro base rz hold bH
  have jt:Builtin.nextslicecap (n+m) rz*i.bytes<=281474976710656:=growslice_fits (by omega) (by
   calc (n+m)*i.bytes<=4294967296*32768:=Nat.mul_le_mul (by omega) HM
    _=140737488355328:=by rfl)
  have c_:=run_append_grow_src (P:=P) w t tx ty e i z ht hi hz base n rz _ hold vb m _ l_ bH (by omega) jt
  refine⟨_,_,some w.heap.size,c_,⟨⟨rfl,rfl,rfl⟩,by simp,λc hc _=>heap_alloc_old w.drew _ c hc,λc hc=>by cases hc;exact⟨.inl rfl,by simp⟩,λc _ hc aX elem z hh=>(by cases hc;simp at hh),.inr ⟨w.heap.size,_,_,e,rfl,rfl,heap_alloc_new w.drew _,?_,grownCap_ge w _ _ _,λh0=>by omega,?_,?_⟩⟩⟩
  ·have HN:=grownCap_ge w (n+m) rz e
   simp only[Array.size_append,List.size_toArray,List.length_append,ur,size_zeroCells,tq,<-Nat.add_mul]
   congr 1
   omega
  ·intro ii j oM hj
   have p_:=vz oM hj
   rw[Array.getElem?_append_left (by simp only[List.size_toArray,List.length_append,ur];omega),List.getElem?_toArray,List.getElem?_append_left (by rw[ur];exact p_)]
   exact HI oM hj
  ·intro ii j oM hj
   have p_:=vz oM hj
   have e1:(n+ii)*i.size+j=n*i.size+(ii*i.size+j):=by rw[Nat.add_mul];omega
   rw[Array.getElem?_append_left (by simp only[List.size_toArray,List.length_append,ur];omega),List.getElem?_toArray,List.getElem?_append_right (by rw[ur];omega),ur,
    show(n+ii)*i.size+j-n*i.size=ii*i.size+j by omega]
   exact HI oM hj
 rcases hr with⟨rfl,rfl,rfl⟩|⟨b,cap,aX,elem,rfl,rfl,hb,qa,Qv,ta,oQ⟩
 ·by_cases hm:m=0
  ·subst hm
   refine⟨.slice none 0 0,w,none,?_,⟨⟨rfl,rfl,rfl⟩,Nat.le_refl _,λ_ _ _=>rfl,(λc hc=>by cases hc),(λc _ hc=>by cases hc),.inl ⟨rfl,rfl,rfl,rfl⟩⟩⟩
   rcases l_.kind with⟨e',hk⟩|hk<;>simp[Builtin.append_,run_underlying ht,run_underlying hk,sizeOf,typeInfo,hi,l_.len,l_.cells]
  ·refine grown none 0 ?_ (by omega)
   have:=run_firstCells_none (P:=P) w.drew i.size 0 0 0
   simpa[oB]using this
 ·by_cases nF:n+m<=cap
  ·have Al:n*i.size+(oB oV i.size m).length<=aX.size:=by rw[ur,qa,<-Nat.add_mul];exact Nat.mul_le_mul_right _ nF
   have c_:=run_append_room_src (P:=P) w t tx ty e i ht hi b 0 n cap vb m _ l_ nF (λj hj=>by
    rw[rf hb];simp only[Nat.zero_add];rw[Array.getElem?_eq_getElem (by omega)];rfl) (λj hj=>by simp[World.frozen?,hb])
   obtain⟨g1,g2,g3,g4⟩:=HJ b elem (oB oV i.size m) (0+n*i.size) w aX hb
   have QC:b<w.heap.size:=z' hb
   refine⟨_,_,some b,c_,⟨g4,by rw[g3];exact Nat.le_refl _,λc _ hc=>g2 c λe=>hc (by rw[e]),λc hc=>by cases hc;exact⟨.inr rfl,by rw[g3];exact QC⟩,λc _ hc PU Hs z2 hh=>(by cases hc;rw[hb]at hh;cases hh;exact⟨_,_,g1,BF _ _ _⟩),.inr ⟨b,cap,_,elem,rfl,rfl,g1,?_,nF,λh0=>ta (by omega),?_,?_⟩⟩⟩
   ·rw[BF];exact qa
   ·intro ii j oM hj
    have p_:=vz oM hj
    rw[EY _ _ _ _ (by simpa using Al),if_neg (by omega)]
    exact oQ ii j oM hj
   ·intro ii j oM hj
    have p_:=vz oM hj
    have e1:(n+ii)*i.size+j=n*i.size+(ii*i.size+j):=by rw[Nat.add_mul];omega
    rw[EY _ _ _ _ (by simpa using Al),if_pos ⟨by omega,by rw[ur];omega⟩,show(n+ii)*i.size+j-(0+n*i.size)=ii*i.size+j by omega]
    exact HI oM hj
  ·refine grown (some ⟨b,0,none⟩) cap ?_ (by omega)
   have:=run_firstCells_some (P:=P) w.drew i.size n ⟨b,0,none⟩ n cap (oB cv i.size n) (ur _ _ _) (λj u hu=>by
    rw[Addr.add_lit]
    simp only[Nat.zero_add,World.cell?_drew]
    rw[rf hb]
    exact QB eY oQ hu)
   exact this
end
section
variable {M:Nat->Prop} {B:dt} {d:Nat} {up:Nat->Nat->Value} {ρ:List T} {G:Gh} {a:Act} {w:World} {S:Nat->ay} {P:Program}
def i_(kA kx:Wk)(W:St):Prop:=kA.r=kx.r∧∀r,kA.w.look r=(W.look r).or (kx.w.look r)
theorem QD{k kA:Wk}{G1:Gh}{X:SV}{va:Value}{la:Lf}{Am iT:Bool}(hk:cC M B d up ρ G a w k G1)(hr:bY G1 w ρ X va)(hm:∀i∈cp X,M i)(h:A8 k X=some (kA,la,Am))
  (eA:iT=true->Am=true):kA.ct=k.ct∧kA.is=k.is∧∃kx G2 WA xs,cC M B d up ρ G a w kx G2∧kx.ct=k.ct∧i_ kA kx WA∧la.ej ρ=some (.l xs)∧
   ((va=.slice none 0 0∧xs=[]∧WA=[])∨∃jm,WA=[(.o jm,.un)]∧M jm∧jm%4≠2∧va=G2.H jm []∧dh G2 w jm iT [] (.l xs)):=by
 unfold A8 at h
 split at h
 ·simp only[aJ,Prod.mk.injEq]at h
  obtain⟨rfl,rfl,rfl⟩:=h
  obtain⟨e,he,m_,_⟩:=hr
  cases he
  exact⟨rfl,rfl,k,G1,[],[],hk,rfl,⟨rfl,λr=>by simp[St.look]⟩,rfl,.inl ⟨m_,rfl,rfl⟩⟩
 ·rename_i id
  split at h
  ·rename_i dp x hx
   cases o4:Nat.beq (id%4) 2 with
   |true=>simp[o4]at h
   |false=>
   have vA:id%4≠2:=λe=>by rw[e]at o4;cases o4
   simp only[o4,cond_false,aJ,Prod.mk.injEq]at h
   obtain⟨rfl,rfl,rfl⟩:=h
   obtain⟨e,he,m_,_⟩:=hr
   cases he
   obtain⟨p,hp,E4⟩:=m_
   simp only[ke,aJ]at hp
   subst hp
   have hM:M id:=hm id (by simp[cp,cJ])
   refine⟨rfl,rfl,?_⟩
   by_cases hd:iT=dp
   ·subst hd
    have cS:=hk.obj id
    rw[hx]at cS
    obtain⟨t,ht,aT⟩:=cS
    obtain⟨xs,rfl⟩:∃ys,t=.l ys:=by cases aT<;>exact⟨_,rfl⟩
    exact⟨k,G1,[(.o id,.un)],xs,hk,rfl,⟨rfl,λr=>pH r⟩,ht,.inr ⟨id,rfl,hM,vA,E4,aT⟩⟩
   ·have e1:iT=false:=by cases iT<;>cases dp<;>simp_all
    subst e1
    have tg:k.flat id=some (k.set (.o id) (.ob false x)):=by unfold Wk.flat;rw[hx]
    obtain⟨G2,w2,f1,f2,f3,f4,f5⟩:=hk.flat tg
    have cS:=w2.obj id
    rw[Wk.bg]at cS
    obtain⟨t,ht,aT⟩:=cS
    obtain⟨xs,rfl⟩:∃ys,t=.l ys:=by cases aT<;>exact⟨_,rfl⟩
    refine⟨_,G2,[(.o id,.un)],xs,w2,f4,⟨rfl,λr=>?_⟩,ht,.inr ⟨id,rfl,hM,vA,by rw[f2];exact E4,aT⟩⟩
    rw[show(k.set (.o id) .un).w.look r=_ from pH r,pY]
    by_cases nY:aM.o id=r
    ·subst nY;simp
    ·simp only[nY,if_false,Option.none_or]
     exact(St.bJ _ _ nY).symm
  ·cases h
 ·cases h
def yw(G:Gh)(w:World)(iT:Bool)(ku:Option Nat)(ys:List (List T))(cv:Nat->Nat->Value):Prop:=
 (iT=false∧∀i j t,cI ys i j=some t->du G.q w t (cv i j))∨
 ((∀i j t,cI ys i j=some t->dr t=true∧du (er G.ω) w t (cv i j)))∨
 (∃id,iT=true∧ku=some id∧(∀i j zs,cI ys i j=some (.l zs)->dh G w id true [(i,j)] (.l zs))∧(∀i j v,cI ys i j=some (.c v)->cv i j=v∧ib v=true)∧∀i j zs,cI ys i j=some (.l zs)->cv i j=G.H id [(i,j)])
theorem i_.get{kA kx:Wk}{W:St}(h:i_ kA kx W){r:aM}(hr:W.look r=none):kA.get r=kx.get r:=by
 unfold Wk.get
 rw[h.2,hr,h.1]
 simp
theorem dh.rows{G1:Gh}{id:Nat}{ys:List (List T)}(h:dh G1 w id true [] (.l ys)):∀i j zs,cI ys i j=some (.l zs)->dh G1 w id true [(i,j)] (.l zs):=by
 intro i j zs aR
 have:=dh.jj [(i,j)] h (by simp[fG,aR]) ⟨zs,rfl⟩
 simpa using this
theorem HO{G1:Gh}{id:Nat}{dp:Bool}{ys:List (List T)}{v:Value}(h:dh G1 w id dp [] (.l ys))(hv:v=G1.H id []){sz:Nat}(eY:0<sz)(dL:okW sz ys=true){tx e':TypeId}(ht:P.underlying tx=some (.slice e')):
  ∃cv:Nat->Nat->Value,Src P sz tx v ys.length (oB cv sz ys.length) w∧(∀r∈ys,r.length=sz)∧(∀i j v,cI ys i j=some (.c v)->cv i j=v∧ib v=true)∧
   (dp=true->∀i j zs,cI ys i j=some (.l zs)->cv i j=G1.H id [(i,j)])∧(dp=false->∀i j t,cI ys i j=some t->du G1.q w t (cv i j)):=by
 have cT:=h.den
 rw[<-hv]at cT
 obtain⟨cv,h1,h2,h3,h4⟩:=BW (P:=P) cT eY dL ht
 refine⟨cv,h1,h2,λi j u aR=>?_,λhd i j zs aR=>?_,λhd i j t aR=>?_⟩
 ·exact(h3 i j _ aR).scalar
 ·cases h with
  |nil=>simp[cI]at aR
  | @l _ _ _ b wd cap aX elem oV g1 g2 g3 g4 g5 g6 g7 g8 g9 pD vk=>
   have hc:=h4 b 0 _ _ (by rw[hv];exact g1) i j _ aR
   have lm:wd=sz:=by
    obtain⟨r,_,hm,_⟩:=pC aR
    rw[<-g6 r hm,h2 r hm]
   subst lm
   rw[rf g4,Nat.zero_add,g7 i j _ aR]at hc
   rw[<-Option.some.inj hc]
   simpa using pD i j zs aR hd
 ·cases h with
  |nil=>simp[cI]at aR
  | @l _ _ _ b wd cap aX elem oV g1 g2 g3 g4 g5 g6 g7 g8 g9 pD vk=>
   have hc:=h4 b 0 _ _ (by rw[hv];exact g1) i j _ aR
   have lm:wd=sz:=by
    obtain⟨r,_,hm,_⟩:=pC aR
    rw[<-g6 r hm,h2 r hm]
   subst lm
   rw[rf g4,Nat.zero_add,g7 i j _ aR]at hc
   rw[<-Option.some.inj hc]
   cases t with
   |c u=>obtain⟨e1,e2⟩:=g8 i j u aR;rw[e1];exact .c e2
   |l zs=>exact g9 i j zs aR hd
theorem i_.same{kA kx kB:Wk}{W:St}(h:i_ kA kx W)(hs:kA.dE kB):i_ kB kx W:=⟨hs.r.trans h.1,λr=>by rw[hs.w];exact h.2 r⟩
theorem QE{kA kB:Wk}{Y:SV}{lb:Lf}{sl fz w_:Bool}(h:uY sl fz kA Y=some (kB,lb,w_))(hd:kB.aP S ρ):kA.aP S ρ:=by
 unfold uY at h
 split at h
 ·simp only[aJ,Prod.mk.injEq]at h;rw[h.1];exact hd
 ·simp only[aJ,Prod.mk.injEq]at h;rw[h.1];exact hd
 ·cases uu:sl with
  |false=>
   simp only[uu,cond_false,bQ,aJ,Prod.mk.injEq]at h
   obtain⟨⟨k2,x2⟩,hv,rfl,_⟩:=h
   exact Wk.jV hv hd
  |true=>
   simp only[uu,cond_true]at h
   split at h
   ·rename_i dp x hx
    cases hc:(dp&& !fz)with
    |true=>simp only[hc,cond_true,aJ,Prod.mk.injEq]at h;rw[<-h.1]at hd;exact hd
    |false=>simp only[hc,cond_false,aJ,Prod.mk.injEq]at h;rw[<-h.1]at hd;exact hd
   ·simp only[aJ,Prod.mk.injEq]at h;rw[h.1];exact hd
   ·cases pI:fz with
    |true=>simp[pI]at h
    |false=>simp only[pI,cond_false,aJ,Prod.mk.injEq]at h;rw[<-h.1]at hd;exact hd
   ·cases h
 ·cases h
theorem QF{kA kB kx:Wk}{G1:Gh}{WA:St}{Y:SV}{vb:Value}{lb:Lf}{sl fz w_ iT:Bool}(hk:cC M B d up ρ G a w kx G1)(ho:i_ kA kx WA)(qb:∀r u,WA.look r=some u->u=.un)
  (hr:bY G1 w ρ Y vb)(hm:∀i∈cp Y,M i)(h:uY sl fz kA Y=some (kB,lb,w_))(hd:kB.aP S ρ)(eA:iT=true->w_=true):
  kA.aP S ρ∧kB.ct.i=kA.ct.i∧∃ky G3 WB t ku,cC M B d up ρ G a w ky G3∧i_ kB ky (WB++WA)∧((WB=[]∧ku=none)∨∃i,ku=some i∧WB=[(.o i,.un)]∧WA.look (.o i)=none∧M i)∧
   lb.ej ρ=some t∧G3.H=G1.H∧cB (λl=>∃i p,l=.o i p∧WA.look (.o i)=none) (λ_=>False) G1 w G3 w∧(∀i p,∀b,G3.ω b=some (.o i p)->G1.ω b=some (.o i p))∧
   ∀ys sz tx e',t=.l ys->0<sz->okW sz ys=true->(sl=false->ys.all (·.all dr)=true)->P.underlying tx=some (.slice e')->
    ∃cv,Src P sz tx vb ys.length (oB cv sz ys.length) w∧(∀r∈ys,r.length=sz)∧yw G3 w iT ku ys cv:=by
 have stay:cB (λl=>∃i p,l=.o i p∧WA.look (.o i)=none) (λ_=>False) G1 w G1 w:=(cB.refl G1 w).mono (λ_ hf=>hf.elim) λ_ hf=>hf
 have qc:∀ys:List (List T),ys.all (·.all dr)=true->∀i j t,cI ys i j=some t->dr t=true:=by
  intro ys hs i j t aR
  obtain⟨r,_,gX,Ai,_⟩:=pC aR
  exact List.all_eq_true.1 (List.all_eq_true.1 hs r gX) t (List.mem_of_getElem? Ai)
 unfold uY at h
 split at h
 ·
  simp only[aJ,Prod.mk.injEq]at h
  obtain⟨rfl,rfl,rfl⟩:=h
  obtain⟨e,he,m_,_⟩:=hr
  cases he
  refine⟨hd,rfl,kx,G1,[],.l [],none,hk,ho,.inl ⟨rfl,rfl⟩,rfl,rfl,stay,λ_ _ _ h=>h,λys sz tx e' ht eY dL _ o6=>?_⟩
  cases ht
  rw[show vb=_ from m_]
  obtain⟨cv,h1,h2,_,_⟩:=BW (P:=P) (.nil:du G1.q w (.l []) (.slice none 0 0)) eY dL o6
  exact⟨cv,h1,h2,.inr (.inl λi j t aR=>by simp[cI]at aR)⟩
 ·
  simp only[aJ,Prod.mk.injEq]at h
  obtain⟨rfl,rfl,rfl⟩:=h
  obtain⟨e,he,m_,_⟩:=hr
  cases he
  obtain⟨t,ht,cT⟩:=m_
  refine⟨hd,rfl,kx,G1,[],t,none,hk,ho,.inl ⟨rfl,rfl⟩,ht,rfl,stay,λ_ _ _ h=>h,λys sz tx e' ht eY dL kh o6=>?_⟩
  subst ht
  obtain⟨cv,h1,h2,h3,_⟩:=BW (P:=P) cT eY dL o6
  refine⟨cv,h1,h2,?_⟩
  cases hb:iT with
  |false=>exact .inl ⟨rfl,h3⟩
  |true=>
   have:=eA hb
   have uu:sl=false:=by simpa using this
   exact .inr (.inl λi j t aR=>⟨qc ys (kh uu) i j t aR,(h3 i j t aR).er⟩)
 ·
  rename_i id q
  obtain⟨e,he,m_,_⟩:=hr
  cases he
  have E5:M id:=hm id (by simp[cp,cJ])
  cases uu:sl with
  |false=>
   simp only[uu,cond_false,bQ,aJ,Prod.mk.injEq]at h
   obtain⟨⟨k2,x2⟩,hv,rfl,rfl,rfl⟩:=h
   have cd:WA.look (.o id)=none:=by
    cases hl:WA.look (.o id)with
    |none=>rfl
    |some u=>
     exfalso
     have hu:=qb _ _ hl
     subst hu
     have:kA.get (.o id)=.un:=by unfold Wk.get;rw[ho.2,hl];simp
     simp[Wk.val,this]at hv
   obtain⟨t,ht,cT⟩:=Wk.jp hv hd m_ λi hi=>by
    simp[cJ]at hi
    subst hi
    rw[ho.get cd]
    exact hk.obj i
   refine⟨Wk.jV hv hd,(Wk.cR hv).i,kx,G1,[],t,none,hk,ho.same (Wk.cR hv),.inl ⟨rfl,rfl⟩,ht,rfl,stay,λ_ _ _ h=>h,λys sz tx e' ht eY dL kh o6=>?_⟩
   subst ht
   obtain⟨cv,h1,h2,h3,_⟩:=BW (P:=P) cT eY dL o6
   exact⟨cv,h1,h2,.inr (.inl λi j t aR=>⟨qc ys (kh rfl) i j t aR,h3 i j t aR⟩)⟩
  |true=>
   simp only[uu,cond_true]at h
   have cd:kA.get (.o id)≠.un->WA.look (.o id)=none:=by
    intro cP
    cases hl:WA.look (.o id)with
    |none=>rfl
    |some u=>
     exfalso
     have hu:=qb _ _ hl
     subst hu
     exact cP (by unfold Wk.get;rw[ho.2,hl];simp)
   obtain⟨p,hp,HP⟩:=m_
   split at h
   ·rename_i dp x hx
    have hn:=cd (by rw[hx];simp)
    simp only[ke,aJ]at hp
    subst hp
    have BZ:kx.get (.o id)=.ob dp x:=by rw[<-ho.get hn];exact hx
    have qd:iT=false->∃ky G3,ky=kx.set (.o id) (.ob false x)∧cC M B d up ρ G a w ky G3∧G3.H=G1.H∧cB (λl=>∃i p,l=.o i p∧WA.look (.o i)=none) (λ_=>False) G1 w G3 w∧(∀i p,∀b,G3.ω b=some (.o i p)->G1.ω b=some (.o i p))∧
      ∃t,x.ej ρ=some t∧∀ys sz tx e',t=.l ys->0<sz->okW sz ys=true->P.underlying tx=some (.slice e')->∃cv,Src P sz tx vb ys.length (oB cv sz ys.length) w∧(∀r∈ys,r.length=sz)∧∀ku,yw G3 w iT ku ys cv:=by
     intro QG
     have hG:cC M B d up ρ G a w (kx.set (.o id) (.ob false x)) (G1.free id false):=by
      have hx3:=BZ
      rw[Wk.aE]at hx3
      refine⟨(hk.rel.flat hx3).congr (Ab _ _ _ _),(hk.aG.mono (λl hl=>Aa hl) λ_ hn=>hn).trans ((G1.dY id false w).mono ?_ λ_ hn=>hn)⟩
      rintro l ⟨p,rfl⟩
      show(kx.w.set _ _).look (.o id)≠none
      rw[St.aK];simp
     refine⟨_,G1.free id false,rfl,hG,rfl,(G1.dY id false w).mono (λl ⟨p,hp⟩=>⟨id,p,hp,hn⟩) (λ_ hf=>hf),λi p b hb=>?_,?_⟩
     ·simp only[Gh.free]at hb
      split at hb
      ·split at hb
       ·cases hb
       ·rename_i hw _;rw[hw];exact hb
      ·exact hb
     ·have cS:=hG.obj id
      rw[Wk.bg]at cS
      obtain⟨t,ht,aT⟩:=cS
      refine⟨t,ht,λys sz tx e' nA eY dL o6=>?_⟩
      subst nA
      obtain⟨cv,h1,h2,_,_,h5⟩:=HO (P:=P) aT HP eY dL o6
      exact⟨cv,h1,h2,λ_=>.inl ⟨QG,h5 rfl⟩⟩
    cases hc:(dp&& !fz)with
    |true=>
     simp only[hc,cond_true,aJ,Prod.mk.injEq]at h
     obtain⟨rfl,rfl,rfl⟩:=h
     simp only[bB]at hc
     cases An:iT with
     |false=>
      obtain⟨ky,G3,rfl,w3,e3,kp,e4,t,ht,l_⟩:=qd An
      refine⟨hd,rfl,_,G3,[(.o id,.un)],t,some id,w3,⟨ho.1,λr=>?_⟩,.inr ⟨id,rfl,rfl,hn,E5⟩,ht,e3,kp,e4,λys sz tx e' nA eY dL _ o6=>?_⟩
      ·rw[show(kA.set (.o id) .un).w.look r=_ from pH r,iS,pY,ho.2]
       by_cases nY:aM.o id=r
       ·subst nY;simp
       ·simp only[nY,if_false,Option.none_or]
        rw[show(kx.set (.o id) (.ob false x)).w.look r=_ from St.bJ _ _ nY]
      ·obtain⟨cv,h1,h2,h3⟩:=l_ ys sz tx e' nA eY dL o6
       rw[<-An]
       exact⟨cv,h1,h2,h3 _⟩
     |true=>
      have cS:=hk.obj id
      rw[BZ,hc.1]at cS
      obtain⟨t,ht,aT⟩:=cS
      refine⟨hd,rfl,kx,G1,[(.o id,.un)],t,some id,hk,⟨ho.1,λr=>?_⟩,.inr ⟨id,rfl,rfl,hn,E5⟩,ht,rfl,stay,λ_ _ _ h=>h,λys sz tx e' nA eY dL _ o6=>?_⟩
      ·rw[show(kA.set (.o id) .un).w.look r=_ from pH r,iS,ho.2,Option.or_assoc]
      ·subst nA
       obtain⟨cv,h1,h2,h3,h4,_⟩:=HO (P:=P) aT HP eY dL o6
       exact⟨cv,h1,h2,.inr (.inr ⟨id,rfl,rfl,aT.rows,h3,h4 rfl⟩)⟩
    |false=>
     simp only[hc,cond_false,aJ,Prod.mk.injEq]at h
     obtain⟨rfl,rfl,rfl⟩:=h
     have An:iT=false:=by cases iT with|false=>rfl|true=>exact absurd (eA rfl) (by simp)
     obtain⟨ky,G3,rfl,w3,e3,kp,e4,t,ht,l_⟩:=qd An
     refine⟨hd,rfl,_,G3,[],t,none,w3,⟨ho.1,λr=>?_⟩,.inl ⟨rfl,rfl⟩,ht,e3,kp,e4,λys sz tx e' nA eY dL _ o6=>?_⟩
     ·by_cases nY:aM.o id=r
      ·subst nY
       rw[show(kA.set (.o id) (.ob false x)).w.look (.o id)=_ from St.aK _ _ _,List.nil_append,hn]
       simp only[Option.none_or]
       exact(St.aK _ _ _).symm
      ·rw[show(kA.set (.o id) (.ob false x)).w.look r=_ from St.bJ _ _ nY,ho.2,List.nil_append,show(kx.set (.o id) (.ob false x)).w.look r=_ from St.bJ _ _ nY]
     ·obtain⟨cv,h1,h2,h3⟩:=l_ ys sz tx e' nA eY dL o6
      exact⟨cv,h1,h2,h3 _⟩
   ·rename_i x hx
    have hn:=cd (by rw[hx];simp)
    simp only[ke,aJ]at hp
    subst hp
    simp only[aJ,Prod.mk.injEq]at h
    obtain⟨rfl,rfl,rfl⟩:=h
    have An:iT=false:=by cases iT with|false=>rfl|true=>exact absurd (eA rfl) (by simp)
    have cS:=hk.obj id
    rw[<-ho.get hn,hx]at cS
    obtain⟨t,ht,cT,_⟩:=cS
    refine⟨hd,rfl,kx,G1,[],t,none,hk,ho,.inl ⟨rfl,rfl⟩,ht,rfl,stay,λ_ _ _ h=>h,λys sz tx e' nA eY dL _ o6=>?_⟩
    subst nA
    rw[<-HP]at cT
    obtain⟨cv,h1,h2,h3,_⟩:=BW (P:=P) cT eY dL o6
    exact⟨cv,h1,h2,.inl ⟨An,h3⟩⟩
   ·rename_i x hx
    have hn:=cd (by rw[hx];simp)
    simp only[ke,aJ]at hp
    subst hp
    cases pI:fz with
    |true=>simp[pI]at h
    |false=>
     simp only[pI,cond_false,aJ,Prod.mk.injEq]at h
     obtain⟨rfl,rfl,rfl⟩:=h
     have cS:=hk.obj id
     rw[<-ho.get hn,hx]at cS
     obtain⟨h40,ys,ht,cT,pW,aT⟩:=cS
     refine⟨hd,rfl,kx,G1,[(.o id,.un)],_,some id,hk,⟨ho.1,λr=>?_⟩,.inr ⟨id,rfl,rfl,hn,E5⟩,ht,rfl,stay,λ_ _ _ h=>h,λNw sz tx e' nA eY dL _ o6=>?_⟩
     ·rw[show(kA.set (.o id) .un).w.look r=_ from pH r,iS,ho.2,Option.or_assoc]
     ·cases nA
      have lD:=cT
      rw[<-HP]at lD
      obtain⟨cv,h1,h2,h3,h4⟩:=BW (P:=P) lD eY dL o6
      refine⟨cv,h1,h2,?_⟩
      cases hb:iT with
      |false=>exact .inl ⟨rfl,h3⟩
      |true=>
       refine .inr (.inr ⟨id,rfl,rfl,aT,λi j v aR=>(h3 i j _ aR).scalar,λi j zs aR=>?_⟩)
       obtain⟨ad,cap,pF,_⟩:=lD.rows
       cases ad with
       |none=>
        rw[pF]at lD
        generalize pB:Value.slice none ys.length cap=vv at lD
        cases lD with
        |nil=>simp[cI]at aR
        |l=>cases pB
       |some ad=>
        obtain⟨b,off,r0⟩:=ad
        rw[pF]at lD
        generalize pB:Value.slice (some ⟨b,off,r0⟩) ys.length cap=vv at lD
        cases lD with
        |nil=>simp[cI]at aR
        | @l _ b2 ae9 wd ym cv2 g1 g2 g3 g4 g5 g6=>
         cases pB
         obtain⟨w8,w1,w2⟩:=pW b off _ _ (by rw[<-HP];exact pF)
         have e1:=h4 b off _ _ pF i j _ aR
         have e2:=w2 i j zs aR
         obtain⟨row,_,gX,_⟩:=pC aR
         rw[<-w1 row gX,h2 row gX,e1]at e2
         simpa using e2
   ·cases h
 ·cases h
theorem HQ{sc:Bool}{sz:Nat}{xs:List (List T)}{t r:T}(h:Prim.ev (.app sc sz) [.l xs,t]=some r):
  ∃ys,t=.l ys∧xs.length+ys.length<qD∧(sc=true->ys.all (·.all dr)=true)∧okW sz xs=true∧okW sz ys=true∧r=.l (xs++ys):=by
 cases t with
 |c v=>simp[Prim.ev]at h
 |l ys=>
  simp only[Prim.ev]at h
  split at h
  ·rename_i h1
   split at h
   ·rename_i h2
    split at h
    ·rename_i h3
     split at h
     ·rename_i h4
      simp only[aJ]at h
      exact⟨ys,rfl,h1,λhs=>by subst hs;simpa using h2,h3,h4,h.symm⟩
     ·cases h
    ·cases h
   ·cases h
  ·cases h
theorem QH{G1:Gh}{id:Nat}{dp:Bool}{xs:List (List T)}{v:Value}(h:dh G1 w id dp [] (.l xs))(hv:v=G1.H id []){sz:Nat}(dL:okW sz xs=true):
  ∃(cv:Nat->Nat->Value) (b0:Option Nat),yu w sz v xs.length b0 cv∧(∀b,b0=some b->G1.ω b=some (.o id []))∧nE G1 w id dp sz 0 xs cv:=by
 cases h with
 |nil hH=>
  refine⟨λ_ _=>undef,none,.inl ⟨by rw[hv,hH],rfl,rfl⟩,λb hb=>(by cases hb),⟨λr hr=>(by cases hr),?_,?_,?_,?_⟩⟩<;>intro i j t aR<;>simp[cI]at aR
 | @l _ _ _ b wd cap aX elem cv g1 g2 g3 g4 g5 g6 g7 g8 g9 pD vk=>
  by_cases hx:xs=[]
  ·subst hx
   have j5:=g2.2 rfl
   subst j5
   refine⟨cv,some b,.inr ⟨b,0,aX,elem,by rw[hv,g1],rfl,g4,by rw[g5];simp,Nat.le_refl _,λ_=>rfl,λi j hi _=>by simp at hi⟩,λc hc=>by cases hc;exact g3,⟨λr hr=>(by cases hr),?_,?_,?_,?_⟩⟩<;>intro i j t aR<;>simp[cI]at aR
  ·have lm:wd=sz:=by
    cases xs with
    |nil=>exact absurd rfl hx
    |cons r xs=>rw[<-g6 r (by simp)];exact cK dL
   subst lm
   refine⟨cv,some b,.inr ⟨b,cap,aX,elem,by rw[hv,g1],rfl,g4,g5,g2.1,λh0=>g2.2 (List.eq_nil_of_length_eq_zero h0),λi j hi hj=>?_⟩,λc hc=>by cases hc;exact g3,⟨g6,g8,g9,?_,?_⟩⟩
   ·obtain⟨t,aR⟩:=yr g6 hi hj
    exact g7 i j t aR
   ·intro i j ys aR hd
    simpa using pD i j ys aR hd
   ·intro i j ys aR hd
    simpa using vk i j ys aR hd
end
def pJ(ja jb:Option Nat)(i n:Nat):Lb->Option Lb
 | .f=>some .f
 | .x b=>some (.x b)
 | .o j p=>
  if ja=some j then(match p with| []=>some (.o j [])|x::p=>some (.o i (x::p)))
  else if jb=some j then(match p with| []=>some (.o j [])|(r,c)::p=>some (.o i ((n+r,c)::p)))
  else some (.o j p)
theorem B0(i:Nat):dy i%2=0:=by unfold dy;omega
theorem B1{ja jb:Option Nat}{i n:Nat}(hi:i%2=0)(l l':Lb)(hq:qt l=true)(h:pJ ja jb i n l=some l'):qt l'=true:=by
 cases l with
 |o j p=>
  cases p with
  |nil=>
   simp only[pJ]at h
   split at h
   ·cases h;exact hq
   ·split at h
    ·cases h;exact hq
    ·cases h;exact hq
  |cons x p=>
   obtain⟨r,c⟩:=x
   simp only[pJ]at h
   split at h
   ·cases h;exact pS hi (by simp)
   ·split at h
    ·cases h;exact pS hi (by simp)
    ·cases h;exact hq
 |_=>simp[qt]at hq
def o7(G:Gh)(ja jb:Option Nat)(n:Nat)(v:Value):List (Nat×Nat)->Value
 | []=>v
 |(r,c)::p=>if r<n then(match ja with|some j=>G.H j ((r,c)::p)|none=>.slice none 0 0)else(match jb with|some j=>G.H j ((r-n,c)::p)|none=>.slice none 0 0)
theorem QI{G:Gh}{ja jb:Option Nat}{n:Nat}{v:Value}(hv:∃a m c,v=.slice a m c)(p:List (Nat×Nat)):∃a m c,o7 G ja jb n v p=.slice a m c:=by
 cases p with
 |nil=>exact hv
 |cons x p=>
  obtain⟨r,k⟩:=x
  by_cases hr:r<n
  ·simp only[o7,if_pos hr]
   cases ja with
   |none=>exact⟨_,_,_,rfl⟩
   |some j=>exact G.hs j _
  ·simp only[o7,if_neg hr]
   cases jb with
   |none=>exact⟨_,_,_,rfl⟩
   |some j=>exact G.hs j _
section
variable {M:Nat->Prop} {B:dt} {d:Nat} {up:Nat->Nat->Value} {ρ:List T} {G:Gh} {a:Act} {w:World} {S:Nat->ay} {P:Program}
variable {cx:Cx} {bW dR oi:Nat} {s:St} {R:List aM} {ct:Ct} {k':Wk} {o:Oper} {Q:Exit->Act->World->Prop}
theorem QJ{G3:Gh}{w':World}{jm i n:Nat}{iT:Bool}{sz:Nat}{xs:List (List T)}{cv:Nat->Nat->Value}(h:nE G3 w jm iT sz 0 xs cv)(hn:xs.length<=n)
  {nb:Option Nat}{jb:Option Nat}{v:Value}{kt:∀p,∃a m c,o7 G3 (some jm) jb n v p=.slice a m c}(oA:∀c,nb=some c->c=w.heap.size∨G3.ω c=some (.o jm []))(hA2:jm%4≠2)
  (hi:i%2=0)(gK:∀b l,G3.ω b=some l->b<w.heap.size)(eY:w.heap.size<=w'.heap.size)(hh:∀c,c<w.heap.size->nb≠some c->w'.heap[c]?=w.heap[c]?):
  nE (G3.cg nb i (pJ (some jm) jb i n) (o7 G3 (some jm) jb n v) kt) w' i iT sz 0 xs cv:=by
 have nC:∀b,b<w.heap.size->G3.q b=none->(G3.cg nb i (pJ (some jm) jb i n) (o7 G3 (some jm) jb n v) kt).q b=none∧w'.heap[b]?=w.heap[b]?:=by
  intro b hb h0
  have cP:nb≠some b:=by
   intro e
   rcases oA b e with rfl|h1
   ·omega
   ·exact z9 h1 (xW hA2) h0
  exact⟨yp (B1 hi) cP h0,hh b hb cP⟩
 refine⟨h.wd,h.sc,λr c ys aR hd=>(h.pl r c ys aR hd).aG eY nC,λr c ys aR hd=>?_,λr c ys aR hd=>?_⟩
 ·have bH:r<n:=by obtain⟨_,_,_,_,q1,_⟩:=pC aR;omega
  have:=h.hd r c ys aR hd
  simp only[Nat.zero_add]at this⊢
  rw[this]
  simp[Gh.cg,o7,bH]
 ·have bH:r<n:=by obtain⟨_,_,_,_,q1,_⟩:=pC aR;omega
  have:=h.ow r c ys aR hd
  simp only[Nat.zero_add]at this⊢
  refine this.move rfl (λe q he=>?_) λq=>by simp[Gh.cg,o7,bH]
  have p_:=gK e _ he
  have cP:nb≠some e:=by
   intro e'
   rcases oA e e' with rfl|h1
   ·omega
   ·rw[he]at h1;simp at h1
  refine⟨?_,hh e p_ cP⟩
  simp only[Gh.cg,cP,if_false,he,Option.bind_some,pJ,if_true]
  rfl
theorem QK{G3:Gh}{w':World}{i n:Nat}{ja:Option Nat}{iT:Bool}{sz:Nat}{ys:List (List T)}{cv:Nat->Nat->Value}{ku:Option Nat}(h:yw G3 w iT ku ys cv)(eA:∀id,ku=some id->ja≠some id)
  (hw:∀r∈ys,r.length=sz){nb:Option Nat}{v:Value}{kt:∀p,∃a m c,o7 G3 ja ku n v p=.slice a m c}
  (oA:∀c,nb=some c->c=w.heap.size∨∃j,ja=some j∧G3.ω c=some (.o j [])∧j%4≠2)
  (hi:i%2=0)(gK:∀b l,G3.ω b=some l->b<w.heap.size)(eY:w.heap.size<=w'.heap.size)(hh:∀c,c<w.heap.size->nb≠some c->w'.heap[c]?=w.heap[c]?):
  nE (G3.cg nb i (pJ ja ku i n) (o7 G3 ja ku n v) kt) w' i iT sz n ys cv:=by
 have nC:∀b,b<w.heap.size->G3.q b=none->(G3.cg nb i (pJ ja ku i n) (o7 G3 ja ku n v) kt).q b=none∧w'.heap[b]?=w.heap[b]?:=by
  intro b hb h0
  have cP:nb≠some b:=by
   intro e
   rcases oA b e with rfl|⟨j,_,h1,wZ⟩
   ·omega
   ·exact z9 h1 (xW wZ) h0
  exact⟨yp (B1 hi) cP h0,hh b hb cP⟩
 have plain:iT=false->(∀i j t,cI ys i j=some t->du G3.q w t (cv i j))->nE (G3.cg nb i (pJ ja ku i n) (o7 G3 ja ku n v) kt) w' i iT sz n ys cv:=by
  intro hf cT
  exact⟨hw,λr c u aR=>(cT r c _ aR).scalar,λr c zs aR _=>(cT r c _ aR).aG eY nC,λr c zs _ hd=>(by rw[hf]at hd;cases hd),λr c zs _ hd=>(by rw[hf]at hd;cases hd)⟩
 rcases h with⟨hf,cT⟩|kh|⟨id,kg,j3,aT,hs,hl⟩
 ·exact plain hf cT
 ·refine⟨hw,λr c u aR=>(kh r c _ aR).2.scalar,λr c zs aR _=>?_,λr c zs aR _=>?_,λr c zs aR _=>?_⟩<;>have:=(kh r c _ aR).1<;>simp[dr]at this
 ·subst j3
  refine⟨hw,hs,λr c zs aR hd=>?_,λr c zs aR hd=>?_,λr c zs aR hd=>?_⟩
  ·rw[kg]at hd;cases hd
  ·rw[hl r c zs aR]
   simp[Gh.cg,o7,show¬(n+r<n) by omega]
  ··have:=aT r c zs aR
    refine this.move rfl (λe q he=>?_) λq=>by simp[Gh.cg,o7,show¬(n+r<n) by omega]
    have p_:=gK e _ he
    have cP:nb≠some e:=by
     intro e'
     rcases oA e e' with rfl|⟨j,hj,h1,_⟩
     ·omega
     ·rw[he]at h1;simp at h1
    have hja:ja≠some id:=eA id rfl
    refine⟨?_,hh e p_ cP⟩
    simp[Gh.cg,cP,he,pJ,hja]
theorem QL{ja jb:Option Nat}{i n:Nat}{l l':Lb}(h:pJ ja jb i n l=some l'):l'.id=l.id∨l'.id=i:=by
 cases l with
 |f=>simp only[pJ,aJ]at h;subst h;exact .inl rfl
 |x b=>simp only[pJ,aJ]at h;subst h;exact .inl rfl
 |o j p=>
  simp only[pJ]at h
  split at h
  ·cases p with
   |nil=>simp only[aJ]at h;subst h;exact .inl rfl
   |cons x p=>simp only[aJ]at h;subst h;exact .inr rfl
  ·split at h
   ·cases p with
    |nil=>simp only[aJ]at h;subst h;exact .inl rfl
    |cons x p=>simp only[aJ]at h;subst h;exact .inr rfl
   ·simp only[aJ]at h;subst h;exact .inl rfl
theorem QM{ti tj te:TI}{t tx:Nat}(cN:cW P cx)(ed:cx.ty t=some ti)(E6:cx.ty tx=some tj)(mM:cx.ty ti.el=some te)(oU:ti.kd=3)(hj3:tj.kd=3)(HM:te.bytes<=32768)(eY:0<te.sz)
  (h:Rel M B d up s ρ G a w)(hn:∀n,o.dst=some n->n<a.tmps.size){c:Call}{x y:Operand}(ho:o.op=.call c)(hc:c.callee=.builtin .append)(dv:c.args.toList=[x,y])(aR:c.argTypes.toList=[t,tx])
  {k5 ky kw:Wk}{G3:Gh}{WA WB:St}{jm ku:Option Nat}{xs ys:List (List T)}{iT:Bool}{r:Lf}(w3:cC M B d up ρ G a w ky G3)(adQ:i_ k5 ky (WB++WA))(lA:k5.ct.i%2=0)(hM:¬M k5.ct.i)
  (qb:(jm=none∧WA=[]∧a.eval x=.slice none 0 0∧xs=[])∨∃i,jm=some i∧WA=[(.o i,.un)]∧M i∧i%4≠2∧a.eval x=G3.H i []∧dh G3 w i iT [] (.l xs))
  (HR:(WB=[]∧ku=none)∨∃i,ku=some i∧WB=[(.o i,.un)]∧WA.look (.o i)=none∧M i)
  (B3:okW te.sz xs=true)(bH:xs.length+ys.length<qD){cv:Nat->Nat->Value}{e':TypeId}(l_:Src P te.sz tx (a.eval y) ys.length (oB cv te.sz ys.length) w)(hwy:∀r∈ys,r.length=te.sz)
  (ki:yw G3 w iT ku ys cv)(hr:r.ej ρ=some (.l (xs++ys)))(HG:∀r',kw.w.look r'=(St.look ((.o k5.ct.i,.ob iT r)::(WB++WA)) r').or (ky.w.look r')):
  a_ P (Mn M k5.ct.i (k5.ct.i+1)) B d up ρ a w s o (bm d o kw (.v false [.o k5.ct.i []])).w Q:=by
 have hT:=cN.ty _ _ ed
 have hE:=cN.ty _ _ mM
 obtain⟨i,z,qJ,l8,E2,w9,ri⟩:=hE.info
 have hu:=hT.sl oU
 have tq:z.cells.size=te.sz:=by
  have:=(Ae (G:=G) (w:=w) (ρ:=ρ) ri).1.length
  rw[hE.vi]at this
  simpa using this.symm
 have gK:∀b l,G3.ω b=some l->b<w.heap.size:=λb l hb=>(w3.rel.fg b l hb).2
 obtain⟨tv,b0,nF,B4,gB⟩:∃(tv:Nat->Nat->Value) (b0:Option Nat),yu w te.sz (a.eval x) xs.length b0 tv∧(∀b,b0=some b->∃j,jm=some j∧G3.ω b=some (.o j [])∧j%4≠2)∧
   (xs=[]∨∃j,jm=some j∧nE G3 w j iT te.sz 0 xs tv):=by
  rcases qb with⟨rfl,_,hv,rfl⟩|⟨j,rfl,_,_,wZ,hv,aT⟩
  ·exact⟨λ_ _=>undef,none,.inl ⟨hv,rfl,rfl⟩,λb hb=>(by cases hb),.inl rfl⟩
  ·obtain⟨tv,b0,h1,h2,h3⟩:=QH aT hv B3
   exact⟨tv,b0,h1,λb hb=>⟨j,rfl,h2 b hb,wZ⟩,.inr ⟨j,rfl,h3⟩⟩
 obtain⟨v',w',nb,c_,fT⟩:=HL (P:=P) (w:=w) (ty:=o.type) hu qJ w9 l8 tq eY (by rw[E2];exact HM) nF l_ bH
 have eZ:(execOp a.eval o).run P w=.ok (.value v') w':=by
  refine EX ho hc ?_
  have hA:c.args=#[x,y]:=Array.ext' dv
  have hB:c.argTypes=#[t,tx]:=Array.ext' aR
  rw[hA,hB]
  show Sem.run P (do let v <-Builtin.append_ #[t,tx] o.type (#[x,y].map a.eval);pure (Next.value v)) w=_
  rw[Sem.run_bind]
  simp only[List.map_toArray,List.map_cons,List.map_nil]
  rw[c_];rfl
 have QN:∃a m c,v'=.slice a m c:=by
  rcases fT.row with⟨_,rfl,_⟩|⟨b,cap,_,_,_,rfl,_⟩<;>exact⟨_,_,_,rfl⟩
 have oA:∀c,nb=some c->c=w.heap.size∨∃j,jm=some j∧G3.ω c=some (.o j [])∧j%4≠2:=by
  intro c hc
  rcases(fT.at_ c hc).1 with h1|h1
  ·exact .inl h1
  ·exact .inr (B4 c h1)
 have QO:∀j,ku=some j->jm≠some j:=by
  intro j hj he
  rcases HR with⟨_,h1⟩|⟨j',h1,_,h2,_⟩
  ·rw[hj]at h1;cases h1
  ·rw[hj]at h1
   cases h1
   rcases qb with⟨h3,_⟩|⟨j'',h3,h4,_⟩
   ·rw[he]at h3;cases h3
   ·rw[he]at h3
    cases h3
    rw[h4,pY]at h2
    simp at h2
 have yx:∀r u,(WB++WA).look r=some u->∃j,r=.o j∧u=.un∧M j:=by
  intro r u rA
  rw[iS]at rA
  rcases HR with⟨rfl,_⟩|⟨j,_,rfl,_,hm⟩
  ·simp only[St.look,Option.none_or]at rA
   rcases qb with⟨_,rfl,_⟩|⟨j',_,rfl,um,_⟩
   ·cases rA
   ·rcases gh rA with⟨e1,e2⟩|hl
    ·exact⟨j',e1,e2,um⟩
    ·cases hl
  ·cases hl:St.look [(aM.o j,SV.un)] r with
   |some u'=>
    rw[hl]at rA
    simp only[Option.some_or,aJ]at rA
    subst rA
    rcases gh hl with⟨e1,e2⟩|hl
    ·exact⟨j,e1,e2,hm⟩
    ·cases hl
   |none=>
    rw[hl]at rA
    simp only[Option.none_or]at rA
    rcases qb with⟨_,rfl,_⟩|⟨j',_,rfl,um,_⟩
    ·cases rA
    ·rcases gh rA with⟨e1,e2⟩|hl
     ·exact⟨j',e1,e2,um⟩
     ·cases hl
 have vB:∀j,jm=some j->(WB++WA).look (.o j)≠none:=by
  intro j hj
  rcases qb with⟨h1,_⟩|⟨j',h1,rfl,_⟩
  ·rw[hj]at h1;cases h1
  ·rw[hj]at h1
   cases h1
   rw[iS,pY]
   intro e
   have:=(Option.or_eq_none_iff.1 e).2
   simp at this
 have B5:∀j,ku=some j->(WB++WA).look (.o j)≠none:=by
  intro j hj
  rcases HR with⟨_,h1⟩|⟨j',h1,rfl,_⟩
  ·rw[hj]at h1;cases h1
  ·rw[hj]at h1
   cases h1
   rw[iS,pY]
   intro e
   have:=(Option.or_eq_none_iff.1 e).1
   simp at this
 let kk:Wk:={ky with ct:=k5.ct}
 have wk:cC M B d up ρ G a w kk G3:=⟨w3.rel,w3.aG⟩
 refine yq (k:=kk) (nb:=nb) (f:=pJ jm ku k5.ct.i xs.length) (Hn:=o7 G3 jm ku xs.length v') (kt:=QI QN) (W1:=WB++WA) (y:=r) (t:=.l (xs++ys)) (v:=v') (w':=w') (dp:=iT)
  h wk hn hM HG (λr u hu=>by obtain⟨j,e1,e2,e3⟩:=yx r u hu;subst e2;exact⟨j,e1,trivial,e3,λi hi=>by simp[cp]at hi⟩) (λl hl=>?_) (λl l' ⟨b,hb⟩ he=>?_) (B1 lA) (λc hc=>?_) fT.size (λc hc=>(fT.at_ c hc).2) (λb hb cP=>fT.yv b hb cP) fT.so rfl hr ?_ eZ
 ·cases l with
  |f=>rfl
  |x b=>rfl
  |o j p=>
   have:=hl j p rfl
   have h1:jm≠some j:=λe=>vB j e this
   have h2:ku≠some j:=λe=>B5 j e this
   simp[pJ,h1,h2]
 ·rcases QL he with h1|h1
  ·rw[h1];exact .inl (w3.rel.fg b _ hb).1
  ·exact .inr h1
 ·rcases oA c hc with h1|⟨j,h1,h2,h3⟩
  ·exact .inl h1
  ·exact .inr ⟨j,h2,vB j h1,h3⟩
 ·have na:nE (G3.cg nb k5.ct.i (pJ jm ku k5.ct.i xs.length) (o7 G3 jm ku xs.length v') (QI QN)) w' k5.ct.i iT te.sz xs.length ys cv:=
   QK (w:=w) ki (λj hj=>QO j hj) hwy oA lA gK fT.size fT.yv
  have NC:nE (G3.cg nb k5.ct.i (pJ jm ku k5.ct.i xs.length) (o7 G3 jm ku xs.length v') (QI QN)) w' k5.ct.i iT te.sz 0 xs tv:=by
   rcases gB with rfl|⟨j,rfl,s8⟩
   ·exact⟨λr hr=>(by cases hr),λ_ _ _ h=>(by simp[cI]at h),λ_ _ _ h=>(by simp[cI]at h),λ_ _ _ h=>(by simp[cI]at h),λ_ _ _ h=>(by simp[cI]at h)⟩
   ·have wZ:j%4≠2:=by
     rcases qb with⟨h1,_⟩|⟨i',h1,_,_,h2,_⟩
     ·cases h1
     ·cases h1;exact h2
    refine QJ (w:=w) s8 (Nat.le_refl _) (λc hc=>?_) wZ lA gK fT.size fT.yv
    rcases oA c hc with h1|⟨j',h1,h2,_⟩
    ·exact .inl h1
    ·cases h1;exact .inr h2
  rcases fT.row with⟨rfl,vC,ta,QP⟩|⟨b,cap,aX,elem,rfl,vC,nG,qa,hle,yg,g1,g2⟩
  ·have e1:xs++ys=[]:=by rw[List.eq_nil_of_length_eq_zero ta,List.eq_nil_of_length_eq_zero QP];rfl
   rw[e1]
   exact .nil (by simp[Gh.cg,o7,vC,kk])
  ·refine NC.join na (by simp only[Gh.cg,if_true,o7];exact vC) ⟨hle,λhe=>yg (by have:=congrArg List.length he;simpa using this)⟩ (by simp[Gh.cg]) nG qa g1 g2
end
theorem dh.grow{G:Gh}{w w':World}{id b0 n cap sz:Nat}{p:List (Nat×Nat)}(hh:∀c q,G.ω c=some (.o id q)->c≠b0->w'.heap[c]?=w.heap[c]?)(hH:G.H id p=.slice (some ⟨b0,0,none⟩) n cap)
  (eT:G.ω b0=some (.o id p))(Qv:n<=cap){a0 a1:Array Value}{e0 e1:TypeId}(h0:w.heap[b0]?=some (.cells a0 e0 (0,0)))(hs0:a0.size=cap*sz)(h1:w'.heap[b0]?=some (.cells a1 e1 (0,0)))(jl:a1.size=a0.size)
  (ha:∀i j,i<n->j<sz->a1[i*sz+j]?=a0[i*sz+j]?){p0:List (Nat×Nat)}{t:T}{dp:Bool}(h:dh G w id dp p0 t)(eA:dp=true):dh G w' id dp p0 t:=by
 induction h with
 |nil h=>exact .nil h
 | @l dp p0 xs b wd ym aX elem cv g1 g2 g3 g4 g5 g6 g7 g8 g9 pD vk ih=>
  have hv:∀i j ys,cI xs i j=some (.l ys)->dp=true->dh G w' id true (p0++[(i,j)]) (.l ys):=λi j ys hy hd=>ih i j ys hy hd rfl
  by_cases hb:b=b0
  ·subst hb
   rw[eT]at g3
   cases g3
   rw[hH]at g1
   cases g1
   rw[h0]at g4
   cases g4
   refine .l hH g2 eT h1 (by rw[jl];exact g5) g6 (λi j t ht=>?_) g8 (λi j ys hy hd=>by rw[eA]at hd;cases hd) pD hv
   obtain⟨r,q1,q2,q3,q4,q5⟩:=pC ht
   have j5:0<cap:=by omega
   have lm:wd=sz:=Nat.eq_of_mul_eq_mul_left j5 (by rw[<-g5,hs0])
   subst lm
   have hr:=g6 r q2
   rw[ha i j q4 (by rw[<-hr];exact q5)]
   exact g7 i j t ht
  ·exact .l g1 g2 g3 ((hh b p0 g3 hb).trans g4) g5 g6 g7 g8 (λi j ys hy hd=>by rw[eA]at hd;cases hd) pD hv
theorem dh.flatten{G:Gh}{w:World}{id:Nat}{t:T}(h:dh G w id true [] t):dh (G.free id false) w id false [] t:=by
 cases h with
 |nil h=>exact .nil h
 | @l _ _ xs b wd cap aX elem cv h1 h2 h3 h4 h5 h6 h7 h8 h9 kf pU=>
  refine .l (cv:=cv) h1 h2 (by simp[Gh.free,h3]) h4 h5 h6 h7 h8 (λp j ys hy _=>?_) (λ_ _ _ _ hf=>by cases hf) (λ_ _ _ _ hf=>by cases hf)
  rw[kf p j ys hy rfl]
  exact(pU p j ys hy rfl).nx (by simp) rfl
section
variable {M:Nat->Prop} {B:dt} {d:Nat} {up:Nat->Nat->Value} {ρ:List T} {G:Gh} {a:Act} {w:World} {S:Nat->ay} {P:Program}
variable {cx:Cx} {bW dR oi:Nat} {s:St} {R:List aM} {ct:Ct} {k':Wk} {o:Oper} {Q:Exit->Act->World->Prop}
theorem QQ(cN:cW P cx)(h:Rel M B d up s ρ G a w)(hn:∀n,o.dst=some n->n<a.tmps.size){c:Call}{x y:Operand}(ho:o.op=.call c)(hc:c.callee=.builtin .append)(dv:c.args.toList=[x,y])
  {t tx:Nat}(aR:c.argTypes.toList=[t,tx]){ti tj te:TI}(ed:cx.ty t=some ti)(E6:cx.ty tx=some tj)(mM:cx.ty ti.el=some te)(oU:ti.kd=3)(hj3:tj.kd=3)(HM:te.bytes<=32768)(eY:0<te.sz)
  {k3:Wk}{r:Lf}(hA:A9 ⟨s.only R,[],ct,[]⟩ (te.zero.any dS) te.sz (bz d (Wk.get ⟨s.only R,[],ct,[]⟩) x) (bz d (Wk.get ⟨s.only R,[],ct,[]⟩) y)=some (k3,r))(hd:k3.aP S ρ):
  k3.ct.i=ct.i∧a_ P M B d up ρ a w s o (bm d o k3 (.v false [.p r])).w Q:=by
 have hw:=cC.start h R ct
 unfold A9 at hA
 split at hA
 ·rename_i id s0 q hx
  split at hA
  ·rename_i v hv
   cases uu:te.zero.any dS with
   |true=>simp[uu]at hA
   |false=>
   simp only[uu,cond_false,bQ,aJ,Prod.mk.injEq]at hA
   obtain⟨⟨kb,lb⟩,l9,rfl,rfl⟩:=hA
   obtain⟨hr,hm⟩:=hw.fH x
   rw[hx]at hr hm
   obtain⟨e,he,m_,_⟩:=hr
   cases he
   obtain⟨p,hp,E4⟩:=m_
   have rl:id%2=1:=by
    simp only[iY]at hp
    split at hp
    ·assumption
    ·cases hp
   have sm:=xX hp
   have QR:p≠[]:=by
    obtain⟨ix,wd,j⟩:=s0
    simp only[eK,bQ,aJ]at sm
    obtain⟨i,_,p',_,rfl⟩:=sm
    simp
   have yl:qt (.o id p)=false:=xV (ρ:=ρ) (.inr rl) (by omega)
   have cS:=hw.obj id
   rw[hv]at cS
   obtain⟨t0,wX,aT⟩:=cS
   obtain⟨rows,rfl⟩:∃ys,t0=.l ys:=by cases aT<;>exact⟨_,rfl⟩
   have vD:(kb.em (.app true te.sz) [(Wk.down ⟨s.only R,[],ct,[]⟩ v (s0::q)).2,lb]).1.aP S ρ:=hd
   obtain⟨An,rr,nY,jk⟩:=Wk.be vD
   have jl:=Wk.dD (s0::q) ⟨s.only R,[],ct,[]⟩ v
   obtain⟨BB,lZ,ty,hty,hdy⟩:=Wk.eM (hw.same jl) l9 An (hw.fH y).1
   obtain⟨u,hu,P4,Bs⟩:=Wk.fh (s0::q) _ v BB wX sm (.inr ⟨_,rfl⟩)
   obtain⟨xs,rfl⟩:=Bs.resolve_left (by simp)
   simp only[List.map_cons,List.map_nil,Lf.aZ P4,Lf.aZ hty]at nY
   obtain⟨ys,rfl,bH,kh,B3,QS,rfl⟩:=HQ nY
   have jr:dh G w id true p (.l xs):=by simpa using dh.jj p aT hu ⟨xs,rfl⟩
   have hT:=cN.ty _ _ ed
   have hE:=cN.ty _ _ mM
   obtain⟨i,z,qJ,l8,E2,w9,ri⟩:=hE.info
   have hut:=hT.sl oU
   have tq:z.cells.size=te.sz:=by
    have:=(Ae (G:=G) (w:=w) (ρ:=ρ) ri).1.length
    rw[hE.vi]at this
    simpa using this.symm
   obtain⟨cvy,s1,s2,s3,_⟩:=BW (P:=P) hdy eY QS ((cN.ty _ _ E6).sl hj3)
   have gK:∀b l,G.ω b=some l->b<w.heap.size:=λb l hb=>(h.fg b l hb).2
   obtain⟨tv,b0,nF,B4,QT,hwx⟩:∃(tv:Nat->Nat->Value) (b0:Option Nat),yu w te.sz (a.eval x) xs.length b0 tv∧(∀b,b0=some b->G.ω b=some (.o id p)∧∃cap a0 e0,G.H id p=.slice (some ⟨b,0,none⟩) xs.length cap∧xs.length<=cap∧w.heap[b]?=some (.cells a0 e0 (0,0))∧a0.size=cap*te.sz∧∀i j,i<xs.length->j<te.sz->a0[i*te.sz+j]?=some (tv i j))∧
     (∀i j t,cI xs i j=some t->(∀u,t=.c u->tv i j=u∧ib u=true)∧∀zs,t=.l zs->tv i j=G.H id (p++[(i,j)]))∧∀r∈xs,r.length=te.sz:=by
    cases jr with
    |nil hH=>exact⟨λ_ _=>undef,none,.inl ⟨by rw[E4,hH],rfl,rfl⟩,λb hb=>(by cases hb),λi j t h=>(by simp[cI]at h),λr hr=>(by cases hr)⟩
    | @l _ _ _ b wd cap aX elem cv g1 g2 g3 g4 g5 g6 g7 g8 g9 pD vk=>
     by_cases tl:xs=[]
     ·subst tl
      have j5:=g2.2 rfl
      subst j5
      refine⟨cv,some b,.inr ⟨b,0,aX,elem,by rw[E4,g1],rfl,g4,by rw[g5];simp,Nat.le_refl _,λ_=>rfl,λi j hi _=>by simp at hi⟩,λc hc=>?_,λi j t h=>(by simp[cI]at h),λr hr=>(by cases hr)⟩
      cases hc
      exact⟨g3,0,aX,elem,g1,Nat.le_refl _,g4,by rw[g5];simp,λi j hi _=>by simp at hi⟩
     ·have lm:wd=te.sz:=by
       cases xs with
       |nil=>exact absurd rfl tl
       |cons r xs=>rw[<-g6 r (by simp)];exact cK B3
      have pK:∀i j,i<xs.length->j<te.sz->aX[i*te.sz+j]?=some (cv i j):=λi j hi hj=>by
       obtain⟨t,aR⟩:=yr g6 hi (by rw[lm];exact hj)
       have:=g7 i j t aR
       rw[lm]at this
       exact this
      refine⟨cv,some b,.inr ⟨b,cap,aX,elem,by rw[E4,g1],rfl,g4,by rw[g5,lm],g2.1,λh0=>g2.2 (List.eq_nil_of_length_eq_zero h0),pK⟩,λc hc=>?_,λi j t aR=>⟨λu e=>by subst e;exact g8 i j u aR,λzs e=>by subst e;exact pD i j zs aR rfl⟩,λr hr=>by rw[g6 r hr,lm]⟩
      cases hc
      exact⟨g3,cap,aX,elem,g1,g2.1,g4,by rw[g5,lm],pK⟩
   obtain⟨v',w',nb,c_,fT⟩:=HL (P:=P) (w:=w) (ty:=o.type) hut qJ w9 l8 tq eY (by rw[E2];exact HM) nF s1 bH
   have eZ:(execOp a.eval o).run P w=.ok (.value v') w':=by
    refine EX ho hc ?_
    have hA:c.args=#[x,y]:=Array.ext' dv
    have hB:c.argTypes=#[t,tx]:=Array.ext' aR
    rw[hA,hB]
    show Sem.run P (do let v <-Builtin.append_ #[t,tx] o.type (#[x,y].map a.eval);pure (Next.value v)) w=_
    rw[Sem.run_bind]
    simp only[List.map_toArray,List.map_cons,List.map_nil]
    rw[c_];rfl
   have oA:∀c,nb=some c->c=w.heap.size∨(b0=some c∧G.ω c=some (.o id p)):=λc hc=>(fT.at_ c hc).1.imp_right λe=>⟨e,(B4 c e).1⟩
   have rq:∀b l,G.ω b=some l->l≠.o id p->w'.heap[b]?=w.heap[b]?:=λb l hb hl=>fT.yv b (gK b l hb) λe=>by
    rcases oA b e with h1|⟨_,h1⟩
    ·have:=gK b l hb;omega
    ·rw[hb]at h1;cases h1;exact hl rfl
   have Ao:dh G w' id true [] (.l rows):=by
    by_cases hs:∃b,nb=some b∧b0=some b
    ·obtain⟨b,e1,e2⟩:=hs
     obtain⟨g0,cap,a0,e0,g1,g2,g3,g4,g5⟩:=B4 b e2
     obtain⟨a1,e1',f1,f2⟩:=fT.len b e2 e1 _ _ _ g3
     rcases fT.row with⟨e3,_⟩|⟨b',oS,gg,vy,e3,_,nG,_,_,_,q1,_⟩
     ·rw[e1]at e3;cases e3
     ·rw[e1]at e3
      cases e3
      rw[f1]at nG
      cases nG
      exact aT.grow (λc q hc cP=>fT.yv c (gK c _ hc) λe=>cP (by rw[e1]at e;cases e;rfl)) g1 g0 g2 g3 g4 f1 f2 (λi j hi hj=>by rw[q1 i j hi hj,g5 i j hi hj]) rfl
    ·refine aT.PT rfl λc q hc=>fT.yv c (gK c _ hc) λe=>?_
     rcases oA c e with h1|⟨h1,_⟩
     ·have:=gK c _ hc;omega
     ·exact hs ⟨c,e,h1⟩
   have hK:cB (lY (dF d o (.v false [.p (kb.em (.app true te.sz) [(Wk.down ⟨s.only R,[],ct,[]⟩ v (s0::q)).2,lb]).2])++[(.o id,.ob false v)])) (λ_=>False) G w (G.free id false) w':=by
    refine⟨fT.size,λb hb h0=>⟨Gh.nw h0,fT.yv b hb λe=>?_⟩,λb _ h0=>Gh.fi h0,λb l hb hl=>?_,λi _=>⟨rfl,λ_ _=>rfl⟩⟩
    ·rcases oA b e with h1|⟨_,h1⟩
     ·omega
     ·exact z9 h1 yl h0
    ·have oZ:∀q,l≠.o id q:=λq e=>hl (by
      subst e
      show St.look _ (aM.o id)≠none
      rw[iS,pY];simp)
     refine⟨?_,rq b l hb (oZ p)⟩
     cases l with
     |f=>simp[Gh.free,hb]
     |x j=>simp[Gh.free,hb]
     |o j q'=>
      have:j≠id:=λe=>oZ q' (by rw[e])
      simp[Gh.free,hb,this]
   have cT:du (G.free id false).q w' (.l (xs++ys)) v':=by
    rcases fT.row with⟨_,vC,ta,QP⟩|⟨b,oS,gg,vy,e3,vC,nG,qa,hle,yg,q1,q2⟩
    ·rw[List.eq_nil_of_length_eq_zero ta,List.eq_nil_of_length_eq_zero QP,vC]
     exact .nil
    ·rw[vC,<-List.length_append]
     refine .l (wd:=te.sz) (cv:=λi j=>if i<xs.length then tv i j else cvy (i-xs.length) j) (λr hr=>?_) (by rw[List.length_append];exact hle) ?_ (z' nG) (λi j t aR=>?_) λi j t aR=>?_
     ·rcases List.mem_append.1 hr with hr|hr
      ·exact hwx r hr
      ·exact s2 r hr
     ·rcases oA b e3 with h1|⟨_,h1⟩
      ·exact s6 (Gh.fi (Hm h (by omega)))
      ·exact s6 (Gh.nv h1 rfl (.inr QR))
     ·rw[rf nG,Nat.zero_add]
      rcases BV aR with⟨hi,h1⟩|⟨hi,h1⟩
      ·obtain⟨r,g1,g2,g3,g4,g5⟩:=pC h1
       rw[if_pos hi,q1 i j hi (by rw[<-hwx r g2];exact g5)]
      ·obtain⟨r,g1,g2,g3,g4,g5⟩:=pC h1
       have:=q2 (i-xs.length) j g4 (by rw[<-s2 r g2];exact g5)
       rw[show xs.length+(i-xs.length)=i by omega]at this
       rw[if_neg (by omega),this]
     ·rcases BV aR with⟨hi,h1⟩|⟨hi,h1⟩
      ·rw[if_pos hi]
       obtain⟨f1,f2⟩:=QT i j t h1
       cases t with
       |c u=>obtain⟨e1,e2⟩:=f1 u rfl;rw[e1];exact .c e2
       |l zs=>
        rw[f2 zs rfl]
        have HS:dh G w' id true p (.l xs):=by simpa using dh.jj p Ao hu ⟨xs,rfl⟩
        have:=dh.jj [(i,j)] HS (by simp[fG,h1]) ⟨zs,rfl⟩
        exact this.nx (by simp) rfl
      ·rw[if_neg (by omega)]
       have cU:=kh rfl
       obtain⟨r,g1,g2,g3,g4,g5⟩:=pC h1
       have:dr t=true:=by
        have h3:=List.all_eq_true.1 cU r g2
        exact List.all_eq_true.1 h3 t (List.mem_of_getElem? g3)
       obtain⟨u,rfl⟩:=BA this
       obtain⟨e1,e2⟩:=(s3 _ _ _ h1).scalar
       rw[e1];exact .c e2
   have QU:∀A,v'≠.agg A:=by
    intro A e
    rcases fT.row with⟨_,vC,_⟩|⟨b,oS,_,_,_,vC,_⟩<;>rw[vC]at e<;>cases e
   have hM:M id:=hm id (by simp[cp,cJ])
   have hkb:=((hw.same jl).same lZ).same (Wk.aS kb (.app true te.sz) [(Wk.down ⟨s.only R,[],ct,[]⟩ v (s0::q)).2,lb])
   refine⟨by show kb.ct.i=ct.i;rw[lZ.i,jl.i],?_⟩
   simp only[a_,Oper.wp,eZ,Oper.upon]
   have QV:∃G',Rel M B d up (s.dT (bm d o ((kb.em (.app true te.sz) [(Wk.down ⟨s.only R,[],ct,[]⟩ v (s0::q)).2,lb]).1.set (.o id) (.ob false v)) (.v false [.p (kb.em (.app true te.sz) [(Wk.down ⟨s.only R,[],ct,[]⟩ v (s0::q)).2,lb]).2])).w) ρ G' (a.put o.dst v') w':=by
    refine⟨G.free id false,Af h hkb (W2:=dF d o (.v false [.p (kb.em (.app true te.sz) [(Wk.down ⟨s.only R,[],ct,[]⟩ v (s0::q)).2,lb]).2])++[(.o id,.ob false v)]) (BJ (W2:=[(.o id,.ob false v)]) λr=>by exact pH r)
     hK (λi hi=>hi.elim) (λi hi=>hi) (λn mN=>Ag mN) fT.so ?_⟩
    refine⟨λe n u he hl=>?_,λb u hl=>?_,λi u hl=>?_,λr u hl i hi=>?_,λi hi=>?_,λb l hb=>?_⟩
    ·rcases hZ hl with⟨n',eu,e1,rfl⟩|hl
     ·cases e1
      rw[eu,ET (hn n eu)]
      exact⟨_,rfl,⟨_,jk,cT⟩,QU⟩
     ·rcases gh hl with⟨e1,_⟩|hl
      ·cases e1
      ·cases hl
    ·rcases hZ hl with⟨n',eu,e1,rfl⟩|hl
     ·cases e1
     ·rcases gh hl with⟨e1,rfl⟩|hl
      ·cases e1
      ·cases hl
    ·rcases hZ hl with⟨n',eu,e1,rfl⟩|hl
     ·cases e1
     ·rcases gh hl with⟨e1,rfl⟩|hl
      ·cases e1
       exact⟨_,wX,Ao.flatten⟩
      ·cases hl
    ·rcases hZ hl with⟨n',eu,e1,rfl⟩|hl
     ·simp[cp,cJ]at hi
     ·rcases gh hl with⟨e1,rfl⟩|hl
      ·simp[cp]at hi
      ·cases hl
    ·have:∀r:aM,(r=.x i∨r=.o i)->St.look (dF d o (.v false [.p (kb.em (.app true te.sz) [(Wk.down ⟨s.only R,[],ct,[]⟩ v (s0::q)).2,lb]).2])++[(aM.o id,SV.ob false v)]) r≠none->i=id:=by
      intro r hr hl
      obtain⟨u,hu⟩:=Option.ne_none_iff_exists'.1 hl
      rcases hZ hu with⟨n',eu,e1,rfl⟩|hl
      ·rcases hr with rfl|rfl<;>cases e1
      ·rcases gh hl with⟨e1,rfl⟩|hl
       ·rcases hr with rfl|rfl
        ·cases e1
        ·cases e1;rfl
       ·cases hl
     rcases hi with hi|hi
     ·rw[this _ (.inl rfl) hi];exact hM
     ·rw[this _ (.inr rfl) hi];exact hM
    ·obtain⟨l',h1,h2⟩:∃l',G.ω b=some l'∧l'=l:=by
      simp only[Gh.free]at hb
      split at hb
      ·split at hb
       ·cases hb
       ·rename_i E3 _;exact⟨_,E3,Option.some.inj hb⟩
      ·exact⟨_,hb,rfl⟩
     subst h2
     exact⟨(h.fg b _ h1).1,Nat.lt_of_lt_of_le (h.fg b _ h1).2 fT.size⟩
   obtain⟨G',hG'⟩:=QV
   exact⟨G',hG',ul _ _ _⟩
  ·cases hA
 ·cases hA
end
theorem HT{us:List (List T)}{n k:Nat}(h:n+k<=us.length):(z0 us n k).length=us.length:=by
 simp only[z0,List.length_append,List.length_take,List.length_replicate,List.length_drop];omega
theorem HU{us:List (List T)}{n k i:Nat}{r:List T}(h:n+k<=us.length)(hg:(z0 us n k)[i]?=some r)(hr:r≠[]):us[i]?=some r∧(i<n∨n+k<=i):=by
 unfold z0 at hg
 by_cases h1:i<n
 ·rw[List.append_assoc,List.getElem?_append_left (by rw[List.length_take];omega),List.getElem?_take,if_pos h1]at hg
  exact⟨hg,.inl h1⟩
 ·rw[List.append_assoc,List.getElem?_append_right (by rw[List.length_take];omega)]at hg
  have hl:(us.take n).length=n:=by rw[List.length_take];omega
  rw[hl]at hg
  by_cases h2:i<n+k
  ·rw[List.getElem?_append_left (by rw[List.length_replicate];omega),List.getElem?_replicate]at hg
   split at hg
   ·cases hg;exact absurd rfl hr
   ·cases hg
  ·rw[List.getElem?_append_right (by rw[List.length_replicate];omega),List.length_replicate,List.getElem?_drop]at hg
   rw[show n+k+(i-n-k)=i by omega]at hg
   exact⟨hg,.inr (by omega)⟩
theorem HV{us:List (List T)}{n k i:Nat}(h:n+k<=us.length)(hf:uT us n k=true)(hi:i<k):∃r,us[n+i]?=some r∧r≠[]:=by
 have bH:n+i<us.length:=by omega
 refine⟨us[n+i],List.getElem?_eq_getElem bH,λhe=>?_⟩
 have hm:us[n+i]∈(us.drop n).take k:=by
  refine List.mem_of_getElem? (i:=i) ?_
  rw[List.getElem?_take,if_pos hi,List.getElem?_drop]
  exact List.getElem?_eq_getElem bH
 have:=List.all_eq_true.1 hf _ hm
 rw[he]at this
 cases this
theorem QW{m lo y r:T}(h:Prim.ev .rZ [m,lo,y]=some r):∃us kk n ys,m=.l us∧lo=.c (.int kk n)∧0<=n∧y=.l ys∧n.toNat+ys.length<=us.length∧uT us n.toNat ys.length=true∧r=.l (z0 us n.toNat ys.length):=by
 cases m with
 |c v=>simp[Prim.ev]at h
 |l us=>
  cases lo with
  |l _=>simp[Prim.ev]at h
  |c v=>
   cases v with
   |int kk n=>
    cases y with
    |c _=>simp[Prim.ev]at h
    |l ys=>
     simp only[Prim.ev]at h
     split at h
     ·split at h
      ·split at h
       ·cases h
        exact⟨us,kk,n,ys,rfl,rfl,by assumption,rfl,by assumption,by assumption,rfl⟩
       ·cases h
      ·cases h
     ·cases h
   |_=>cases y<;>simp[Prim.ev]at h
section
variable {M M':Nat->Prop} {B:dt} {d:Nat} {up:Nat->Nat->Value} {ρ:List T} {G:Gh} {a:Act} {w:World} {S:Nat->ay} {P:Program} {s:St}
theorem Rel.HW(h:Rel M B d up s ρ G a w){G':Gh}{W:St}{N:Nat->Prop}(k:cB (lY W) N G w G' w)(hN:∀i,N i->¬M i)(hM:∀i,M i->M' i)
  (hW:∀r u,W.look r=some u->∃i,r=.o i∧bZ G' w ρ i u∧M' i∧∀j∈cp u,M' j)(fg:∀b l,G'.ω b=some l->M' l.id∧b<w.heap.size):Rel M' B d up (s.dT W) ρ G' a w:=by
 have ha:a.put none undef=a:=rfl
 rw[<-ha]
 refine h.step (v:=undef) k hN hM (λn hn=>by cases hn) ⟨rfl,rfl,rfl⟩ ⟨λe n u _ hl=>?_,λb u hl=>?_,λi u hl=>?_,λr u hl j hj=>?_,λi hi=>?_,fg⟩
 ·obtain⟨i,e1,_⟩:=hW _ _ hl;cases e1
 ·obtain⟨i,e1,_⟩:=hW _ _ hl;cases e1
 ·obtain⟨j,e1,e2,_⟩:=hW _ _ hl;cases e1;exact e2
 ·obtain⟨i,_,_,_,e4⟩:=hW _ _ hl;exact e4 j hj
 ·rcases hi with hi|hi
  ·obtain⟨u,hu⟩:=Option.ne_none_iff_exists'.1 hi
   obtain⟨j,e1,_⟩:=hW _ _ hu;cases e1
  ·obtain⟨u,hu⟩:=Option.ne_none_iff_exists'.1 hi
   obtain⟨j,e1,_,e3,_⟩:=hW _ _ hu;cases e1;exact e3
def Gh.eJ(G:Gh)(tk j n k:Nat):Gh where
 ω:=λb=>match G.ω b with
  |some (.o i ((r,c)::p))=>if i=tk∧n<=r∧r<n+k then some (.o j ((r-n,c)::p))else some (.o i ((r,c)::p))
  |l=>l
 β:=G.β
 H:=λi p=>if i=j then(match p with| []=>G.H j []|(r,c)::p=>G.H tk ((n+r,c)::p))else G.H i p
 hs:=λi p=>by
  by_cases h:i=j
  ·subst h
   cases p with
   |nil=>simp only[if_true];exact G.hs i []
   |cons x p=>obtain⟨r,c⟩:=x;simp only[if_true];exact G.hs tk _
  ·simp only[h,if_false];exact G.hs i p
theorem QX{tk j n k:Nat}(h4:j%4=0){I:Lb->Prop}(hI:∀p,I (.o tk p))(hJ:∀p,I (.o j p)):cB I (λ_=>False) G w (G.eJ tk j n k) w:=by
 refine⟨Nat.le_refl _,λb _ hb=>⟨z_ hb (λh0=>by simp[Gh.eJ,h0]) λl hl hq=>?_,rfl⟩,λb _ hb=>by simp[Gh.eJ,hb],λb l hl hn=>⟨?_,rfl⟩,λi _=>⟨rfl,λp hp=>?_⟩⟩
 ·cases l with
  |o i p=>
   cases p with
   |nil=>exact .inr ⟨_,by simp[Gh.eJ,hl],hq⟩
   |cons x p=>
    obtain⟨r,c⟩:=x
    simp only[Gh.eJ,hl]
    split
    ·exact .inr ⟨_,rfl,pS (by omega) (by simp)⟩
    ·exact .inr ⟨_,rfl,hq⟩
  |_=>simp[qt]at hq
 ·cases l with
  |o i p=>
   cases p with
   |nil=>simp[Gh.eJ,hl]
   |cons x p=>
    obtain⟨r,c⟩:=x
    have:i≠tk:=λe=>hn (e▸hI _)
    simp[Gh.eJ,hl,this]
  |_=>simp[Gh.eJ,hl]
 ·by_cases hi:i=j
  ·subst hi
   rcases hp with rfl|hp|hp
   ·simp[Gh.eJ]
   ·exact absurd h4 hp
   ·exact absurd (hJ []) (hp [])
  ·simp[Gh.eJ,hi]
theorem QY{kA xc kx:Wk}{G1:Gh}{WA:St}{Y:SV}(hk:cC M B d up ρ G a w kx G1)(ho:i_ kA kx WA)(qb:∀r u,WA.look r=some u->u=.un)
  (h:kA.eJ Y=some xc)(hd:xc.aP S ρ):
  kA.aP S ρ∧xc.ct.i=kA.ct.i∧∃xd G2,cC M B d up ρ G a w xd G2∧i_ xc xd WA∧cB (λl=>∃i p,l=.o i p∧WA.look (.o i)=none) (λ_=>False) G1 w G2 w∧∀i,G2.H i []=G1.H i []:=by
 unfold Wk.eJ at h
 split at h
 ·rename_i j
  split at h
  ·rename_i tk x0 lo y hj
   split at h
   ·rename_i y0 m yz
    cases hc:(x0.beq y0&&Nat.beq (j%4) 0)with
    |false=>simp[hc]at h
    |true=>
     simp only[hc,cond_true,aJ]at h
     simp only[bB]at hc
     have HX:=Lf.beq_eq hc.1
     subst HX
     have hj4:j%4=0:=cK hc.2
     subst h
     have cd:∀{i:Nat} {u:SV},kA.get (.o i)=u->u≠.un->WA.look (.o i)=none:=by
      intro i u hu cP
      cases hl:WA.look (.o i)with
      |none=>rfl
      |some u'=>
       exfalso
       have:=qb _ _ hl
       subst this
       refine cP ?_
       rw[<-hu]
       unfold Wk.get
       rw[ho.2,hl];simp
     have ND:=cd hj (by simp)
     have lS:=cd yz (by simp)
     have eo:(kA.em .rZ [m,lo,y]).1.aP S ρ:=hd
     obtain⟨vD,r,hr,jk⟩:=Wk.be eo
     have obj:=hk.obj j
     have HY:=hk.obj tk
     rw[<-ho.get ND,hj]at obj
     rw[<-ho.get lS,yz]at HY
     obtain⟨t,ht,cT,h2,F,n,zs,hF,l7,rfl,tq,pW,_⟩:=obj
     obtain⟨_,F',u,HZ,hu,hlen,ki⟩:=HY
     rw[hF]at HZ
     cases HZ
     simp only[List.map_cons,List.map_nil,Lf.aZ ht,Lf.aZ hu]at hr
     obtain⟨us,kk,n',ys,e1,e2,h0,e3,hle,lT,rfl⟩:=QW hr
     cases e1
     cases e3
     have eu:n'.toNat=n:=by
      unfold jT at l7
      split at l7
      ·rename_i k2 n2 oZ
       have:=Lf.aZ oZ
       rw[this]at e2
       cases e2
       rw[if_pos h0]at l7
       exact Option.some.inj l7
      ·cases l7
     rw[eu]at hle lT jk
     have hjt:j≠tk:=by omega
     let xd:Wk:={kx with w:=(kx.w.set (.o tk) (.tk x0 (kA.em .rZ [m,lo,y]).2)).set (.o j) (.fr y)}
     let G2:=G1.eJ tk j n zs.length
     have key:∀i p,(i=tk∨i=j)->lY [(aM.o j,SV.fr y),(aM.o tk,SV.tk x0 (kA.em .rZ [m,lo,y]).2)] (.o i p):=by
      intro i p hi
      show St.look _ (aM.o i)≠none
      rcases hi with rfl|rfl
      ·simp only[St.look]
       cases(aM.o j).beq (.o i)<;>simp[(aM.beq_iff (r:=aM.o i)).2 rfl]
      ·simp[St.look,(aM.beq_iff (r:=aM.o i)).2 rfl]
     have K:cB (lY [(aM.o j,SV.fr y),(aM.o tk,SV.tk x0 (kA.em .rZ [m,lo,y]).2)]) (λ_=>False) G1 w G2 w:=
      QX hj4 (λp=>key tk p (.inl rfl)) λp=>key j p (.inr rfl)
     have Mj:M j:=hk.rel.key j (.inr (by rw[<-Wk.aE,<-ho.get ND,hj];simp))
     have Mt:M tk:=hk.rel.key tk (.inr (by rw[<-Wk.aE,<-ho.get lS,yz];simp))
     have rel:=hk.rel.HW (M':=M) K (λi hf=>hf.elim) (λi hi=>hi) (λr u' hl=>by
      rcases gh hl with⟨e1,e2⟩|hl
      ·subst e1 e2
       refine⟨j,rfl,?_,Mj,λi hi=>by simp[cp]at hi⟩
       refine⟨hj4,zs,ht,?_,?_,λi c l' aR=>?_⟩
       ·have:G2.H j []=G1.H j []:=by simp[G2,Gh.eJ]
        rw[this];exact cT.aG K.size K.free
       ·have:G2.H j []=G1.H j []:=by simp[G2,Gh.eJ]
        rw[this]
        intro b off k2 c2 hv
        obtain⟨wd,w1,w2⟩:=pW b off k2 c2 hv
        refine⟨wd,w1,λi c l' aR=>?_⟩
        rw[w2 i c l' aR]
        simp[G2,Gh.eJ]
       ·obtain⟨row,eV,_,oC,Ht,_⟩:=pC aR
        obtain⟨r',mL,pE⟩:=HV hle lT Ht
        obtain⟨g1,g2⟩:=ki _ _ mL pE
        rw[tq i row eV]at g1
        cases g1
        refine(g2 c l' oC).move rfl (λb q hb=>⟨?_,rfl⟩) λq=>?_
        ·simp only[List.cons_append,List.nil_append]at hb⊢
         simp only[G2,Gh.eJ,hb]
         rw[if_pos (by refine⟨?_,?_,?_⟩<;>first|trivial|omega),show n+i-n=i by omega]
        ·simp[G2,Gh.eJ]
      ·rcases gh hl with⟨e1,e2⟩|hl
       ·subst e1 e2
        refine⟨tk,rfl,⟨h2,F,_,hF,jk,by rw[HT hle];exact hlen,λi r hg cP=>?_⟩,Mt,λi hi=>by simp[cp]at hi⟩
        obtain⟨g1,g2⟩:=HU hle hg cP
        obtain⟨g3,g4⟩:=ki i r g1 cP
        refine⟨g3,λc l' oC=>(g4 c l' oC).move rfl (λb q hb=>⟨?_,rfl⟩) λq=>?_⟩
        ·simp only[List.cons_append,List.nil_append]at hb⊢
         simp only[G2,Gh.eJ,hb]
         rw[if_neg (by omega)]
        ·simp[G2,Gh.eJ,Ne.symm hjt]
       ·cases hl) λb l hb=>by
      cases hg:G1.ω b with
      |none=>simp[G2,Gh.eJ,hg]at hb
      |some l0=>
       have qe:=hk.rel.fg b l0 hg
       refine⟨?_,qe.2⟩
       cases l0 with
       |o i p=>
        cases p with
        |nil=>simp[G2,Gh.eJ,hg]at hb;subst hb;exact qe.1
        |cons x p=>
         obtain⟨r,c⟩:=x
         simp only[G2,Gh.eJ,hg]at hb
         split at hb
         ·cases hb;exact Mj
         ·cases hb;exact qe.1
       |_=>simp[G2,Gh.eJ,hg]at hb;subst hb;exact qe.1
     have hgx:∀r,(kx.r.dT xd.w).get r=((kx.r.dT kx.w).dT [(aM.o j,SV.fr y),(aM.o tk,SV.tk x0 (kA.em .rZ [m,lo,y]).2)]).get r:=by
      intro r
      show(kx.r.dT ((kx.w.set (.o tk) _).set (.o j) _)).get r=_
      rw[Ab]
      simp only[St.dT]
      by_cases h1:aM.o j=r
      ·subst h1;rw[St.bg,St.bg]
      ·rw[St.c9 _ _ h1,St.c9 _ _ h1,Ab]
     have look:∀(K0:Wk) (v1 v2:SV) (r:aM),((K0.w.set (.o tk) v1).set (.o j) v2).look r=if aM.o j=r then some v2 else if aM.o tk=r then some v1 else K0.w.look r:=by
      intro K0 v1 v2 r
      by_cases h1:aM.o j=r
      ·subst h1;rw[if_pos rfl,St.aK]
      ·rw[if_neg h1,St.bJ _ _ h1]
       by_cases h2:aM.o tk=r
       ·subst h2;rw[if_pos rfl,St.aK]
       ·rw[if_neg h2,St.bJ _ _ h2]
     refine⟨vD,rfl,xd,G2,⟨rel.congr hgx,?_⟩,⟨ho.1,λr=>?_⟩,K.mono ?_ λ_ hf=>hf,λi=>?_⟩
     ·refine(hk.aG.mono (λl hl=>?_) λ_ hf=>hf).trans (K.mono (λl hl=>?_) λ_ hf=>hf)
      ·exact Aa (Aa hl)
      ·cases l with
       |o i p=>
        show((kx.w.set (.o tk) _).set (.o j) _).look (.o i)≠none
        rw[look]
        split
        ·simp
        ·split
         ·simp
         ·rename_i h1 h2
          exfalso
          refine hl ?_
          simp only[St.look]
          have b1:(aM.o j).beq (.o i)=false:=by
           cases hb:(aM.o j).beq (.o i)with
           |false=>rfl
           |true=>exact absurd (aM.beq_iff.1 hb) h1
          have b2:(aM.o tk).beq (.o i)=false:=by
           cases hb:(aM.o tk).beq (.o i)with
           |false=>rfl
           |true=>exact absurd (aM.beq_iff.1 hb) h2
          simp[b1,b2]
       |f=>exact hl.elim
       |x b=>exact absurd rfl (by exact hl)
     ·show(((kA.em .rZ [m,lo,y]).1.w.set (.o tk) _).set (.o j) _).look r=(WA.look r).or (((kx.w.set (.o tk) _).set (.o j) _).look r)
      rw[look (kA.em .rZ [m,lo,y]).1,look kx]
      by_cases h1:aM.o j=r
      ·subst h1;simp[ND]
      ·rw[if_neg h1,if_neg h1]
       by_cases h2:aM.o tk=r
       ·subst h2;simp[lS]
       ·rw[if_neg h2,if_neg h2];exact ho.2 r
     ·intro l hl
      cases l with
      |o i p=>
       refine⟨i,p,rfl,?_⟩
       have hh:i=j∨i=tk:=by
        by_cases h1:i=j
        ·exact .inl h1
        ·by_cases h2:i=tk
         ·exact .inr h2
         ·exfalso
          refine hl ?_
          have b1:(aM.o j).beq (.o i)=false:=by
           cases hb:(aM.o j).beq (.o i)with
           |false=>rfl
           |true=>have:=aM.beq_iff.1 hb;cases this;exact absurd rfl h1
          have b2:(aM.o tk).beq (.o i)=false:=by
           cases hb:(aM.o tk).beq (.o i)with
           |false=>rfl
           |true=>have:=aM.beq_iff.1 hb;cases this;exact absurd rfl h2
          simp[St.look,b1,b2]
       rcases hh with rfl|rfl
       ·exact ND
       ·exact lS
      |f=>exact hl.elim
      |x b=>exact absurd rfl hl
     ·by_cases hi:i=j
      ·subst hi;simp[G2,Gh.eJ]
      ·simp[G2,Gh.eJ,hi]
   ·cases h
  ·cases h
 ·cases h
end
section
variable {M:Nat->Prop} {B:dt} {d:Nat} {up:Nat->Nat->Value} {ρ:List T} {G:Gh} {a:Act} {w:World} {S:Nat->ay} {P:Program}
variable {cx:Cx} {bW dR oi:Nat} {s:St} {R:List aM} {ct:Ct} {k':Wk} {o:Oper} {Q:Exit->Act->World->Prop}
theorem QZ(cN:cW P cx)(h:Rel M B d up s ρ G a w)(hn:∀n,o.dst=some n->n<a.tmps.size){c:Call}{x y:Operand}(ho:o.op=.call c)(hc:c.callee=.builtin .append)(dv:c.args.toList=[x,y])
  (hk:gb cx bW dR d o oi ⟨s.only R,[],ct,[]⟩=some k')(hd:k'.aP S ρ)(hM:∀i,ct.i<=i->i<k'.ct.i->¬M i):a_ P (Mn M ct.i k'.ct.i) B d up ρ a w s o k'.w Q:=by
 have hw:=cC.start h R ct
 simp only[gb,ho,hc,dv]at hk
 split at hk
 ·rename_i t tx aR
  simp only[bQ]at hk
  obtain⟨ti,ed,tj,E6,te,mM,hk⟩:=hk
  cases Ap:(Nat.beq ti.kd 3&&Nat.beq tj.kd 3&&Nat.ble te.bytes 32768&&Nat.blt 0 te.sz)with
  |false=>simp[Ap]at hk
  |true=>
   simp only[Ap,cond_true]at hk
   simp only[bB]at Ap
   obtain⟨⟨⟨c1,c2⟩,c3⟩,c4⟩:=Ap
   split at hk
   ·rename_i rN hN
    have hk:bm d o rN.1 (.v false [.p rN.2])=k':=Option.some.inj hk
    subst hk
    have g:=QQ (Q:=Q) cN h hn ho hc dv aR ed E6 mM (cK c1) (cK c2) (Nat.le_of_ble_eq_true c3) (Nat.lt_of_succ_le (by simpa[Nat.blt]using c4)) (k3:=rN.1) (r:=rN.2) hN (b_.1 hd)
    exact g.2.mono λi hi=>.inl hi
   simp only[bQ,aJ]at hk
   obtain⟨⟨kA,la,Am⟩,hA,⟨kB,lb,w_⟩,hB,hk⟩:=hk
   simp only at hB hk
   have eY:0<te.sz:=Nat.lt_of_succ_le (by simpa[Nat.blt]using c4)
   have dN:bm d o {(kB.em (.app (!te.zero.any dS) te.sz) [la,lb]).1.set (.o (dy kB.ct.i)) (.ob (Am&&w_) (kB.em (.app (!te.zero.any dS) te.sz) [la,lb]).2)with
     ct:=⟨(kB.em (.app (!te.zero.any dS) te.sz) [la,lb]).1.ct.a,dy kB.ct.i+1⟩} (.v false [.o (dy kB.ct.i) []])=k':=hk
   have eo:(kB.em (.app (!te.zero.any dS) te.sz) [la,lb]).1.aP S ρ:=by
    rw[<-dN]at hd
    have h2:=b_.1 hd
    exact h2
   obtain⟨hdB,r,hr,jk⟩:=Wk.be eo
   obtain⟨q1,q2,kx,G2,WA,xs,wA,adU,B6,hla,qb⟩:=QD (iT:=Am&&w_) hw (hw.fH x).1 (hw.fH x).2 hA (λhe=>by simp at he;exact he.1)
   have H0:∀r u,WA.look r=some u->u=.un:=by
    intro r u hu
    rcases qb with⟨_,_,rfl⟩|⟨j,rfl,_⟩
    ·cases hu
    ·rcases gh hu with⟨_,e2⟩|hl
     ·exact e2
     ·cases hl
   have hB0:∃xc,kA.qZ (te.zero.any dS&& !cx.fz bW dR oi) (bz d (Wk.get ⟨s.only R,[],ct,[]⟩) y)=xc:=⟨_,rfl⟩
   obtain⟨xc,vE⟩:=hB0
   rw[vE]at hB
   have Q0:xc.aP S ρ:=QE hB hdB
   obtain⟨q1',kx,G2,wA,B6,qb⟩:xc.ct.i=kA.ct.i∧∃xd E1,cC M B d up ρ G a w xd E1∧i_ xc xd WA∧
     ((a.eval x=.slice none 0 0∧xs=[]∧WA=[])∨∃jm,WA=[(.o jm,.un)]∧M jm∧jm%4≠2∧a.eval x=E1.H jm []∧dh E1 w jm (Am&&w_) [] (.l xs)):=by
    unfold Wk.qZ at vE
    split at vE
    ·rename_i kz hz
     subst vE
     have hz':kA.eJ (bz d (Wk.get ⟨s.only R,[],ct,[]⟩) y)=some kz:=by
      cases hb:(te.zero.any dS&& !cx.fz bW dR oi)with
      |true=>rw[hb]at hz;exact hz
      |false=>rw[hb]at hz;cases hz
     obtain⟨_,g2,xd,E1,g3,g4,g5,g6⟩:=QY wA B6 H0 hz' Q0
     refine⟨g2,xd,E1,g3,g4,qb.imp_right ?_⟩
     rintro⟨j,e1,e2,e3,e4,e5⟩
     subst e1
     refine⟨j,rfl,e2,e3,by rw[g6];exact e4,e5.aG g5 (λp hp=>?_) λhf=>hf⟩
     obtain⟨i',p',f1,f2⟩:=hp
     cases f1
     rw[pY]at f2
     simp at f2
    ·subst vE
     exact⟨rfl,kx,G2,wA,B6,qb⟩
   have hy:bY G2 w ρ (bz d (Wk.get ⟨s.only R,[],ct,[]⟩) y) (a.eval y):=(hw.fH y).1.aG wA.aG λ_ _ hf=>hf
   obtain⟨_,p2,ky,G3,WB,t2,ku,wB,B7,HR,Q5,Hy,kp,_,l_⟩:=QF (iT:=Am&&w_) (P:=P) wA B6 H0 hy (hw.fH y).2 hB hdB (λhe=>by simp at he;exact he.2)
   simp only[List.map_cons,List.map_nil,Lf.aZ hla,Lf.aZ Q5]at hr
   obtain⟨ys,rfl,bH,kh,B8,Q7,rfl⟩:=HQ hr
   have o6:=(cN.ty _ _ E6).sl (cK c2)
   obtain⟨cv,s1,s2,s3⟩:=l_ ys te.sz tx tj.el rfl eY Q7 (λhf=>kh (by rw[hf];rfl)) o6
   have iQ:kB.ct.i=ct.i:=by rw[p2,q1',q1]
   have mX:k'.ct.i=dy ct.i+1:=by rw[<-dN,ll,<-iQ]
   have lA:=uX ct.i
   rw[mX,<-dN,<-iQ]
   refine a_.mono (M:=Mn M (dy kB.ct.i) (dy kB.ct.i+1)) ?_ (λi hi=>hi.imp_right λhi=>by rw[iQ]at hi⊢;exact⟨by omega,hi.2⟩)
   refine QM (k5:={(kB.em (.app (!te.zero.any dS) te.sz) [la,lb]).1 with ct:=⟨(kB.em (.app (!te.zero.any dS) te.sz) [la,lb]).1.ct.a,dy kB.ct.i⟩}) (jm:=WA.head?.bind λz=>match z.1 with| .o j=>some j|_=>none) (WA:=WA) (WB:=WB) (G3:=G3) cN ed E6 mM (cK c1) (cK c2) (Nat.le_of_ble_eq_true c3) eY
    h hn ho hc dv aR wB ⟨(B7.same (Wk.aS kB (.app (!te.zero.any dS) te.sz) [la,lb])).1,(B7.same (Wk.aS kB (.app (!te.zero.any dS) te.sz) [la,lb])).2⟩ (B0 _) (hM _ (by show ct.i<=dy kB.ct.i;rw[iQ];exact lA) (by rw[mX];show dy kB.ct.i<_;rw[iQ];omega)) ?_ HR B8 bH (e':=tj.el) s1 s2 s3 jk (λr'=>?_)
   ·rcases qb with⟨e1,e2,e3⟩|⟨j,e1,e2,e22,e3,e4⟩
    ·left
     subst e3
     exact⟨rfl,rfl,e1,e2⟩
    ·right
     subst e1
     refine⟨j,rfl,rfl,e2,e22,by rw[Hy];exact e3,e4.aG kp (λp hp=>?_) λhf=>hf⟩
     obtain⟨i',p',e5,e6⟩:=hp
     cases e5
     rw[pY]at e6
     simp at e6
   ·show((kB.em (.app (!te.zero.any dS) te.sz) [la,lb]).1.w.set (.o (dy kB.ct.i)) _).look r'=_
    rw[show((kB.em (.app (!te.zero.any dS) te.sz) [la,lb]).1.w.set (.o (dy kB.ct.i)) (.ob (Am&&w_) (kB.em (.app (!te.zero.any dS) te.sz) [la,lb]).2)).look r'=_ from pH (k:=(kB.em (.app (!te.zero.any dS) te.sz) [la,lb]).1) r']
    rw[show(Wk.w (kB.em (.app (!te.zero.any dS) te.sz) [la,lb]).1).look r'=kB.w.look r' from rfl,B7.2 r',<-Option.or_assoc]
    congr 1
    show _=St.look ((aM.o (dy kB.ct.i),_)::(WB++WA)) r'
    simp only[St.look]
    cases(aM.o (dy kB.ct.i)).beq r'<;>simp
 ·cases hk
def o8(ω:Nat->Option Lb)(w:World)(ρ:List T)(dp:Bool):List Ce->List Lf->List Value->Prop
 | [],[],[]=>True
 |z::zs,x::xs,v::vs=>(∃t,x.ej ρ=some t∧du ω w t v∧(dp=true->dS z=true->t=.l []∧v=.slice none 0 0))∧o8 ω w ρ dp zs xs vs
 |_,_,_=>False
theorem o8.aG{ω ra:Nat->Option Lb}{w':World}(hs:w.heap.size<=w'.heap.size)(hf:∀b,b<w.heap.size->ω b=none->ra b=none∧w'.heap[b]?=w.heap[b]?){dp qE:Bool}(hd:qE=true->dp=true):
  ∀{zs:List Ce} {xs:List Lf} {vs:List Value},o8 ω w ρ dp zs xs vs->o8 ra w' ρ qE zs xs vs
 | [],[],[],_=>trivial
 |_::_,_::_,_::_,h=>by
  obtain⟨⟨t,h1,h2,h3⟩,h4⟩:=h
  exact⟨⟨t,h1,h2.aG hs hf,λe=>h3 (hd e)⟩,o8.aG hs hf hd h4⟩
 | [],[],_::_,h=>h.elim
 | [],_::_,_,h=>h.elim
 |_::_,[],_,h=>h.elim
 |_::_,_::_,[],h=>h.elim
theorem H2:∀{zs cs:List Ce} {vs:List Value} {k k1:Wk} {xs:List Lf} {dp:Bool} {G1:Gh},cC M B d up ρ G a w k G1->aF G1 w ρ cs vs->k.eh true zs cs=some (k1,xs,dp)->
  k1.ct=k.ct∧k1.is=k.is∧xs.length=zs.length∧∃G2,cC M B d up ρ G a w k1 G2∧G2.H=G1.H∧(∀b,G1.q b=none->G2.q b=none)∧o8 G2.q w ρ dp zs xs vs
 | [],[],vs,k,k1,xs,dp,G1,hk,hr,h=>by
  simp only[Wk.eh,aJ,Prod.mk.injEq]at h
  obtain⟨rfl,rfl,rfl⟩:=h
  cases vs with
  |nil=>exact⟨rfl,rfl,rfl,G1,hk,rfl,λ_ h=>h,trivial⟩
  |cons _ _=>exact hr.elim
 |z::zs,.p x::cs,vs,k,k1,xs,dp,G1,hk,hr,h=>by
  cases vs with
  |nil=>exact hr.elim
  |cons v vs=>
   simp only[Wk.eh,bQ,aJ,Prod.mk.injEq]at h
   obtain⟨⟨k2,ys,Q9⟩,h2,rfl,rfl,rfl⟩:=h
   obtain⟨e1,e2,e3,G2,w2,e4,e5,e6⟩:=H2 hk hr.2 h2
   obtain⟨t,ht,hd⟩:=hr.1
   refine⟨e1,e2,by simp[e3],G2,w2,e4,e5,⟨t,ht,hd.aG (Nat.le_refl _) λb _ hb=>⟨e5 b hb,rfl⟩,λeA hz=>by simp[hz]at eA⟩,e6.aG (Nat.le_refl _) (λb _ hb=>⟨hb,rfl⟩) λeA=>by simp at eA;exact eA.1⟩
 |z::zs,.n::cs,vs,k,k1,xs,dp,G1,hk,hr,h=>by
  cases vs with
  |nil=>exact hr.elim
  |cons v vs=>
   simp only[Wk.eh,bQ,aJ,Prod.mk.injEq]at h
   obtain⟨⟨k2,ys,Q9⟩,h2,rfl,rfl,rfl⟩:=h
   obtain⟨e1,e2,e3,G2,w2,e4,e5,e6⟩:=H2 hk hr.2 h2
   have hv:v=.slice none 0 0:=hr.1
   subst hv
   exact⟨e1,e2,by simp[e3],G2,w2,e4,e5,⟨.l [],rfl,.nil,λ_ _=>⟨rfl,rfl⟩⟩,e6⟩
 |z::zs,.o id []::cs,vs,k,k1,xs,dp,G1,hk,hr,h=>by
  cases vs with
  |nil=>exact hr.elim
  |cons v vs=>
   obtain⟨⟨p,hp,hv⟩,pE⟩:=hr
   simp only[ke,aJ]at hp
   subst hp
   have cS:=hk.obj id
   simp only[Wk.eh]at h
   split at h
   ·rename_i pv x hx
    simp only[bQ,aJ,Prod.mk.injEq]at h
    obtain⟨⟨k2,ys,Q9⟩,h2,rfl,rfl,rfl⟩:=h
    obtain⟨e1,e2,e3,G2,w2,e4,e5,e6⟩:=H2 hk pE h2
    rw[hx]at cS
    obtain⟨t,ht,hd,_⟩:=cS
    rw[<-hv]at hd
    exact⟨e1,e2,by simp[e3],G2,w2,e4,e5,⟨t,ht,hd.aG (Nat.le_refl _) λb _ hb=>⟨e5 b hb,rfl⟩,λeA=>by cases eA⟩,e6.aG (Nat.le_refl _) (λb _ hb=>⟨hb,rfl⟩) λeA=>by cases eA⟩
   ·rename_i dd x hx
    simp only[cond_true,bQ,aJ,Prod.mk.injEq]at h
    obtain⟨⟨k2,ys,Q9⟩,h2,rfl,rfl,rfl⟩:=h
    have BZ:=hx
    rw[Wk.aE]at BZ
    have wt:cC M B d up ρ G a w (k.set (.o id) (.fz .z x)) (G1.free id true):=by
     refine⟨(hk.rel.jY BZ).congr (Ab _ _ _ _),(hk.aG.mono (λl hl=>Aa hl) λ_ hn=>hn).trans ((G1.dY id true w).mono ?_ λ_ hn=>hn)⟩
     rintro l ⟨p,rfl⟩
     show(k.w.set _ _).look (.o id)≠none
     rw[St.aK];simp
    rw[hx]at cS
    obtain⟨t,ht,aT⟩:=cS
    have hd:du (G1.free id true).q w t v:=by rw[hv];exact aT.sa
    have w7:aF (G1.free id true) w ρ cs vs:=pE.aG (G1.dY id true w) λ_ _ hf=>hf
    obtain⟨e1,e2,e3,G2,w2,e4,e5,e6⟩:=H2 wt w7 h2
    exact⟨e1,e2,by simp[e3],G2,w2,e4,λb hb=>e5 b (Gh.nw hb),⟨t,ht,hd.aG (Nat.le_refl _) λb _ hb=>⟨e5 b hb,rfl⟩,λeA=>by cases eA⟩,e6.aG (Nat.le_refl _) (λb _ hb=>⟨hb,rfl⟩) λeA=>by cases eA⟩
   ·cases h
 | [],_::_,vs,k,k1,xs,dp,G1,hk,hr,h=>by simp[Wk.eh]at h
 |_::_,[],vs,k,k1,xs,dp,G1,hk,hr,h=>by simp[Wk.eh]at h
 |z::zs,.o id (_::_)::cs,vs,k,k1,xs,dp,G1,hk,hr,h=>by simp[Wk.eh]at h
 |z::zs,.d::cs,vs,k,k1,xs,dp,G1,hk,hr,h=>by simp[Wk.eh]at h
theorem o8.at:∀{ω:Nat->Option Lb} {dp:Bool} {zs:List Ce} {xs:List Lf} {vs:List Value},o8 ω w ρ dp zs xs vs->xs.length=vs.length∧zs.length=vs.length∧
  ∀(j:Nat) (t:T),(xs.map (Lf.ev ρ))[j]?=some t->∃z v,zs[j]?=some z∧vs[j]?=some v∧du ω w t v∧(dp=true->dS z=true->t=.l []∧v=.slice none 0 0)
 |_,_,[],[],[],_=>⟨rfl,rfl,λj t h=>by simp at h⟩
 |ω,dp,z::zs,x::xs,v::vs,h=>by
  obtain⟨⟨t,h1,h2,h3⟩,h4⟩:=h
  obtain⟨e1,e2,e3⟩:=o8.at h4
  refine⟨by simp[e1],by simp[e2],λj t' hj=>?_⟩
  cases j with
  |zero=>
   simp only[List.map_cons,List.getElem?_cons_zero,aJ]at hj
   rw[Lf.aZ h1]at hj
   subst hj
   exact⟨z,v,rfl,rfl,h2,h3⟩
  |succ j=>simpa using e3 j t' (by simpa using hj)
 |_,_,[],[],_::_,h=>h.elim
 |_,_,[],_::_,_,h=>h.elim
 |_,_,_::_,[],_,h=>h.elim
 |_,_,_::_,_::_,[],h=>h.elim
theorem aF.vF{G1:Gh}:∀{cs:List Ce} {vs:List Value},cs.length=vs.length->(∀(j:Nat) (c:Ce) (v:Value),cs[j]?=some c->vs[j]?=some v->eF G1 w ρ c v)->aF G1 w ρ cs vs
 | [],[],_,_=>trivial
 | [],_::_,h,_=>by simp at h
 |_::_,[],h,_=>by simp at h
 |c::cs,v::vs,h,hf=>⟨hf 0 c v rfl rfl,aF.vF (by simpa using h) λj c v h1 h2=>hf (j+1) c v (by simpa using h1) (by simpa using h2)⟩
theorem aF.get{G1:Gh}:∀{cs:List Ce} {vs:List Value},aF G1 w ρ cs vs->∀(j:Nat) (c:Ce) (v:Value),cs[j]?=some c->vs[j]?=some v->eF G1 w ρ c v
 | [],[],_,j,c,v,h,_=>by simp at h
 | [],_::_,h,_,_,_,_,_=>h.elim
 |_::_,[],h,_,_,_,_,_=>h.elim
 |c::cs,v::vs,h,j,_,_,h1,h2=>by
  cases j with
  |zero=>simp at h1 h2;subst h1 h2;exact h.1
  |succ j=>exact aF.get h.2 j _ _ (by simpa using h1) (by simpa using h2)
theorem NE(zs:List Ce):∀n,(lq zs n).length=n*zs.length
 |0=>by simp[lq]
 |n+1=>by simp[lq,NE zs n,Nat.add_mul];omega
theorem H3(zs:List Ce):∀(n i j:Nat),i<n->j<zs.length->(lq zs n)[i*zs.length+j]?=zs[j]?
 |0,i,j,h,_=>by omega
 |n+1,0,j,_,hj=>by simp only[lq,Nat.zero_mul,Nat.zero_add];rw[List.getElem?_append_left hj]
 |n+1,i+1,j,h,hj=>by
  simp only[lq]
  rw[List.getElem?_append_right (by rw[Nat.add_mul];omega),show(i+1)*zs.length+j-zs.length=i*zs.length+j by rw[Nat.add_mul];omega]
  exact H3 zs n i j (by omega) hj
theorem H4{zs:List Ce}(h:cJ zs=[]):∀n,cJ (lq zs n)=[]
 |0=>rfl
 |n+1=>by rw[lq,BE,h,H4 h n];rfl
theorem Q_{k n sz:Nat}(h:k<n*sz):k/sz<n∧k%sz<sz∧(k/sz)*sz+k%sz=k:=by
 have eY:0<sz:=by
  rcases Nat.eq_zero_or_pos sz with h0|h0
  ·rw[h0]at h;omega
  ·exact h0
 exact⟨Nat.div_lt_of_lt_mul (by rw[Nat.mul_comm];exact h),Nat.mod_lt _ eY,by rw[Nat.mul_comm];exact Nat.div_add_mod k sz⟩
theorem Q'{zs:List Ce}{z:Array Value}{G1:Gh}(h:aF G1 w ρ zs z.toList)(n:Nat):aF G1 w ρ (lq zs n) (madeCells z (n*z.size)).toList:=by
 have hl:=h.length
 simp only[Array.length_toList]at hl
 refine aF.vF (by rw[NE,hl,Array.length_toList,size_madeCells]) λk c v hc hv=>?_
 have hk:k<n*z.size:=by have:=(List.getElem?_eq_some_iff.1 hc).1;rw[NE,hl]at this;exact this
 obtain⟨q1,q2,q3⟩:=Q_ hk
 have h1:=H3 zs n _ _ q1 (by rw[hl];exact q2)
 rw[hl,q3,hc]at h1
 have h2:=HH q2 q1
 rw[q3,<-Array.getElem?_toList,hv]at h2
 have hc:=h1.symm
 have hv:=h2.symm
 exact h.get _ c v hc (by simpa using hv)
theorem B9(w:Nat):∀(n:Nat) (ts:List T) (i j:Nat),ts.length=n*w->i<n->j<w->cI (nW w n ts) i j=ts[i*w+j]?
 |0,_,_,_,_,h,_=>by omega
 |n+1,ts,0,j,hl,_,hj=>by
  simp only[nW,cI,List.getElem?_cons_zero,Option.bind_some,Nat.zero_mul,Nat.zero_add,List.getElem?_take,hj,if_true]
 |n+1,ts,i+1,j,hl,h,hj=>by
  have:=B9 w n (ts.drop w) i j (by simp[hl,Nat.add_mul]) (by omega) hj
  simp only[cI,nW,List.getElem?_cons_succ]at this⊢
  rw[this,List.getElem?_drop]
  congr 1
  rw[Nat.add_mul];omega
theorem Ra(w:Nat):∀(n:Nat) (ts:List T),(nW w n ts).length=n
 |0,_=>rfl
 |n+1,ts=>by simp[nW,Ra w n]
theorem H5(w:Nat):∀(n:Nat) (ts:List T),ts.length=n*w->∀r∈nW w n ts,r.length=w
 |0,_,_,r,h=>by cases h
 |n+1,ts,hl,r,h=>by
  simp only[nW,List.mem_cons]at h
  rcases h with rfl|h
  ·rw[List.length_take,hl,Nat.add_mul];omega
  ·exact H5 w n (ts.drop w) (by simp[hl,Nat.add_mul]) r h
theorem H6:∀(ms:List Bool) (ts:List T),qX ms ts=true->∀(j:Nat) (t:T),ms[j]?=some true->ts[j]?=some t->dr t=true
 | [],_,_,j,t,h,_=>by simp at h
 |true::ms,[],h,_,_,_,h2=>by simp at h2
 |false::ms,[],h,_,_,_,h2=>by simp at h2
 |true::ms,t::ts,h,j,u,h1,h2=>by
  simp only[qX,bB]at h
  cases j with
  |zero=>simp at h2;subst h2;exact h.1
  |succ j=>exact H6 ms ts h.2 j u (by simpa using h1) (by simpa using h2)
 |false::ms,t::ts,h,j,u,h1,h2=>by
  simp only[qX]at h
  cases j with
  |zero=>simp at h1
  |succ j=>exact H6 ms ts h j u (by simpa using h1) (by simpa using h2)
theorem k9_{t e n:Nat}{i:TypeInfo}{z:Value}(hu:P.underlying t=some (.slice e))(hi:P.info? e=some i)(hz:i.zero=some z)(hs:z.cells.size=i.size)(hb:n*i.size<=65536)
  {parts:Array (Nat×Value)}{aX:Array Value}(g:Instr.fill (λf=>some (f*i.size,i.size)) (madeCells z.cells (n*i.size)) parts.toList=some aX):
  (Instr.buildSlice t n parts).run P w=.ok (.slice (some ⟨w.heap.size,0,none⟩) n n) (w.alloc (.cells aX e)):=by
 have Rb:¬(n*i.size>2^24):=by omega
 unfold madeCells at g
 by_cases h0:n*i.size=0
 ·simp only[h0,Array.range_zero',List.map_toArray,List.map_nil]at g
  simp[Instr.buildSlice,run_underlying hu,sizeOf,typeInfo,hi,h0,g,newRow,Array.range_zero']
 ·simp[Instr.buildSlice,run_underlying hu,sizeOf,typeInfo,hi,h0,Rb,zeroValue,hz,g,newRow]
abbrev Mv:=List (Nat×Nat)
def fm:Mv->Nat->Option Nat
 | [],_=>none
 |(p,i)::mv,q=>bif Nat.beq p q then some i else fm mv q
def jc:Mv->Nat->Option Nat
 | [],_=>none
 |(p,i)::mv,j=>bif Nat.beq i j then some p else jc mv j
theorem H7:∀{mv:Mv} {q i:Nat},fm mv q=some i->(q,i)∈mv
 | [],q,i,h=>by simp[fm]at h
 |(p,j)::mv,q,i,h=>by
  simp only[fm]at h
  cases hb:Nat.beq p q with
  |true=>simp[hb]at h;subst h;rw[cK hb];exact List.mem_cons_self
  |false=>simp[hb]at h;exact List.mem_cons_of_mem _ (H7 h)
theorem yA:∀{mv:Mv} {q i:Nat},jc mv i=some q->(q,i)∈mv
 | [],q,i,h=>by simp[jc]at h
 |(p,j)::mv,q,i,h=>by
  simp only[jc]at h
  cases hb:Nat.beq j i with
  |true=>simp[hb]at h;subst h;rw[cK hb];exact List.mem_cons_self
  |false=>simp[hb]at h;exact List.mem_cons_of_mem _ (yA h)
def H8(G:Gh)(w:World)(ρ:List T)(mv:Mv):Nat->List Lf->List Value->Prop
 |_,[],[]=>True
 |q,x::xs,v::vs=>(∃t,x.ej ρ=some t∧((∃u,t=.c u∧v=u∧ib u=true)∨(t=.l []∧v=.slice none 0 0∧fm mv q=none)∨∃i,fm mv q=some i∧v=G.H i []∧dh G w i true [] t))∧H8 G w ρ mv (q+1) xs vs
 |_,_,_=>False
theorem E7{G1:Gh}:∀{zs cs:List Ce} {vs:List Value} {k k1:Wk} {xs:List Lf} {k0:Wk} {W0:St},cC M B d up ρ G a w k0 G1->i_ k k0 W0->(∀r u,W0.look r=some u->∃j,r=.o j∧u=.un)->aF G1 w ρ cs vs->(∀i∈cJ cs,M i)->
  k.bd zs cs=some (k1,xs)->∀q,k1.ct=k.ct∧k1.is=k.is∧xs.length=zs.length∧zs.length=cs.length∧∃mv W1,i_ k1 k0 (W1++W0)∧(∀p i,(p,i)∈mv->q<=p∧M i∧W1.look (.o i)=some .un∧W0.look (.o i)=none)∧(∀r u,W1.look r=some u->∃p j,r=.o j∧u=.un∧M j∧(p,j)∈mv)∧
   (∀p i,(p,i)∈mv->fm mv p=some i∧jc mv i=some p)∧
   (∀(xe:Mv),(∀p,q<=p->fm xe p=fm mv p)->(∀(j:Nat) (t:T),(∃x,xs[j]?=some x∧x.ej ρ=some t)->zs[j]?.map dS=some false->dr t=true)->H8 G1 w ρ xe q xs vs)
 | [],[],vs,k,k1,xs,k0,W0,hk,ho,hW,hr,hm,h,q=>by
  simp only[Wk.bd,aJ,Prod.mk.injEq]at h
  obtain⟨rfl,rfl⟩:=h
  cases vs with
  |nil=>exact⟨rfl,rfl,rfl,rfl,[],[],ho,(λp i h=>by cases h),(λr u h=>by cases h),(λp i h=>by cases h),λ_ _ _=>trivial⟩
  |cons _ _=>exact hr.elim
 |z::zs,.p x::cs,vs,k,k1,xs,k0,W0,hk,ho,hW,hr,hm,h,q=>by
  cases vs with
  |nil=>exact hr.elim
  |cons v vs=>
   simp only[Wk.bd]at h
   cases hz:dS z with
   |true=>simp[hz]at h
   |false=>
    simp only[hz,cond_false,bQ,aJ,Prod.mk.injEq]at h
    obtain⟨⟨k2,ys⟩,h2,rfl,rfl⟩:=h
    obtain⟨e1,e2,e3,e4,mv,W1,e5,e6,e7,e8,e9⟩:=E7 hk ho hW hr.2 (λi hi=>hm i (by simpa[cJ]using hi)) h2 (q+1)
    refine⟨e1,e2,by simp[e3],by simp[e4],mv,W1,e5,λp i hp=>by have:=e6 p i hp;exact⟨by omega,this.2⟩,e7,e8,λxe pL kh=>?_⟩
    obtain⟨t,ht,hd⟩:=hr.1
    have cU:=kh 0 t ⟨x,rfl,ht⟩ (by simp[hz])
    obtain⟨u,rfl⟩:=BA cU
    obtain⟨rfl,hu⟩:=hd.scalar
    exact⟨⟨.c v,ht,.inl ⟨v,rfl,rfl,hu⟩⟩,e9 xe (λp hp=>pL p (by omega)) λj t hj o9=>kh (j+1) t (by simpa using hj) (by simpa using o9)⟩
 |z::zs,.n::cs,vs,k,k1,xs,k0,W0,hk,ho,hW,hr,hm,h,q=>by
  cases vs with
  |nil=>exact hr.elim
  |cons v vs=>
   simp only[Wk.bd,bQ,aJ,Prod.mk.injEq]at h
   obtain⟨⟨k2,ys⟩,h2,rfl,rfl⟩:=h
   obtain⟨e1,e2,e3,e4,mv,W1,e5,e6,e7,e8,e9⟩:=E7 hk ho hW hr.2 (λi hi=>hm i (by simpa[cJ]using hi)) h2 (q+1)
   refine⟨e1,e2,by simp[e3],by simp[e4],mv,W1,e5,λp i hp=>by have:=e6 p i hp;exact⟨by omega,this.2⟩,e7,e8,λxe pL kh=>?_⟩
   have hv:v=.slice none 0 0:=hr.1
   have cd:fm mv q=none:=by
    cases hm:fm mv q with
    |none=>rfl
    |some i=>
     have:=H7 hm
     have:=(e6 q i this).1
     omega
   exact⟨⟨.l [],rfl,.inr (.inl ⟨rfl,hv,by rw[pL q (Nat.le_refl _)];exact cd⟩)⟩,e9 xe (λp hp=>pL p (by omega)) λj t hj o9=>kh (j+1) t (by simpa using hj) (by simpa using o9)⟩
 |z::zs,.o id []::cs,vs,k,k1,xs,k0,W0,hk,ho,hW,hr,hm,h,q=>by
  cases vs with
  |nil=>exact hr.elim
  |cons v vs=>
   simp only[Wk.bd]at h
   split at h
   ·rename_i x hx
    simp only[bQ,aJ,Prod.mk.injEq]at h
    obtain⟨⟨k2,ys⟩,h2,rfl,rfl⟩:=h
    have cd:W0.look (.o id)=none:=by
     cases hl:W0.look (.o id)with
     |none=>rfl
     |some u=>
      exfalso
      obtain⟨j,_,rfl⟩:=hW _ _ hl
      have:k.get (.o id)=.un:=by unfold Wk.get;rw[ho.2,hl];simp
      rw[this]at hx;cases hx
    have E8:i_ (k.set (.o id) .un) k0 ([(.o id,.un)]++W0):=⟨ho.1,λr=>by rw[show(k.set (.o id) .un).w.look r=_ from pH r,iS,ho.2,Option.or_assoc]⟩
    obtain⟨e1,e2,e3,e4,mv,W1,e5,e6,e7,e8,e9⟩:=E7 hk E8 (λr u hl=>by
     rw[iS]at hl
     cases h1:St.look [(aM.o id,SV.un)] r with
     |some u'=>rw[h1]at hl;simp at hl;subst hl;rcases gh h1 with⟨q1,q2⟩|q1;exact⟨id,q1,q2⟩;cases q1
     |none=>rw[h1]at hl;exact hW r u (by simpa using hl)) hr.2 (λi hi=>hm i (by simp[cJ,hi])) h2 (q+1)
    have j3:∀p i,(p,i)∈mv->i≠id:=by
     intro p i hp he
     subst he
     have:=(e6 p i hp).2.2.2
     rw[iS,pY]at this
     simp at this
    refine⟨e1,e2,by simp[e3],by simp[e4],(q,id)::mv,W1++[(.o id,.un)],by rw[List.append_assoc];exact e5,λp i hp=>?_,λr u hl=>?_,λp i hp=>?_,λxe pL kh=>?_⟩
    ·rcases List.mem_cons.1 hp with hp|hp
     ·cases hp
      have:W1.look (.o id)=none:=by
       cases hl:W1.look (.o id)with
       |none=>rfl
       |some u=>obtain⟨p,j,q1,_,_,q2⟩:=e7 _ _ hl;cases q1;exact absurd rfl (j3 p _ q2)
      exact⟨Nat.le_refl _,hm id (by simp[cJ]),by rw[iS,this,pY];simp,cd⟩
     ·obtain⟨q1,q2,q3,q4⟩:=e6 p i hp
      refine⟨by omega,q2,by rw[iS,q3];rfl,?_⟩
      rw[iS]at q4
      exact(Option.or_eq_none_iff.1 q4).2
    ·rw[iS]at hl
     cases h1:W1.look r with
     |some u'=>
      rw[h1]at hl
      simp at hl
      subst hl
      obtain⟨p,j,q1,q2,q3,q4⟩:=e7 r u' h1
      exact⟨p,j,q1,q2,q3,by simp[q4]⟩
     |none=>
      rw[h1]at hl
      simp only[Option.none_or]at hl
      rcases gh hl with⟨q1,q2⟩|q1
      ·exact⟨q,id,q1,q2,hm id (by simp[cJ]),by simp⟩
      ·cases q1
    ·rcases List.mem_cons.1 hp with hp|hp
     ·cases hp;simp[fm,jc]
     ·have h1:=(e6 p i hp).1
      have h2:=j3 p i hp
      have b1:Nat.beq q p=false:=by
       cases hb:Nat.beq q p with
       |false=>rfl
       |true=>have:=cK hb;omega
      have b2:Nat.beq id i=false:=by
       cases hb:Nat.beq id i with
       |false=>rfl
       |true=>exact absurd (cK hb).symm h2
      simp only[fm,jc,b1,b2,cond_false]
      exact e8 p i hp
    ·have cS:=hk.obj id
     have tl:k0.get (.o id)=.ob true x:=by rw[<-ho.get cd];exact hx
     rw[tl]at cS
     obtain⟨t,ht,aT⟩:=cS
     obtain⟨p,hp,hv⟩:=hr.1
     simp only[ke,aJ]at hp
     subst hp
     refine⟨⟨t,ht,.inr (.inr ⟨id,by rw[pL q (Nat.le_refl _)];simp[fm],hv,aT⟩)⟩,e9 xe (λp hp=>?_) λj t hj o9=>kh (j+1) t (by simpa using hj) (by simpa using o9)⟩
     rw[pL p (by omega)]
     have b1:Nat.beq q p=false:=by
      cases hb:Nat.beq q p with
      |false=>rfl
      |true=>have:=cK hb;omega
     simp only[fm,b1,cond_false]
   ·rename_i x hx
    simp only[bQ,aJ,Prod.mk.injEq]at h
    obtain⟨⟨k2,ys⟩,h2,rfl,rfl⟩:=h
    have cd:W0.look (.o id)=none:=by
     cases hl:W0.look (.o id)with
     |none=>rfl
     |some u=>
      exfalso
      obtain⟨j,_,rfl⟩:=hW _ _ hl
      have:k.get (.o id)=.un:=by unfold Wk.get;rw[ho.2,hl];simp
      rw[this]at hx;cases hx
    have E8:i_ (k.set (.o id) .un) k0 ([(.o id,.un)]++W0):=⟨ho.1,λr=>by rw[show(k.set (.o id) .un).w.look r=_ from pH r,iS,ho.2,Option.or_assoc]⟩
    obtain⟨e1,e2,e3,e4,mv,W1,e5,e6,e7,e8,e9⟩:=E7 hk E8 (λr u hl=>by
     rw[iS]at hl
     cases h1:St.look [(aM.o id,SV.un)] r with
     |some u'=>rw[h1]at hl;simp at hl;subst hl;rcases gh h1 with⟨q1,q2⟩|q1;exact⟨id,q1,q2⟩;cases q1
     |none=>rw[h1]at hl;exact hW r u (by simpa using hl)) hr.2 (λi hi=>hm i (by simp[cJ,hi])) h2 (q+1)
    have j3:∀p i,(p,i)∈mv->i≠id:=by
     intro p i hp he
     subst he
     have:=(e6 p i hp).2.2.2
     rw[iS,pY]at this
     simp at this
    refine⟨e1,e2,by simp[e3],by simp[e4],(q,id)::mv,W1++[(.o id,.un)],by rw[List.append_assoc];exact e5,λp i hp=>?_,λr u hl=>?_,λp i hp=>?_,λxe pL kh=>?_⟩
    ·rcases List.mem_cons.1 hp with hp|hp
     ·cases hp
      have:W1.look (.o id)=none:=by
       cases hl:W1.look (.o id)with
       |none=>rfl
       |some u=>obtain⟨p,j,q1,_,_,q2⟩:=e7 _ _ hl;cases q1;exact absurd rfl (j3 p _ q2)
      exact⟨Nat.le_refl _,hm id (by simp[cJ]),by rw[iS,this,pY];simp,cd⟩
     ·obtain⟨q1,q2,q3,q4⟩:=e6 p i hp
      refine⟨by omega,q2,by rw[iS,q3];rfl,?_⟩
      rw[iS]at q4
      exact(Option.or_eq_none_iff.1 q4).2
    ·rw[iS]at hl
     cases h1:W1.look r with
     |some u'=>
      rw[h1]at hl
      simp at hl
      subst hl
      obtain⟨p,j,q1,q2,q3,q4⟩:=e7 r u' h1
      exact⟨p,j,q1,q2,q3,by simp[q4]⟩
     |none=>
      rw[h1]at hl
      simp only[Option.none_or]at hl
      rcases gh hl with⟨q1,q2⟩|q1
      ·exact⟨q,id,q1,q2,hm id (by simp[cJ]),by simp⟩
      ·cases q1
    ·rcases List.mem_cons.1 hp with hp|hp
     ·cases hp;simp[fm,jc]
     ·have h1:=(e6 p i hp).1
      have h2:=j3 p i hp
      have b1:Nat.beq q p=false:=by
       cases hb:Nat.beq q p with
       |false=>rfl
       |true=>have:=cK hb;omega
      have b2:Nat.beq id i=false:=by
       cases hb:Nat.beq id i with
       |false=>rfl
       |true=>exact absurd (cK hb).symm h2
      simp only[fm,jc,b1,b2,cond_false]
      exact e8 p i hp
    ·have cS:=hk.obj id
     have tl:k0.get (.o id)=.fl x:=by rw[<-ho.get cd];exact hx
     rw[tl]at cS
     obtain⟨_,t,ht,aT⟩:=cS
     obtain⟨p,hp,hv⟩:=hr.1
     simp only[ke,aJ]at hp
     subst hp
     refine⟨⟨t,ht,.inr (.inr ⟨id,by rw[pL q (Nat.le_refl _)];simp[fm],hv,aT⟩)⟩,e9 xe (λp hp=>?_) λj t hj o9=>kh (j+1) t (by simpa using hj) (by simpa using o9)⟩
     rw[pL p (by omega)]
     have b1:Nat.beq q p=false:=by
      cases hb:Nat.beq q p with
      |false=>rfl
      |true=>have:=cK hb;omega
     simp only[fm,b1,cond_false]
   ·cases h
 | [],_::_,vs,k,k1,xs,k0,W0,_,_,_,_,_,h,_=>by simp[Wk.bd]at h
 |_::_,[],vs,k,k1,xs,k0,W0,_,_,_,_,_,h,_=>by simp[Wk.bd]at h
 |_::_,.d::_,vs,k,k1,xs,k0,W0,_,_,_,_,_,h,_=>by simp[Wk.bd]at h
 |_::_,.o _ (_::_)::_,vs,k,k1,xs,k0,W0,_,_,_,_,_,h,_=>by simp[Wk.bd]at h
theorem H8.at{G1:Gh}{mv:Mv}:∀{xs:List Lf} {vs:List Value} {q:Nat},H8 G1 w ρ mv q xs vs->xs.length=vs.length∧∀(j:Nat) (t:T),(xs.map (Lf.ev ρ))[j]?=some t->∃v,vs[j]?=some v∧
  ((∃u,t=.c u∧v=u∧ib u=true)∨(t=.l []∧v=.slice none 0 0∧fm mv (q+j)=none)∨∃i,fm mv (q+j)=some i∧v=G1.H i []∧dh G1 w i true [] t)
 | [],[],q,_=>⟨rfl,λj t h=>by simp at h⟩
 |x::xs,v::vs,q,h=>by
  obtain⟨⟨t,h1,h2⟩,h3⟩:=h
  obtain⟨e1,e2⟩:=H8.at h3
  refine⟨by simp[e1],λj t' hj=>?_⟩
  cases j with
  |zero=>
   simp only[List.map_cons,List.getElem?_cons_zero,aJ]at hj
   rw[Lf.aZ h1]at hj
   subst hj
   exact⟨v,rfl,h2⟩
  |succ j=>
   have:=e2 j t' (by simpa using hj)
   rw[show q+1+j=q+(j+1) by omega]at this
   simpa using this
 | [],_::_,q,h=>h.elim
 |_::_,[],q,h=>h.elim
def yB(mv:Mv)(sz i:Nat):Lb->Option Lb
 | .o j p=>match jc mv j with
  |some q=>some (.o i ((q/sz,q%sz)::p))
  |none=>some (.o j p)
 |l=>some l
theorem Rc{mv:Mv}{sz i:Nat}(hi:i%2=0)(l l':Lb)(hq:qt l=true)(h:yB mv sz i l=some l'):qt l'=true:=by
 cases l with
 |o j p=>
  simp only[yB]at h
  split at h
  ·cases h;exact pS hi (by simp)
  ·cases h;exact hq
 |_=>simp[qt]at hq
def Aq(G:Gh)(mv:Mv)(sz:Nat)(v:Value):List (Nat×Nat)->Value
 | []=>v
 |(r,c)::p=>match fm mv (r*sz+c)with
  |some j=>G.H j p
  |none=>.slice none 0 0
theorem NF:∀{zs cs:List Ce} {k k1:Wk} {xs:List Lf},k.bd zs cs=some (k1,xs)->∀id,k.get (.o id)=.un->k1.get (.o id)=.un
 | [],[],k,k1,xs,h,id,hu=>by
  simp only[Wk.bd,aJ,Prod.mk.injEq]at h
  rw[<-h.1];exact hu
 |z::zs,.p x::cs,k,k1,xs,h,id,hu=>by
  simp only[Wk.bd]at h
  cases hz:dS z with
  |true=>simp[hz]at h
  |false=>
   simp only[hz,cond_false,bQ,aJ,Prod.mk.injEq]at h
   obtain⟨⟨k2,ys⟩,h2,rfl,_⟩:=h
   exact NF h2 id hu
 |z::zs,.n::cs,k,k1,xs,h,id,hu=>by
  simp only[Wk.bd,bQ,aJ,Prod.mk.injEq]at h
  obtain⟨⟨k2,ys⟩,h2,rfl,_⟩:=h
  exact NF h2 id hu
 |z::zs,.o j []::cs,k,k1,xs,h,id,hu=>by
  simp only[Wk.bd]at h
  have key:∀k2 ys,Wk.bd (k.set (.o j) .un) zs cs=some (k2,ys)->k2.get (.o id)=.un:=λk2 ys h2=>by
   refine NF h2 id ?_
   by_cases e:j=id
   ·subst e;exact Wk.bg _ _ _
   ·unfold Wk.get Wk.set
    rw[St.bJ _ _ (by simpa using e)]
    exact hu
  split at h
  ·simp only[bQ,aJ,Prod.mk.injEq]at h
   obtain⟨⟨k2,ys⟩,h2,rfl,_⟩:=h
   exact key _ _ h2
  ·simp only[bQ,aJ,Prod.mk.injEq]at h
   obtain⟨⟨k2,ys⟩,h2,rfl,_⟩:=h
   exact key _ _ h2
  ·cases h
 | [],_::_,k,k1,xs,h,_,_=>by simp[Wk.bd]at h
 |_::_,[],k,k1,xs,h,_,_=>by simp[Wk.bd]at h
 |_::_,.d::_,k,k1,xs,h,_,_=>by simp[Wk.bd]at h
 |_::_,.o _ (_::_)::_,k,k1,xs,h,_,_=>by simp[Wk.bd]at h
theorem NG:∀{zs cs:List Ce} {k k1:Wk} {xs:List Lf},k.bd zs cs=some (k1,xs)->∀id,.o id []∈cs->k1.get (.o id)=.un
 | [],[],k,k1,xs,h,id,hm=>by cases hm
 |z::zs,.p x::cs,k,k1,xs,h,id,hm=>by
  simp only[Wk.bd]at h
  cases hz:dS z with
  |true=>simp[hz]at h
  |false=>
   simp only[hz,cond_false,bQ,aJ,Prod.mk.injEq]at h
   obtain⟨⟨k2,ys⟩,h2,rfl,_⟩:=h
   exact NG h2 id (by simpa using hm)
 |z::zs,.n::cs,k,k1,xs,h,id,hm=>by
  simp only[Wk.bd,bQ,aJ,Prod.mk.injEq]at h
  obtain⟨⟨k2,ys⟩,h2,rfl,_⟩:=h
  exact NG h2 id (by simpa using hm)
 |z::zs,.o j []::cs,k,k1,xs,h,id,hm=>by
  simp only[Wk.bd]at h
  have key:∀k2 ys,Wk.bd (k.set (.o j) .un) zs cs=some (k2,ys)->k2.get (.o id)=.un:=λk2 ys h2=>by
   rcases List.mem_cons.1 hm with e|hm
   ·refine NF h2 id ?_
    cases e
    exact Wk.bg _ _ _
   ·exact NG h2 id hm
  split at h
  ·simp only[bQ,aJ,Prod.mk.injEq]at h
   obtain⟨⟨k2,ys⟩,h2,rfl,_⟩:=h
   exact key _ _ h2
  ·simp only[bQ,aJ,Prod.mk.injEq]at h
   obtain⟨⟨k2,ys⟩,h2,rfl,_⟩:=h
   exact key _ _ h2
  ·cases h
 | [],_::_,k,k1,xs,h,_,_=>by simp[Wk.bd]at h
 |_::_,[],k,k1,xs,h,_,_=>by simp[Wk.bd]at h
 |_::_,.d::_,k,k1,xs,h,_,_=>by simp[Wk.bd]at h
 |_::_,.o _ (_::_)::_,k,k1,xs,h,_,_=>by simp[Wk.bd]at h
def qg(k0:Wk):List Ce->St
 | []=>[]
 | .o id []::cs=>
  match k0.get (.o id)with
  | .ob true x=>qg k0 cs++[(.o id,.fz .z x)]
  |_=>qg k0 cs
 |_::cs=>qg k0 cs
theorem B_{k0:Wk}:∀(cs:List Ce) (k:Wk),(Wk.alias k0 k cs).ct=k.ct∧(Wk.alias k0 k cs).is=k.is∧(Wk.alias k0 k cs).r=k.r∧∀r,(Wk.alias k0 k cs).w.look r=((qg k0 cs).look r).or (k.w.look r)
 | [],k=>⟨rfl,rfl,rfl,λr=>by simp[Wk.alias,qg,St.look]⟩
 | .o id []::cs,k=>by
  have yv:∀v,k0.get (.o id)=v->(∀x,v≠.ob true x)->Wk.alias k0 k (.o id []::cs)=Wk.alias k0 k cs∧qg k0 (.o id []::cs)=qg k0 cs:=λv hv hx=>by
   simp only[Wk.alias,qg,hv]
   exact⟨trivial,trivial⟩
  by_cases hx:∃x,k0.get (.o id)=.ob true x
  ·obtain⟨x,hx⟩:=hx
   obtain⟨e1,e2,e3,e4⟩:=B_ (k0:=k0) cs (k.set (.o id) (.fz .z x))
   have f1:Wk.alias k0 k (.o id []::cs)=Wk.alias k0 (k.set (.o id) (.fz .z x)) cs:=by simp only[Wk.alias,hx]
   have f2:qg k0 (.o id []::cs)=qg k0 cs++[(.o id,.fz .z x)]:=by simp only[qg,hx]
   rw[f1,f2]
   refine⟨e1,e2,e3,λr=>?_⟩
   rw[e4,iS,Option.or_assoc]
   congr 1
   exact pH r
  ·obtain⟨f1,f2⟩:=yv _ rfl λx e=>hx ⟨x,e⟩
   rw[f1,f2]
   exact B_ cs k
 | .p _::cs,k=>B_ (k0:=k0) cs k
 | .n::cs,k=>B_ (k0:=k0) cs k
 | .d::cs,k=>B_ (k0:=k0) cs k
 | .o _ (_::_)::cs,k=>B_ (k0:=k0) cs k
theorem Ca{k0:Wk}:∀{cs:List Ce} {r:aM} {u:SV},(qg k0 cs).look r=some u->∃id x,r=.o id∧u=.fz .z x∧.o id []∈cs∧k0.get (.o id)=.ob true x
 | [],r,u,h=>by cases h
 | .o id []::cs,r,u,h=>by
  simp only[qg]at h
  split at h
  ·rename_i x hx
   rw[iS]at h
   cases hl:(qg k0 cs).look r with
   |some u'=>
    rw[hl]at h
    simp only[Option.some_or,aJ]at h
    subst h
    obtain⟨qK,x',e1,e2,e3,e4⟩:=Ca hl
    exact⟨qK,x',e1,e2,.tail _ e3,e4⟩
   |none=>
    rw[hl]at h
    simp only[Option.none_or]at h
    rcases gh h with⟨e1,e2⟩|hl
    ·exact⟨id,x,e1,e2,.head _,hx⟩
    ·cases hl
  ·obtain⟨qK,x',e1,e2,e3,e4⟩:=Ca h
   exact⟨qK,x',e1,e2,.tail _ e3,e4⟩
 | .p _::cs,r,u,h=>by obtain⟨qK,x',e1,e2,e3,e4⟩:=Ca (cs:=cs) h;exact⟨qK,x',e1,e2,.tail _ e3,e4⟩
 | .n::cs,r,u,h=>by obtain⟨qK,x',e1,e2,e3,e4⟩:=Ca (cs:=cs) h;exact⟨qK,x',e1,e2,.tail _ e3,e4⟩
 | .d::cs,r,u,h=>by obtain⟨qK,x',e1,e2,e3,e4⟩:=Ca (cs:=cs) h;exact⟨qK,x',e1,e2,.tail _ e3,e4⟩
 | .o _ (_::_)::cs,r,u,h=>by obtain⟨qK,x',e1,e2,e3,e4⟩:=Ca (cs:=cs) h;exact⟨qK,x',e1,e2,.tail _ e3,e4⟩
theorem dh.tw{G G':Gh}{w w':World}{id:Nat}{p:List (Nat×Nat)}{t:T}{dp:Bool}(h:dh G w id dp p t)(eA:dp=true)(eT:∀c q,G.ω c=some (.o id q)->G'.q c=none∧w'.heap[c]?=w.heap[c]?):du G'.q w' t (G.H id p):=by
 induction h with
 |nil h=>rw[h];exact .nil
 | @l dp p xs b wd cap aX elem cv h1 h2 h3 h4 h5 h6 h7 h8 h9 kf pU ih=>
  obtain⟨e1,e2⟩:=eT b p h3
  rw[h1]
  refine .l (cv:=cv) h6 h2.1 e1 (z' (e2.trans h4)) (λi j t ht=>?_) λi j t ht=>?_
  ·rw[rf (e2.trans h4),Nat.zero_add];exact h7 i j t ht
  ·cases t with
   |c v=>obtain⟨hv,hs⟩:=h8 i j v ht;rw[hv];exact .c hs
   |l ys=>rw[kf i j ys ht eA];exact ih i j ys ht eA rfl
theorem Rd(cN:cW P cx)(h:Rel M B d up s ρ G a w)(hn:∀n,o.dst=some n->n<a.tmps.size){t n:Nat}{ps:Array (Nat×Operand)}(ho:o.op=.buildSlice t n ps){ti te:TI}(ed:cx.ty t=some ti)(mM:cx.ty ti.el=some te)
  {i:TypeInfo}{z:Value}(hu:P.underlying t=some (.slice ti.el))(qJ:P.info? ti.el=some i)(l8:i.size=te.sz)(w9:i.zero=some z)(o_:z.cells.size=te.sz)(eY:0<te.sz)(hb:n*te.sz<=65536)
  (yh:aF G w ρ te.zero z.cells.toList)(oP:cJ te.zero=[]){cs:List Ce}{aX:Array Value}(g1:Instr.fill (λi=>some (i*te.sz,te.sz)) (madeCells z.cells (n*z.cells.size)) (ps.toList.map λp=>(p.1,a.eval p.2))=some aX)(g2:aF G w ρ cs aX.toList∧∀i∈cJ cs,M i)
  (s_:aX.size=n*te.sz){k1:Wk}{xs:List Lf}(hD:Wk.bd ⟨s.only R,[],ct,[]⟩ (lq te.zero n) cs=some (k1,xs))
  (hk:(let r:=(Wk.alias ⟨s.only R,[],ct,[]⟩ k1 cs).em (.lit te.sz (bif true then(lq te.zero n).map (λz=>!dS z)else [])) xs;bm d o {r.1.set (.o (dy r.1.ct.i)) (.ob true r.2)with ct:=⟨r.1.ct.a,dy r.1.ct.i+1⟩} (.v false [.o (dy r.1.ct.i) []]))=k')(hd:k'.aP S ρ)(hM:∀i,ct.i<=i->i<k'.ct.i->¬M i):
  a_ P (Mn M ct.i k'.ct.i) B d up ρ a w s o k'.w Q:=by
 have hw:=cC.start h R ct
 obtain⟨a1,a2,a3,a4,mv,W1,a5,a6,a7,a8,a9⟩:=E7 hw (show i_ ⟨s.only R,[],ct,[]⟩ ⟨s.only R,[],ct,[]⟩ [] from⟨rfl,λr=>by simp[St.look]⟩) (λr u h=>by cases h) g2.1 g2.2 hD 0
 rw[List.append_nil]at a5
 have hun:=NG hD
 obtain⟨l1,l2,l3,l4⟩:=B_ (k0:=⟨s.only R,[],ct,[]⟩) cs k1
 generalize Wk.alias ⟨s.only R,[],ct,[]⟩ k1 cs=E9 at l1 l2 l3 l4 hk
 generalize hy:E9.em (.lit te.sz (bif true then(lq te.zero n).map (λz=>!dS z)else [])) xs=ky at hk
 obtain⟨k2,y⟩:=ky
 have vG:k2=(E9.em (.lit te.sz (bif true then(lq te.zero n).map (λz=>!dS z)else [])) xs).1:=by rw[hy]
 have Re:y=(E9.em (.lit te.sz (bif true then(lq te.zero n).map (λz=>!dS z)else [])) xs).2:=by rw[hy]
 have lZ:E9.dE k2:=by rw[vG];exact Wk.aS _ _ _
 have oU:bm d o {k2.set (.o (dy k2.ct.i)) (.ob true y)with ct:=⟨k2.ct.a,dy k2.ct.i+1⟩} (.v false [.o (dy k2.ct.i) []])=k':=hk
 have iQ:k2.ct.i=ct.i:=by rw[lZ.i,l1,a1]
 have eo:(E9.em (.lit te.sz (bif true then(lq te.zero n).map (λz=>!dS z)else [])) xs).1.aP S ρ:=by
  rw[<-vG]
  rw[<-oU]at hd
  have h2:=b_.1 hd
  exact h2
 obtain⟨vD,r,hr,jk⟩:=Wk.be eo
 rw[<-Re]at jk
 have oT:te.zero.length=te.sz:=by have:=yh.length;rw[this];simpa using o_
 have vH:(xs.map (Lf.ev ρ)).length=n*te.sz:=by rw[List.length_map,a3,NE,oT]
 have tA:r=.l (nW te.sz n (xs.map (Lf.ev ρ)))∧qX ((lq te.zero n).map (λz=>!dS z)) (xs.map (Lf.ev ρ))=true:=by
  simp only[Prim.ev,vH,Nat.mul_div_cancel _ eY,if_pos eY,cond_true]at hr
  split at hr
  ·rename_i hm
   exact⟨(Option.some.inj hr).symm,hm⟩
  ·cases hr
 obtain⟨rfl,qh⟩:=tA
 have pL:=a9 mv (λ_ _=>rfl) λj t ⟨x,hx,ht⟩ o9=>by
  refine H6 _ _ qh j t ?_ ?_
  ·cases Cb:(lq te.zero n)[j]? with
   |none=>rw[Cb]at o9;cases o9
   |some zc=>rw[Cb]at o9;simp at o9;simp[Cb,o9]
  ·rw[List.getElem?_map,hx];simp[Lf.aZ ht]
 obtain⟨b1,b3⟩:=pL.at
 have mX:k'.ct.i=dy ct.i+1:=by rw[<-oU,ll,<-iQ]
 have lA:=uX ct.i
 let Hn:=Aq G mv te.sz (.slice (some ⟨w.heap.size,0,none⟩) n n)
 have kt:∀p,∃a n c,Hn p=.slice a n c:=λp=>by
  cases p with
  |nil=>exact⟨_,_,_,rfl⟩
  |cons x p=>
   obtain⟨r0,c0⟩:=x
   cases hm:fm mv (r0*te.sz+c0)with
   |none=>exact⟨none,0,0,by simp only[Hn,Aq,hm]⟩
   |some j=>obtain⟨a0,n0,c1,h0⟩:=G.hs j p;exact⟨a0,n0,c1,by simp only[Hn,Aq,hm];exact h0⟩
 have c_:(Instr.buildSlice t n (ps.map λ(i,x)=>(i,a.eval x))).run P w=.ok (.slice (some ⟨w.heap.size,0,none⟩) n n) (w.alloc (.cells aX ti.el)):=by
  have yi:(ps.map λ(x:Nat×Operand)=>(x.1,a.eval x.2)).toList=ps.toList.map λp=>(p.1,a.eval p.2):=by simp
  rw[<-yi,<-l8]at g1
  exact k9_ hu qJ w9 (by rw[o_,l8]) (by rw[l8];exact hb) (by rw[l8]at g1⊢;rw[<-o_]at g1⊢;exact g1)
 have eZ:(execOp a.eval o).run P w=.ok (.value (Hn [])) (w.alloc (.cells aX ti.el)):=by
  unfold execOp
  simp only[ho]
  rw[Sem.run_bind,c_]
  rfl
 rw[mX,<-oU,<-iQ]
 have Ar:¬M (dy k2.ct.i):=hM _ (by rw[iQ];exact lA) (by rw[mX,iQ];omega)
 refine a_.mono (M:=Mn M (dy k2.ct.i) (dy k2.ct.i+1)) ?_ (λi hi=>hi.imp_right λhi=>by rw[iQ]at hi⊢;exact⟨by omega,hi.2⟩)
 refine yq (nb:=some w.heap.size) (f:=yB mv te.sz (dy k2.ct.i)) (Hn:=Hn) (kt:=kt) (w':=w.alloc (.cells aX ti.el)) (k:={(⟨s.only R,[],ct,[]⟩:Wk)with ct:=⟨k2.ct.a,dy k2.ct.i⟩}) (W1:=qg ⟨s.only R,[],ct,[]⟩ cs++W1) (dp:=true) (y:=y) (t:=.l (nW te.sz n (xs.map (Lf.ev ρ))))
  h (show cC M B d up ρ G a w {(⟨s.only R,[],ct,[]⟩:Wk)with ct:=⟨k2.ct.a,dy k2.ct.i⟩} G from⟨hw.rel,hw.aG⟩) hn Ar (λr=>?_) (λr u hu=>?_) (λl hl=>?_) (λl l' ⟨b,hb⟩ he=>?_)
  (Rc (B0 _)) (λc hc=>by cases hc;exact .inl rfl) (by simp) (λc hc=>by cases hc;simp) (λb hb _=>heap_alloc_old w _ b hb) (yj _ _) rfl jk ?_ eZ
 ·show((k2.w.set (.o (dy k2.ct.i)) _)).look r=_
  rw[show(k2.w.set (.o (dy k2.ct.i)) (.ob true y)).look r=_ from pH (k:=k2) r]
  rw[show k2.w.look r=E9.w.look r by rw[lZ.w],l4 r,a5.2 r,<-Option.or_assoc,<-Option.or_assoc]
  congr 1
  show _=St.look ((aM.o (dy k2.ct.i),_)::(qg ⟨s.only R,[],ct,[]⟩ cs++W1)) r
  simp only[St.look,iS]
  cases(aM.o (dy k2.ct.i)).beq r<;>simp
 ·rw[iS]at hu
  cases hl:(qg ⟨s.only R,[],ct,[]⟩ cs).look r with
  |some u'=>
   rw[hl]at hu
   simp only[Option.some_or,aJ]at hu
   subst hu
   obtain⟨id,x,e1,e2,e3,e4⟩:=Ca hl
   subst e1 e2
   have cS:=hw.obj id
   rw[e4]at cS
   obtain⟨t,ht,aT⟩:=cS
   obtain⟨q,hq⟩:∃q,(q,id)∈mv:=by
    have h0:=hun id e3
    cases lR:W1.look (.o id)with
    |none=>
     have:k1.get (.o id)=Wk.get ⟨s.only R,[],ct,[]⟩ (.o id):=by unfold Wk.get;rw[a5.2,lR,a5.1];simp
     rw[this,e4]at h0;cases h0
    |some u=>obtain⟨p,j,q1,_,_,q4⟩:=a7 _ _ lR;cases q1;exact⟨p,q4⟩
   have nc:=(a8 _ id hq).2
   have E5:=(a6 q id hq).2.1
   have H9:id≠dy k2.ct.i:=λe=>Ar (e▸E5)
   refine⟨id,rfl,⟨t,ht,?_,trivial⟩,E5,λi hi=>by simp[cp]at hi⟩
   have hd:=aT.tw (G':=G.cg (some w.heap.size) (dy k2.ct.i) (yB mv te.sz (dy k2.ct.i)) Hn kt) (w':=w.alloc (.cells aX ti.el)) rfl λc p hc=>by
    have bH:=(hw.rel.fg c _ hc).2
    have cP:¬(w.heap.size=c):=by omega
    exact⟨Bo (l:=.o (dy k2.ct.i) ((q/te.sz,q%te.sz)::p)) (by simp[Gh.cg,cP,hc,yB,nc]) (pS (B0 _) (by simp)),heap_alloc_old w _ c bH⟩
   have hh:(G.cg (some w.heap.size) (dy k2.ct.i) (yB mv te.sz (dy k2.ct.i)) Hn kt).H id []=G.H id []:=by simp[Gh.cg,H9]
   rw[hh]
   exact hd
  |none=>
   rw[hl]at hu
   simp only[Option.none_or]at hu
   obtain⟨p,j,q1,q2,q3,_⟩:=a7 r u hu
   subst q2
   exact⟨j,q1,trivial,q3,λi hi=>by simp[cp]at hi⟩
 ·cases l with
  |f=>rfl
  |x b=>rfl
  |o j p=>
   have h0:=(Option.or_eq_none_iff.1 (by have:=hl j p rfl;rwa[iS]at this)).2
   have:jc mv j=none:=by
    cases hm:jc mv j with
    |none=>rfl
    |some q=>have:=(a6 q j (yA hm)).2.2.1;rw[h0]at this;cases this
   simp[yB,this]
 ·have gK:=hw.rel.fg b _ hb
  cases l with
  |f=>cases he;exact .inl gK.1
  |x b=>cases he;exact .inl gK.1
  |o j p=>
   simp only[yB]at he
   split at he
   ·cases he;exact .inr rfl
   ·cases he;exact .inl gK.1
 ·have hlen:(nW te.sz n (xs.map (Lf.ev ρ))).length=n:=Ra _ _ _
  have ry:∀(ii j:Nat) (t:T),cI (nW te.sz n (xs.map (Lf.ev ρ))) ii j=some t->ii<n∧j<te.sz∧∃v,aX[ii*te.sz+j]?=some v∧
    ((∃u,t=.c u∧v=u∧ib u=true)∨(t=.l []∧v=.slice none 0 0∧fm mv (ii*te.sz+j)=none)∨∃i,fm mv (ii*te.sz+j)=some i∧v=G.H i []∧dh G w i true [] t):=by
   intro ii j t ht
   obtain⟨rr,_,hm,Ai,q1,q2⟩:=pC ht
   rw[hlen]at q1
   rw[H5 _ _ _ vH rr hm]at q2
   rw[B9 _ _ _ _ _ vH q1 q2]at ht
   obtain⟨v,c2,c3⟩:=b3 _ t ht
   rw[Nat.zero_add]at c3
   exact⟨q1,q2,v,by simpa using c2,c3⟩
  refine .l (wd:=te.sz) (cv:=λii j=>aX.getD (ii*te.sz+j) undef) (by rw[hlen];simp[Gh.cg,Hn,Aq]) ⟨by rw[hlen];exact Nat.le_refl _,λhe=>by have:=congrArg List.length he;rw[hlen]at this;simpa using this⟩ (by simp[Gh.cg]) (heap_alloc_new w _) s_ (H5 _ _ _ vH) ?_ ?_ (λ_ _ _ _ hf=>by cases hf) ?_ ?_
  ·intro ii j t ht
   obtain⟨q1,q2,v,q3,_⟩:=ry ii j t ht
   simp[Array.getD_eq_getD_getElem?,q3]
  ·intro ii j v ht
   obtain⟨q1,q2,u,q3,q4⟩:=ry ii j _ ht
   rcases q4 with⟨u',e1,e2,e3⟩|⟨e1,_⟩|⟨i',_,_,e1⟩
   ·cases e1;subst e2;exact⟨by simp[Array.getD_eq_getD_getElem?,q3],e3⟩
   ·cases e1
   ·cases e1
  ·intro ii j ys ht _
   obtain⟨q1,q2,u,q3,q4⟩:=ry ii j _ ht
   rcases q4 with⟨u',e1,e2,e3⟩|⟨e1,e2,e3⟩|⟨i',e1,e2,e3⟩
   ·cases e1
   ·simp[Array.getD_eq_getD_getElem?,q3,e2,Gh.cg,Hn,Aq,e3]
   ·simp[Array.getD_eq_getD_getElem?,q3,e2,Gh.cg,Hn,Aq,e1]
  ·intro ii j ys ht _
   obtain⟨q1,q2,u,q3,q4⟩:=ry ii j _ ht
   rcases q4 with⟨u',e1,e2,e3⟩|⟨e1,e2,e3⟩|⟨i',e1,e2,e3⟩
   ·cases e1
   ·cases e1;exact .nil (by simp[Gh.cg,Hn,Aq,e3])
   ·have nc:=(a8 _ i' (H7 e1)).2
    refine e3.move rfl (λc p hc=>?_) λp=>?_
    ·have bH:=(hw.rel.fg c _ hc).2
     have cP:¬(w.heap.size=c):=by omega
     simp only[List.nil_append]at hc
     refine⟨?_,heap_alloc_old w _ c bH⟩
     have hdiv:(ii*te.sz+j)/te.sz=ii:=by rw[Nat.add_comm,Nat.add_mul_div_right _ _ eY,Nat.div_eq_of_lt q2];omega
     have Rf:(ii*te.sz+j)%te.sz=j:=by rw[Nat.add_comm,Nat.add_mul_mod_self_right,Nat.mod_eq_of_lt q2]
     simp[Gh.cg,cP,hc,yB,nc,hdiv,Rf]
    ·simp[Gh.cg,Hn,Aq,e1]
theorem Rg(cN:cW P cx)(h:Rel M B d up s ρ G a w)(hn:∀n,o.dst=some n->n<a.tmps.size){t n:Nat}{ps:Array (Nat×Operand)}(ho:o.op=.buildSlice t n ps)
  (hk:gb cx bW dR d o oi ⟨s.only R,[],ct,[]⟩=some k')(hd:k'.aP S ρ)(hM:∀i,ct.i<=i->i<k'.ct.i->¬M i):a_ P (Mn M ct.i k'.ct.i) B d up ρ a w s o k'.w Q:=by
 have hw:=cC.start h R ct
 simp only[gb,ho,bQ]at hk
 obtain⟨ti,ed,te,mM,hk⟩:=hk
 cases hc:(Nat.beq ti.kd 3&&Nat.ble (n*te.sz) 65536&&Nat.blt 0 te.sz)with
 |false=>simp[hc]at hk
 |true=>
  simp only[hc,cond_true,bQ,aJ]at hk
  simp only[bB]at hc
  obtain⟨⟨mK,ln⟩,hc3⟩:=hc
  obtain⟨l,hl,cs,iR,⟨k1,xs,dp⟩,tB,hk⟩:=hk
  simp only at hk
  have hT:=cN.ty _ _ ed
  have hE:=cN.ty _ _ mM
  obtain⟨i,z,qJ,l8,E2,w9,ri⟩:=hE.info
  have hu:=hT.sl (cK mK)
  obtain⟨yh,oP⟩:=Ae (G:=G) (w:=w) (ρ:=ρ) ri
  have o_:z.cells.size=te.sz:=by
   have:=yh.length
   rw[hE.vi]at this
   simpa using this.symm
  have eY:0<te.sz:=Nat.lt_of_succ_le (by simpa[Nat.blt]using hc3)
  obtain⟨aX,g1,g2,g3,g4⟩:=BG (a:=a) hw (fs:=(List.range n).map λi=>(i*te.sz,te.sz)) (place:=λi=>some (i*te.sz,te.sz)) (λf o hf=>by
   rw[List.getElem?_map]at hf
   cases hr:(List.range n)[f]? with
   |none=>simp[hr]at hf
   |some f'=>
    have bH:=(List.getElem?_eq_some_iff.1 hr).1
    rw[List.getElem?_eq_getElem bH,List.getElem_range,aJ]at hr
    subst hr
    rw[List.getElem?_eq_getElem bH]at hf
    simpa using hf) ps.toList l (lq te.zero n) cs (madeCells z.cells (n*z.cells.size)) hl iR (Q' yh n) (λi hi=>by rw[H4 oP]at hi;cases hi)
  cases hD:(bif cx.fz bW dR oi then none else Wk.bd ⟨s.only R,[],ct,[]⟩ (lq te.zero n) cs)with
  |some r=>
   obtain⟨kD,xsD⟩:=r
   simp only[Wk.oI,hD,aJ,Prod.mk.injEq]at tB
   obtain⟨rfl,rfl,rfl⟩:=tB
   have hD':Wk.bd ⟨s.only R,[],ct,[]⟩ (lq te.zero n) cs=some (kD,xsD):=by
    cases pI:cx.fz bW dR oi with
    |true=>rw[pI]at hD;cases hD
    |false=>rw[pI]at hD;exact hD
   exact Rd cN h hn ho ed mM hu qJ l8 w9 o_ eY (Nat.le_of_ble_eq_true ln) yh oP g1 ⟨g2,g3⟩ (by rw[g4,size_madeCells,o_]) hD' hk hd hM
  |none=>
  simp only[Wk.oI,hD]at tB
  obtain⟨a1,a2,a3,G2,w2,a4,a5,a6⟩:=H2 hw g2 tB
  generalize hy:k1.em (.lit te.sz (bif dp then(lq te.zero n).map (λz=>!dS z)else [])) xs=ky at hk
  obtain⟨k2,y⟩:=ky
  have vG:k2=(k1.em (.lit te.sz (bif dp then(lq te.zero n).map (λz=>!dS z)else [])) xs).1:=by rw[hy]
  have Re:y=(k1.em (.lit te.sz (bif dp then(lq te.zero n).map (λz=>!dS z)else [])) xs).2:=by rw[hy]
  have lZ:k1.dE k2:=by rw[vG];exact Wk.aS _ _ _
  have oU:bm d o {k2.set (.o (dy k2.ct.i)) (.ob dp y)with ct:=⟨k2.ct.a,dy k2.ct.i+1⟩} (.v false [.o (dy k2.ct.i) []])=k':=hk
  have iQ:k2.ct.i=ct.i:=by rw[lZ.i,a1]
  have eo:(k1.em (.lit te.sz (bif dp then(lq te.zero n).map (λz=>!dS z)else [])) xs).1.aP S ρ:=by
   rw[<-vG]
   rw[<-oU]at hd
   have h2:=b_.1 hd
   exact h2
  obtain⟨vD,r,hr,jk⟩:=Wk.be eo
  rw[<-Re]at jk
  obtain⟨b1,b2,b3⟩:=a6.at
  have s_:aX.size=n*te.sz:=by rw[g4,size_madeCells,o_]
  have vH:(xs.map (Lf.ev ρ)).length=n*te.sz:=by rw[List.length_map,b1,Array.length_toList,s_]
  have tA:r=.l (nW te.sz n (xs.map (Lf.ev ρ)))∧qX (bif dp then(lq te.zero n).map (λz=>!dS z)else []) (xs.map (Lf.ev ρ))=true:=by
   simp only[Prim.ev,vH,Nat.mul_div_cancel _ eY,if_pos eY]at hr
   split at hr
   ·rename_i hm
    exact⟨(Option.some.inj hr).symm,hm⟩
   ·cases hr
  obtain⟨rfl,qh⟩:=tA
  have mX:k'.ct.i=dy ct.i+1:=by rw[<-oU,ll,<-iQ]
  have lA:=uX ct.i
  let Hn:List (Nat×Nat)->Value:=λp=>match p with| []=>.slice (some ⟨w.heap.size,0,none⟩) n n|_=>.slice none 0 0
  have kt:∀p,∃a n c,Hn p=.slice a n c:=λp=>by cases p<;>exact⟨_,_,_,rfl⟩
  have c_:(Instr.buildSlice t n (ps.map λ(i,x)=>(i,a.eval x))).run P w=.ok (.slice (some ⟨w.heap.size,0,none⟩) n n) (w.alloc (.cells aX ti.el)):=by
   have yi:(ps.map λ(x:Nat×Operand)=>(x.1,a.eval x.2)).toList=ps.toList.map λp=>(p.1,a.eval p.2):=by simp
   rw[<-yi,<-l8]at g1
   have:=Nat.le_of_ble_eq_true ln
   exact k9_ hu qJ w9 (by rw[o_,l8]) (by rw[l8];omega) (by rw[l8]at g1⊢;rw[<-o_]at g1⊢;exact g1)
  have eZ:(execOp a.eval o).run P w=.ok (.value (Hn [])) (w.alloc (.cells aX ti.el)):=
   by
   unfold execOp
   simp only[ho]
   rw[Sem.run_bind,c_]
   rfl
  rw[mX,<-oU,<-iQ]
  refine a_.mono (M:=Mn M (dy k2.ct.i) (dy k2.ct.i+1)) ?_ (λi hi=>hi.imp_right λhi=>by rw[iQ]at hi⊢;exact⟨by omega,hi.2⟩)
  have w3:=w2.same lZ
  refine yq (nb:=some w.heap.size) (f:=some) (Hn:=Hn) (kt:=kt) (w':=w.alloc (.cells aX ti.el)) (k:={k2 with ct:=⟨k2.ct.a,dy k2.ct.i⟩}) (W1:=[]) (t:=.l (nW te.sz n (xs.map (Lf.ev ρ))))
   h (show cC M B d up ρ G a w {k2 with ct:=⟨k2.ct.a,dy k2.ct.i⟩} G2 from⟨w3.rel,w3.aG⟩) hn (hM _ (by show ct.i<=dy k2.ct.i;rw[iQ];exact lA) (by rw[mX];show dy k2.ct.i<_;rw[iQ];omega)) (λr=>by exact pH (k:=k2) r) (λr u hu=>by cases hu) (λl _=>rfl) (λl l' ⟨b,hb⟩ he=>by cases he;exact .inl (w2.rel.fg b _ hb).1)
   (λl l' hq he=>by cases he;exact hq) (λc hc=>by cases hc;exact .inl rfl) (by simp) (λc hc=>by cases hc;simp) (λb hb _=>heap_alloc_old w _ b hb) (yj _ _) rfl jk ?_ eZ
  have hlen:(nW te.sz n (xs.map (Lf.ev ρ))).length=n:=Ra _ _ _
  have nC:∀b,b<w.heap.size->G2.q b=none->(G2.cg (some w.heap.size) (dy k2.ct.i) some Hn kt).q b=none∧(w.alloc (.cells aX ti.el)).heap[b]?=w.heap[b]?:=by
   intro b hb h0
   have cP:some w.heap.size≠some b:=by simp;omega
   exact⟨yp (λl l' hq he=>by cases he;exact hq) cP h0,heap_alloc_old w _ b hb⟩
  have ry:∀(ii j:Nat) (t:T),cI (nW te.sz n (xs.map (Lf.ev ρ))) ii j=some t->ii<n∧j<te.sz∧∃v,aX[ii*te.sz+j]?=some v∧du G2.q w t v∧(dp=true->∀ys,t=.l ys->t=.l []∧v=.slice none 0 0):=by
   intro ii j t ht
   obtain⟨rr,_,hm,Ai,q1,q2⟩:=pC ht
   rw[hlen]at q1
   rw[H5 _ _ _ vH rr hm]at q2
   rw[B9 _ _ _ _ _ vH q1 q2]at ht
   obtain⟨zc,v,c1,c2,c3,c4⟩:=b3 _ t ht
   refine⟨q1,q2,v,by simpa using c2,c3,λeA ys H_=>?_⟩
   subst eA
   cases hzn:dS zc with
   |true=>exact c4 rfl hzn
   |false=>
    have:=H6 _ _ qh (ii*te.sz+j) t (by simp[c1,hzn]) ht
    subst H_
    simp[dr]at this
  refine .l (wd:=te.sz) (cv:=λii j=>aX.getD (ii*te.sz+j) undef) (by rw[hlen];simp[Gh.cg,Hn]) ⟨by rw[hlen];exact Nat.le_refl _,λhe=>by have:=congrArg List.length he;rw[hlen]at this;simpa using this⟩ (by simp[Gh.cg]) (heap_alloc_new w _) s_ (H5 _ _ _ vH) ?_ ?_ ?_ ?_ ?_
  ·intro ii j t ht
   obtain⟨q1,q2,v,q3,_⟩:=ry ii j t ht
   simp[Array.getD_eq_getD_getElem?,q3]
  ·intro ii j v ht
   obtain⟨q1,q2,u,q3,q4,_⟩:=ry ii j _ ht
   obtain⟨rfl,hs⟩:=q4.scalar
   exact⟨by simp[Array.getD_eq_getD_getElem?,q3],hs⟩
  ·intro ii j ys ht eA
   obtain⟨q1,q2,u,q3,q4,_⟩:=ry ii j _ ht
   have:=q4.aG (by simp) nC
   simpa[Array.getD_eq_getD_getElem?,q3]using this
  ·intro ii j ys ht eA
   obtain⟨q1,q2,u,q3,q4,q5⟩:=ry ii j _ ht
   obtain⟨_,rfl⟩:=q5 eA ys rfl
   simp[Array.getD_eq_getD_getElem?,q3,Gh.cg,Hn]
  ·intro ii j ys ht eA
   obtain⟨q1,q2,u,q3,q4,q5⟩:=ry ii j _ ht
   obtain⟨e1,rfl⟩:=q5 eA ys rfl
   cases e1
   exact .nil (by simp[Gh.cg,Hn])
end
end Go.Proofs.YtbhplkilhknciaaC

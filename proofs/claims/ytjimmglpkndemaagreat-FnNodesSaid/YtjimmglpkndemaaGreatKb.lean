/- The walk by reflection: a part of its laws, for any function. Conditions: none. -/
import Derived.Test.YtjimmglpkndemaaGreatKa
import Derived.Laws.Slices
import Derived.Deep.AppendSrc
namespace Go.Proofs.YtjimmglpkndemaaGreatC
set_option linter.unusedVariables false
theorem J0{xs:List (List T)}{i off:Nat}{r ts:List T}(hr:xs[i]?=some r)(hf:off+ts.length<=r.length)(i' j':Nat):
  eg (setRow xs i off ts) i' j'=if i'=i∧off<=j'∧j'<off+ts.length then ts[j'-off]? else eg xs i' j':=by
 unfold eg setRow
 rw[List.getElem?_modify]
 by_cases hi:i=i'
 ·subst hi
  simp only[hr,if_true,Option.map_eq_map,Option.map_some,Option.bind_some,true_and]
  have hl:(r.take off).length=off:=by simp;omega
  by_cases h1:j'<off
  ·rw[if_neg (by omega),List.append_assoc,List.getElem?_append_left (by omega),List.getElem?_take,if_pos h1]
  ·rw[List.append_assoc,List.getElem?_append_right (by omega),hl]
   by_cases h2:j'<off+ts.length
   ·rw[if_pos ⟨by omega,h2⟩,List.getElem?_append_left (by omega)]
   ·rw[if_neg (by omega),List.getElem?_append_right (by omega),List.getElem?_drop]
    congr 1
    omega
 ·rw[if_neg (by omega:¬(i'=i∧_))]
  cases xs[i']? <;>simp[hi]
theorem DU{xs:List (List T)}{i off:Nat}{ts:List T}:(setRow xs i off ts).length=xs.length:=by simp[setRow]
theorem RH{xs:List (List T)}{i off wd:Nat}{r ts:List T}(hw:∀r∈xs,r.length=wd)(hr:xs[i]?=some r)(hf:off+ts.length<=r.length):
  ∀r∈setRow xs i off ts,r.length=wd:=by
 intro r' jG
 obtain⟨n,hn⟩:=List.getElem?_of_mem jG
 unfold setRow at hn
 rw[List.getElem?_modify]at hn
 by_cases hi:i=n
 ·subst hi
  simp only[hr,if_true,Option.map_eq_map,Option.map_some,bP]at hn
  have:=hw r (List.mem_of_getElem? hr)
  subst hn
  simp
  omega
 ·simp only[if_neg hi]at hn
  cases hx:xs[n]? with
  |none=>simp[hx]at hn
  |some r''=>simp[hx]at hn;subst hn;exact hw _ (List.mem_of_getElem? hx)
theorem fG.sib{G:Gh}{w w':World}{id:Nat}{p:List (Nat×Nat)}{t:T}{dp:Bool}(h:fG G w id dp p t)(g_:dp=true)
  (hh:∀c q,G.ω c=some (.o id (p++q))->w'.heap[c]?=w.heap[c]?):fG G w' id dp p t:=by
 induction h with
 |nil h=>exact .nil h
 | @l dp p xs b wd cap arr elem cv h1 h2 h3 h4 h5 h6 h7 h8 h9 nX xf ih=>
  refine .l h1 h2 h3 ((hh b [] (by simpa using h3)).trans h4) h5 h6 h7 h8 (λi j ys hy hd=>by rw[g_]at hd;cases hd) nX λi j ys hy hd=>?_
  exact ih i j ys hy hd rfl λc q hc=>hh c ((i,j)::q) (by simpa using hc)
theorem fG.put{G:Gh}{w w':World}{id:Nat}{dp:Bool}{p:List (Nat×Nat)}{xs:List (List T)}{b n cap:Nat}(h:fG G w id dp p (.l xs))
  (hH:G.H id p=.slice (some ⟨b,0,none⟩) n cap)(J1:qt (.o id p)=false){i off:Nat}{r ts:List T}{vs:List Value}(hr:xs[i]?=some r)(hf:off+ts.length<=r.length)(hl:vs.length=ts.length)
  {arr:Array Value}{elem:TypeId}(hb:w.heap[b]?=some (.cells arr elem (0,0)))
  (km:w'.heap[b]?=some (.cells (arr.toList.take (i*r.length+off)++vs++arr.toList.drop (i*r.length+off+vs.length)).toArray elem (0,0)))
  (hs:w'.heap.size=w.heap.size)(hh:∀c,c≠b->w'.heap[c]?=w.heap[c]?)
  (hd:∀(j:Nat) (t:T) (v:Value),ts[j]?=some t->vs[j]?=some v->fq G.q w' t v)(np:dp=true->ts.all eA=true):fG G w' id dp p (.l (setRow xs i off ts)):=by
 cases h with
 |nil Iv=>rw[hH]at Iv;cases Iv
 | @l _ _ _ b2 wd J2 axB awv cv h1 h2 h3 h4 h5 h6 h7 h8 h9 nX xf=>
  rw[hH]at h1
  cases h1
  rw[hb]at h4
  cases h4
  have hrl:r.length=wd:=h6 r (List.mem_of_getElem? hr)
  rw[hrl]at km
  have RI:i<xs.length:=(List.getElem?_eq_some_iff.1 hr).1
  have lM:i*wd+off+vs.length<=arr.size:=by
   rw[h5]
   have:(i+1)*wd<=cap*wd:=Nat.mul_le_mul_right _ (by omega)
   rw[Nat.add_mul]at this
   omega
  have qc:∀c,c<w.heap.size->G.q c=none->G.q c=none∧w'.heap[c]?=w.heap[c]?:=λc _ hc=>⟨hc,hh c λe=>by subst e;exact vZ h3 J1 hc⟩
  let sf:Nat->Nat->Value:=λi' j'=>if i'=i∧off<=j'∧j'<off+ts.length then vs.getD (j'-off) undef else cv i' j'
  have bR:=J0 hr hf
  have qd:∀i' j',j'<wd->(arr.toList.take (i*wd+off)++vs++arr.toList.drop (i*wd+off+vs.length)).toArray[i'*wd+j']? =
    if i'=i∧off<=j'∧j'<off+ts.length then vs[j'-off]? else arr[i'*wd+j']?:=by
   intro i' j' qY
   rw[List.getElem?_toArray,<-E3 _ _ _ lM,Array.getElem?_toList,Qh _ _ _ _ lM]
   have key:(i*wd+off<=i'*wd+j'∧i'*wd+j'<i*wd+off+vs.length)↔(i'=i∧off<=j'∧j'<off+ts.length):=by
    constructor
    ·rintro⟨g1,g2⟩
     have:i'=i:=by
      rcases Nat.lt_trichotomy i' i with bC|he|RJ
      ·have:(i'+1)*wd<=i*wd:=Nat.mul_le_mul_right _ bC
       rw[Nat.add_mul]at this
       omega
      ·exact he
      ·have:(i+1)*wd<=i'*wd:=Nat.mul_le_mul_right _ RJ
       rw[Nat.add_mul]at this
       omega
     subst this
     exact⟨rfl,by omega,by omega⟩
    ·rintro⟨rfl,g1,g2⟩
     exact⟨by omega,by omega⟩
   by_cases hc:i'=i∧off<=j'∧j'<off+ts.length
   ·rw[if_pos (key.2 hc),if_pos hc]
    congr 1
    obtain⟨rfl,_,_⟩:=hc
    omega
   ·rw[if_neg (λg=>hc (key.1 g)),if_neg hc]
  have inn:∀i' j' t,eg (setRow xs i off ts) i' j'=some t->(i'=i∧off<=j'∧j'<off+ts.length)->∃v,vs[j'-off]?=some v∧sf i' j'=v∧fq G.q w' t v:=by
   intro i' j' t ht hc
   rw[bR,if_pos hc]at ht
   have bC:j'-off<vs.length:=by omega
   refine⟨vs[j'-off],List.getElem?_eq_getElem bC,?_,hd _ _ _ ht (List.getElem?_eq_getElem bC)⟩
   simp[sf,hc,List.getD,List.getElem?_eq_getElem bC]
  have out:∀i' j' t,eg (setRow xs i off ts) i' j'=some t->¬(i'=i∧off<=j'∧j'<off+ts.length)->eg xs i' j'=some t∧sf i' j'=cv i' j':=by
   intro i' j' t ht hc
   rw[bR,if_neg hc]at ht
   exact⟨ht,by simp only[sf,if_neg hc]⟩
  have xl:∀i' j' t,eg (setRow xs i off ts) i' j'=some t->(i'=i∧off<=j'∧j'<off+ts.length)->dp=true->eA t=true:=by
   intro i' j' t ht hc g_
   rw[bR,if_pos hc]at ht
   exact List.all_eq_true.1 (np g_) t (List.mem_of_getElem? ht)
  refine .l (cv:=sf) (b:=b) (wd:=wd) (cap:=cap) (elem:=elem) (by rw[hH,DU]) (by rw[DU];exact⟨h2.1,λhe=>h2.2 (List.eq_nil_of_length_eq_zero (by rw[<-DU,he];rfl))⟩) h3 km ?_ (RH h6 hr hf) ?_ ?_ ?_ ?_ ?_
  ·rw[List.size_toArray,<-E3 _ _ _ lM,Array.length_toList,Qg];exact h5
  ·intro i' j' t ht
   have qY:j'<wd:=by
    obtain⟨r',jG,jV,_,_,bC⟩:=xe ht
    have:=RH h6 hr hf r' jV
    omega
   rw[qd i' j' qY]
   by_cases hc:i'=i∧off<=j'∧j'<off+ts.length
   ·obtain⟨v,g1,g2,_⟩:=inn i' j' t ht hc
    rw[if_pos hc,g1,g2]
   ·obtain⟨g1,g2⟩:=out i' j' t ht hc
    rw[if_neg hc,g2]
    exact h7 i' j' t g1
  ·intro i' j' v ht
   by_cases hc:i'=i∧off<=j'∧j'<off+ts.length
   ·obtain⟨u,g1,g2,g3⟩:=inn i' j' _ ht hc
    obtain⟨e,hs⟩:=g3.scalar
    exact⟨g2.trans e,hs⟩
   ·obtain⟨g1,g2⟩:=out i' j' _ ht hc
    rw[g2];exact h8 i' j' v g1
  ·intro i' j' ys ht g_
   by_cases hc:i'=i∧off<=j'∧j'<off+ts.length
   ·obtain⟨u,g1,g2,g3⟩:=inn i' j' _ ht hc
    rw[g2];exact g3
   ·obtain⟨g1,g2⟩:=out i' j' _ ht hc
    rw[g2];exact(h9 i' j' ys g1 g_).bw (by omega) qc
  ·intro i' j' ys ht g_
   by_cases hc:i'=i∧off<=j'∧j'<off+ts.length
   ·have:=xl i' j' _ ht hc g_
    simp[eA]at this
   ·obtain⟨g1,g2⟩:=out i' j' _ ht hc
    rw[g2];exact nX i' j' ys g1 g_
  ·intro i' j' ys ht g_
   by_cases hc:i'=i∧off<=j'∧j'<off+ts.length
   ·have:=xl i' j' _ ht hc g_
    simp[eA]at this
   ·obtain⟨g1,g2⟩:=out i' j' _ ht hc
    refine(xf i' j' ys g1 g_).sib rfl λc q J3=>hh c λe=>?_
    subst e
    rw[h3]at J3
    simp at J3
def nz:List (Nat×Nat)->T->T->Option T
 | [],_,u=>some u
 |(i,j)::p,.l xs,u=>(eg xs i j).bind λs=>(nz p s u).bind λs'=>some (.l (setRow xs i j [s']))
 |_,_,_=>none
theorem agh:∀{p:List (Nat×Nat)} {t:T} {ys:List (List T)},jh p t=some (.l ys)->∃xs,t=.l xs
 | [],t,ys,h=>by simp[jh]at h;exact⟨ys,h⟩
 |(i,j)::p,.l xs,ys,h=>⟨xs,rfl⟩
 |(i,j)::p,.c v,ys,h=>by simp[jh]at h
theorem agi:∀{p:List (Nat×Nat)} {t t':T} {zs:List (List T)},nz p t (.l zs)=some t'->∃xs,t'=.l xs
 | [],t,t',zs,h=>by simp[nz]at h;exact⟨zs,h.symm⟩
 |(i,j)::p,.l xs,t',zs,h=>by
  simp only[nz,cU,bP]at h
  obtain⟨s,hs,s',J4,rfl⟩:=h
  exact⟨_,rfl⟩
 |(i,j)::p,.c v,t',zs,h=>by simp[nz]at h
theorem fG.nz{G:Gh}{w w':World}{id b:Nat}(hh:∀c,c≠b->w'.heap[c]?=w.heap[c]?):∀{p p0:List (Nat×Nat)} {t t':T} {ys zs:List (List T)},
  fG G w id true p0 t->jh p t=some (.l ys)->nz p t (.l zs)=some t'->G.ω b=some (.o id (p0++p))->fG G w' id true (p0++p) (.l zs)->fG G w' id true p0 t'
 | [],p0,t,t',ys,zs,h,hd,hb,iE,hs=>by
  simp only[Go.Proofs.YtjimmglpkndemaaGreatC.nz,bP]at hb
  subst hb
  simpa using hs
 |(i,j)::p,p0,t,t',ys,zs,h,hd,hb,iE,hs=>by
  cases h with
  |nil hH=>simp[jh,eg]at hd
  | @l _ _ xs b2 wd cap arr elem cv h1 h2 h3 h4 h5 h6 h7 h8 h9 nX xf=>
   simp only[jh,cU]at hd
   obtain⟨s,mD,nx⟩:=hd
   simp only[Go.Proofs.YtjimmglpkndemaaGreatC.nz,mD,Option.bind_some,cU,bP]at hb
   obtain⟨s',J4,rfl⟩:=hb
   obtain⟨us,rfl⟩:=agh nx
   obtain⟨us',rfl⟩:=agi J4
   have ih:=fG.nz hh (p:=p) (p0:=p0++[(i,j)]) (xf i j us mD rfl) nx J4 (by simpa using iE) (by simpa using hs)
   obtain⟨r,hr,jV,Iw,_,hjl⟩:=xe mD
   have hf:j+[T.l us'].length<=r.length:=by simp;omega
   have dU:b2≠b:=by intro e;subst e;rw[h3]at iE;simp at iE
   have bR:∀i' j',eg (setRow xs i j [T.l us']) i' j'=if i'=i∧j'=j then some (T.l us')else eg xs i' j':=by
    intro i' j'
    rw[J0 hr hf]
    by_cases hc:i'=i∧j'=j
    ·obtain⟨rfl,rfl⟩:=hc
     rw[if_pos ⟨rfl,Nat.le_refl _,by simp⟩,if_pos ⟨rfl,rfl⟩];simp
    ·rw[if_neg (by simp only[List.length_singleton];omega),if_neg hc]
   refine .l (cv:=cv) (by rw[DU];exact h1) (by rw[DU];exact⟨h2.1,λhe=>h2.2 (List.eq_nil_of_length_eq_zero (by rw[<-DU,he];rfl))⟩) h3 ((hh b2 dU).trans h4) h5 (RH h6 hr hf) ?_ ?_ (λi' j' ys' ht kX=>by cases kX) ?_ ?_
   ·intro i' j' t ht
    rw[bR]at ht
    split at ht
    ·rename_i hc;obtain⟨rfl,rfl⟩:=hc;exact h7 _ _ _ mD
    ·exact h7 _ _ _ ht
   ·intro i' j' v ht
    rw[bR]at ht
    split at ht
    ·cases ht
    ·exact h8 _ _ _ ht
   ·intro i' j' ys' ht _
    rw[bR]at ht
    split at ht
    ·rename_i hc;obtain⟨rfl,rfl⟩:=hc;exact nX _ _ _ mD rfl
    ·exact nX _ _ _ ht rfl
   ·intro i' j' ys' ht _
    rw[bR]at ht
    split at ht
    ·rename_i hc;obtain⟨rfl,rfl⟩:=hc;cases ht;exact ih
    ·rename_i hc
     refine(xf i' j' ys' ht rfl).sib rfl λc q J3=>hh c λe=>?_
     subst e
     rw[iE]at J3
     simp at J3
     exact hc ⟨J3.1.1.symm,J3.1.2.symm⟩
section
variable {S:Nat->aA} {ρ:List T}
theorem Wk.sj:∀(q:nh) (k:Wk) (x y:Lf),k.fB (k.up x y q).1
 | [],k,x,y=>.refl k
 |(ix,w,j)::q,k,x,y=>by
  simp only[Wk.up]
  exact((Wk.bX k _ _).trans (Wk.sj q _ _ _)).trans (Wk.bX _ _ _)
theorem Wk.wj:∀(q:nh) (k:Wk) (x y:Lf),(k.up x y q).1.bT S ρ->k.bT S ρ
 | [],_,_,_,h=>h
 |(ix,w,j)::q,k,x,y,h=>by
  simp only[Wk.up]at h
  exact(Wk.cf (Wk.wj q _ _ _ (Wk.cf h).1)).1
theorem agk{x ix z:Lf}{w j i:Nat}{xs:List (List T)}{t u:T}(hx:x.gh ρ=some (.l xs))(hi:ma ρ ix=some i)(hz:z.gh ρ=some u)
  (h:Prim.ev (.ya w j) [x.ev ρ,ix.ev ρ,z.ev ρ]=some t):t=.l (setRow xs i j [u]):=by
 obtain⟨k,hk⟩:=yp hi
 rw[Lf.cb hx,hk,Lf.cb hz]at h
 simp only[Prim.ev,A1,T.rows,T.int,Option.bind_some,Int.toNat_natCast]at h
 cases hr:xs[i]? with
 |none=>simp[hr]at h
 |some r=>
  simp only[hr,Option.bind_some]at h
  split at h
  ·split at h
   ·simp only[bP]at h;exact h.symm
   ·cases h
  ·cases h
theorem Wk.xm:∀(q:nh) (k:Wk) (x y:Lf) {t:T} {zs:List (List T)} {p:List (Nat×Nat)},(k.up x y q).1.bT S ρ->x.gh ρ=some t->y.gh ρ=some (.l zs)->hY ρ q=some p->
  (q=[]∨∃xs,t=.l xs)->∃t',nz p t (.l zs)=some t'∧(k.up x y q).2.gh ρ=some t'
 | [],k,x,y,t,zs,p,h,hx,hy,hp,_=>by
  simp only[hY]at hp
  cases hp
  exact⟨.l zs,rfl,hy⟩
 |(ix,w,j)::q,k,x,y,t,zs,p,h,hx,hy,hp,ht=>by
  simp only[Wk.up]at h⊢
  obtain⟨xs,rfl⟩:=ht.resolve_left (by simp)
  simp only[hY]at hp
  cases hi:ma ρ ix with
  |none=>simp[hi]at hp
  |some i=>
   cases hq:hY ρ q with
   |none=>simp[hi,hq]at hp
   |some p'=>
    simp[hi,hq]at hp
    subst hp
    obtain⟨h2,t',jZ,jJ⟩:=Wk.cf h
    obtain⟨_,u,hu,huv⟩:=Wk.cf (Wk.wj q _ _ _ h2)
    obtain⟨ys,rfl,bR,_⟩:=EX hx hi hu
    obtain⟨v,hv,s9⟩:=Wk.xm q _ _ _ h2 huv hy hq (.inr ⟨ys,rfl⟩)
    have:=agk hx hi s9 jZ
    subst this
    exact⟨_,by simp[nz,bR,hv],jJ⟩
end
section
variable {M:Nat->Prop} {B:ft} {d:Nat} {up:Nat->Nat->Value} {ρ:List T} {G:Gh} {a:Act} {w:World} {S:Nat->aA} {P:Program}
variable {cx:Cx} {df fP oi:Nat} {s:St} {R:List bN} {ct:Ct} {k':Wk} {o:Oper} {Q:Exit->Act->World->Prop}
theorem kC_{t:Nat}{ti:TI}(hT:tX P t ti){b off:Nat}{v:Value}(hl:v.cells.size=ti.sz){arr:Array Value}{elem:TypeId}
  (hb:w.heap[b]?=some (.cells arr elem (0,0)))(hf:off+v.cells.size<=arr.size)(h1:∀u∈v.cells.toList,u.oneCell'=true):
  (Instr.storeAt t (.pointer (some ⟨b,off,none⟩)) v).run P w=.ok () (w.setRow b (arr.toList.take off++v.cells.toList++arr.toList.drop (off+v.cells.toList.length)).toArray):=by
 obtain⟨i,z,hi,hs,_,_,_⟩:=hT.info
 have cn:=run_storeCells_at (P:=P) b off elem v.cells.toList 0 arr w hb (by simpa using hf) h1
 simp only[Nat.add_zero]at cn
 simp[Instr.storeAt,Instr.sureAddr,storeVar,sizeOf,typeInfo,hi,hs,hl]
 simpa[hl]using cn
theorem J5(w:World)(b:Nat)(cs:Array Value):jL w (w.setRow b cs):=⟨rfl,rfl,rfl⟩
theorem Ix(w:World)(b:Nat)(cs:Array Value):(w.setRow b cs).heap.size=w.heap.size:=by simp[World.setRow]
theorem RK{b:Nat}{l:Lb}(hl:G.ω b=some l)(J1:qt l=false)(cs:Array Value){I:Lb->Prop}(hI:I l){N:Nat->Prop}:dM I N G w G (w.setRow b cs):=by
 refine⟨by rw[Ix];exact Nat.le_refl _,λc _ hc=>⟨hc,setRow_other _ _ _ _ λe=>?_⟩,λc _ hc=>hc,λc l' hc hn=>⟨hc,setRow_other _ _ _ _ λe=>?_⟩,λ_ _=>⟨rfl,λ_ _=>rfl⟩⟩
 ·subst e;exact vZ hl J1 hc
 ·subst e;rw[hl]at hc;cases hc;exact hn hI
theorem E7{t:Nat}{x y:Operand}(ho:o.op=.store t x y){w':World}(h:(Instr.storeAt t (a.eval x) (a.eval y)).run P w=.ok () w'):
  (execOp a.eval o).run P w=.ok .skip w':=by
 unfold execOp
 rw[ho]
 show Sem.run P (do Instr.storeAt t (a.eval x) (a.eval y);pure Next.skip) w=_
 rw[Sem.run_bind,h];rfl
theorem agl(ez:eZ P cx)(h:Rel M B d up s ρ G a w)(hn:∀n,o.dst=some n->n<a.tmps.size){t:Nat}{x y:Operand}(ho:o.op=.store t x y)
  {bx off:Nat}(hx:cB d (Wk.get ⟨s.only R,[],ct,[]⟩) x=.pt bx off)
  (hk:∃k1,storeAt cx ⟨s.only R,[],ct,[]⟩ t (cB d (Wk.get ⟨s.only R,[],ct,[]⟩) x) (cB d (Wk.get ⟨s.only R,[],ct,[]⟩) y)=some k1∧cm d o k1 .un=k'):b_ P M B d up ρ a w s o k'.w Q∧k'.ct.i=ct.i:=by
 have hw:=dL.start h R ct
 obtain⟨k1,cn,hk⟩:=hk
 have dh:cm d o k1 .un=k':=hk
 subst dh
 simp only[storeAt,hx,cU]at cn
 obtain⟨ti,gn,cs,kZ,cn⟩:=cn
 cases hl:Nat.beq cs.length ti.sz with
 |false=>simp[hl]at cn
 |true=>
  simp only[hl,cond_true]at cn
  have hlen:=ew hl
  obtain⟨hr,hm⟩:=hw.ji y
  obtain⟨xh,_⟩:=hw.ji x
  rw[hx]at xh
  unfold cellsOf at kZ
  split at kZ
  ·rename_i ag es0 fg
   cases kZ
   rw[fg]at hr hm
   have ta:=RC hr
   split at cn
   ·rename_i ag0 yd hold
    cases hle:Nat.ble (off+cs.length) yd.length with
    |false=>simp[hle]at cn
    |true=>
     simp only[hle,cond_true,bP]at cn
     subst cn
     have lM:=Nat.le_of_ble_eq_true hle
     have vg:=hw.rel.bx bx
     rw[<-Wk.bn,hold]at vg
     obtain⟨iE,arr,elem,hb,Iy⟩:=vg
     have pi:=ta.length
     have qe:=Iy.length
     simp only[Array.length_toList]at pi qe
     have fu:=kC_ (w:=w) (ez.ty _ _ gn) (v:=a.eval y) (by rw[<-pi];exact hlen) hb (off:=off) (by omega) (λu hu=>ta.one u hu)
     have ko:=Iy.gP off ta
     have E6:=RA yd cs off
     have hmo:∀i∈dZ yd,M i:=λi hi=>hw.rel.gA (.x bx) i (by rw[<-Wk.bn,hold];exact hi)
     have hmM:∀i∈dZ (gP yd off cs),M i:=λi hi=>(E6 i hi).elim (hmo i) (hm i)
     refine⟨?_,by rw[nk];rfl⟩
     have hK:dM (oQ (fW d o .un++[(.x bx,.v ag0 (gP yd off cs))])) (λ_=>False) G w G
       (w.setRow (G.β bx) (arr.toList.take off++(a.eval y).cells.toList++arr.toList.drop (off+(a.eval y).cells.toList.length)).toArray):=by
      refine RK iE rfl _ ?_
      show St.look _ (bN.x bx)≠none
      rw[mE,vh];simp
     simp only[b_,Oper.wp,E7 ho (by rw[show a.eval x=_ from xh];exact fu),Oper.upon]
     refine⟨G,wh h hw (W2:=fW d o .un++[(.x bx,.v ag0 (gP yd off cs))]) (yD (W2:=[(.x bx,.v ag0 (gP yd off cs))]) λr=>by exact vi r)
      hK (λi hi=>hi.elim) (λi hi=>hi) (λn oU=>wi oU) (J5 _ _ _) ?_,A4 _ _ _⟩
     refine⟨λe n u he hl=>?_,λb u hl=>?_,λi u hl=>?_,λr u hl i hi=>?_,λi hi=>?_,λb l hb=>?_⟩
     ·rcases lN hl with⟨n',iA,e1,rfl⟩|hl
      ·trivial
      ·rcases j9 hl with⟨e1,_⟩|hl
       ·cases e1
       ·cases hl
     ·rcases lN hl with⟨n',iA,e1,rfl⟩|hl
      ·cases e1
      ·rcases j9 hl with⟨e1,rfl⟩|hl
       ·cases e1
        refine⟨iE,_,elem,setRow_heap w _ arr _ elem _ hb,?_⟩
        exact ko.bw hK λi _ hf=>hf
       ·cases hl
     ·rcases lN hl with⟨n',iA,e1,rfl⟩|hl
      ·cases e1
      ·rcases j9 hl with⟨e1,rfl⟩|hl
       ·cases e1
       ·cases hl
     ·rcases lN hl with⟨n',iA,e1,rfl⟩|hl
      ·simp[dI]at hi
      ·rcases j9 hl with⟨e1,rfl⟩|hl
       ·exact hmM i hi
       ·cases hl
     ·have:∀r:bN,(r=.x i∨r=.o i)->St.look (fW d o .un++[(bN.x bx,SV.v ag0 (gP yd off cs))]) r≠none->i=bx:=by
       intro r hr hl
       obtain⟨u,hu⟩:=Option.ne_none_iff_exists'.1 hl
       rcases lN hu with⟨n',iA,e1,rfl⟩|hl
       ·rcases hr with rfl|rfl<;>cases e1
       ·rcases j9 hl with⟨e1,rfl⟩|hl
        ·rcases hr with rfl|rfl
         ·cases e1;rfl
         ·cases e1
        ·cases hl
      have hMb:M bx:=hw.rel.key bx (.inl (by rw[<-Wk.bn,hold];simp))
      rcases hi with hi|hi
      ·rw[this _ (.inl rfl) hi];exact hMb
      ·rw[this _ (.inr rfl) hi];exact hMb
     ·rw[Ix];exact h.iP b l hb
   ·cases cn
  ·cases kZ
def fa(ω:Nat->Option Lb)(w:World):List T->List Value->Prop
 | [],[]=>True
 |t::ts,v::vs=>fq ω w t v∧fa ω w ts vs
 |_,_=>False
theorem fa.length{ω:Nat->Option Lb}:∀{ts:List T} {vs:List Value},fa ω w ts vs->ts.length=vs.length
 | [],[],_=>rfl
 | [],_::_,h=>h.elim
 |_::_,[],h=>h.elim
 |_::ts,_::vs,h=>by simp[fa.length h.2]
theorem fa.get{ω:Nat->Option Lb}:∀{ts:List T} {vs:List Value},fa ω w ts vs->∀(j:Nat) (t:T) (v:Value),ts[j]?=some t->vs[j]?=some v->fq ω w t v
 | [],[],_,j,t,v,h,_=>by simp at h
 | [],_::_,h,_,_,_,_,_=>h.elim
 |_::_,[],h,_,_,_,_,_=>h.elim
 |t::ts,v::vs,h,0,_,_,h1,h2=>by simp at h1 h2;subst h1 h2;exact h.1
 |t::ts,v::vs,h,j+1,_,_,h1,h2=>fa.get h.2 j _ _ (by simpa using h1) (by simpa using h2)
theorem fa.eA{ω v8:Nat->Option Lb}{w':World}:∀{ts:List T} {vs:List Value},fa ω w ts vs->ts.all eA=true->fa v8 w' ts vs
 | [],[],_,_=>trivial
 | [],_::_,h,_=>h.elim
 |_::_,[],h,_=>h.elim
 |t::ts,v::vs,h,hs=>by
  simp only[List.all_cons,bL]at hs
  refine⟨?_,fa.eA h.2 hs.2⟩
  obtain⟨u,rfl⟩:=yA hs.1
  obtain⟨rfl,hu⟩:=h.1.scalar
  exact .c hu
theorem fa.bw{ω v8:Nat->Option Lb}{w':World}(hs:w.heap.size<=w'.heap.size)(hf:∀b,b<w.heap.size->ω b=none->v8 b=none∧w'.heap[b]?=w.heap[b]?):
  ∀{ts:List T} {vs:List Value},fa ω w ts vs->fa v8 w' ts vs
 | [],[],_=>trivial
 | [],_::_,h=>h.elim
 |_::_,[],h=>h.elim
 |t::ts,v::vs,h=>⟨h.1.bw hs hf,fa.bw hs hf h.2⟩
def Bd(k:Wk)(cs:List Ce):Prop:=∀id∈dZ cs,∃pv x,k.get (.o id)=.fz pv x
theorem Wk.rz{k k1:Wk}{c:Ce}{x:Lf}{G1:Gh}{v:Value}(h:k.val c=some (k1,x))(hr:gD G1 w ρ c v)(hk:dL M B d up ρ G a w k G1)(hf:Bd k [c]):
  ∃t,x.gh ρ=some t∧fq G1.q w t v:=by
 cases c with
 |p y=>simp[Wk.val]at h;obtain⟨_,rfl⟩:=h;exact hr
 |n=>simp[Wk.val]at h;obtain⟨_,rfl⟩:=h;cases hr;exact⟨_,rfl,.nil⟩
 |d=>simp[Wk.val]at h
 |o id q=>
  obtain⟨pv,y,hy⟩:=hf id (by simp[dZ])
  have eU:=hk.obj id
  obtain⟨p,hp,rfl⟩:=hr
  simp only[Wk.val,hy]at h
  rw[hy]at eU
  split at h
  ·simp at h
   obtain⟨_,rfl⟩:=h
   simp only[mB]at hp
   cases hp
   exact⟨_,eU.choose_spec.1,eU.choose_spec.2.1⟩
  ·cases h
theorem Wk.il:∀{cs:List Ce} {k k1:Wk} {xs:List Lf},k.jI cs=some (k1,xs)->k.fB k1
 | [],k,k1,xs,h=>by simp[Wk.jI]at h;obtain⟨rfl,_⟩:=h;exact .refl _
 |c::cs,k,k1,xs,h=>by
  simp only[Wk.jI,cU,bP,Prod.mk.injEq]at h
  obtain⟨⟨k2,x⟩,h1,⟨k3,ys⟩,h2,rfl,rfl⟩:=h
  exact(Wk.ek h1).trans (Wk.il h2)
theorem Wk.lO:∀{cs:List Ce} {k k1:Wk} {xs:List Lf},k.jI cs=some (k1,xs)->k1.bT S ρ->k.bT S ρ
 | [],k,k1,xs,h,hd=>by simp[Wk.jI]at h;obtain⟨rfl,_⟩:=h;exact hd
 |c::cs,k,k1,xs,h,hd=>by
  simp only[Wk.jI,cU,bP,Prod.mk.injEq]at h
  obtain⟨⟨k2,x⟩,h1,⟨k3,ys⟩,h2,rfl,rfl⟩:=h
  exact Wk.mb h1 (Wk.lO h2 hd)
theorem Wk.im:∀{cs:List Ce} {k k1:Wk} {xs:List Lf} {G1:Gh} {vs:List Value},k.jI cs=some (k1,xs)->k1.bT S ρ->bu G1 w ρ cs vs->dL M B d up ρ G a w k G1->
  ∃ts,xs.map (Lf.ev ρ)=ts∧fa (er G1.ω) w ts vs∧(Bd k cs->fa G1.q w ts vs)∧xs.length=vs.length
 | [],k,k1,xs,G1,vs,h,hd,hr,hk=>by
  simp[Wk.jI]at h
  obtain⟨_,rfl⟩:=h
  cases vs with
  |nil=>exact⟨[],rfl,trivial,λ_=>trivial,rfl⟩
  |cons _ _=>exact hr.elim
 |c::cs,k,k1,xs,G1,[],h,hd,hr,hk=>hr.elim
 |c::cs,k,k1,xs,G1,v::vs,h,hd,hr,hk=>by
  simp only[Wk.jI,cU,bP,Prod.mk.injEq]at h
  obtain⟨⟨k2,x⟩,h1,⟨k3,ys⟩,h2,rfl,rfl⟩:=h
  have hs:=Wk.ek h1
  obtain⟨ts,e1,e2,e3,e4⟩:=Wk.im h2 hd hr.2 (hk.same hs)
  obtain⟨t,ht,mC⟩:=Wk.lJ h1 (Wk.lO h2 hd) hr.1 λid _=>hk.obj id
  refine⟨t::ts,by simp[e1,Lf.cb ht],⟨mC,e2⟩,λhf=>⟨?_,e3 λid hid=>?_⟩,by simp[e4]⟩
  ·obtain⟨t',jZ,mL⟩:=Wk.rz h1 hr.1 hk λid hid=>hf id (by rw[yo];exact List.mem_append_left _ hid)
   rw[ht]at jZ
   cases jZ
   exact mL
  ·rw[hs.get]
   exact hf id (by rw[yo];exact List.mem_append_right _ hid)
theorem dL.eY:∀{cs:List Ce} {k k1:Wk} {G1:Gh},dL M B d up ρ G a w k G1->k.eY cs=some k1->
  ∃G2,dL M B d up ρ G a w k1 G2∧G2.β=G1.β∧G2.H=G1.H∧k1.ct=k.ct∧k1.is=k.is∧Bd k1 cs∧(∀id pv x,k.get (.o id)=.fz pv x->k1.get (.o id)=.fz pv x)∧
   (∀id dp x,k1.get (.o id)=.ob dp x->k.get (.o id)=.ob dp x)
 | [],k,k1,G1,h,hk=>by
  simp[Wk.eY]at hk
  subst hk
  exact⟨G1,h,rfl,rfl,rfl,rfl,(λ_ h=>by cases h),(λ_ _ _ h=>h),λ_ _ _ h=>h⟩
 |c::cs,k,k1,G1,h,hk=>by
  cases c with
  |o id q=>
   simp only[Wk.eY,cU]at hk
   obtain⟨k2,h1,h2⟩:=hk
   obtain⟨G2,g1,g2,g3,g4,g5,g6⟩:=h.mj h1
   obtain⟨G3,f1,f2,f3,f4,f5,f6,f7,f8⟩:=dL.eY g1 h2
   have t_:∃pv x,k2.get (.o id)=.fz pv x:=by
    unfold Wk.mj at h1
    split at h1
    ·rename_i dp x hx;cases h1;exact⟨.z,x,by simp[Wk.get,Wk.set,St.bI]⟩
    ·rename_i pv x hx;cases h1;exact⟨pv,x,hx⟩
    ·cases h1
   have Be:∀i,i≠id->k2.get (.o i)=k.get (.o i):=by
    intro i hi
    unfold Wk.mj at h1
    split at h1
    ·cases h1;simp only[Wk.get,Wk.set];rw[St.cN _ _ (by simpa using Ne.symm hi)]
    ·cases h1;rfl
    ·cases h1
   have qg:∀pv x,k.get (.o id)=.fz pv x->k2.get (.o id)=.fz pv x:=by
    intro pv x hx
    unfold Wk.mj at h1
    rw[hx]at h1
    cases h1
    exact hx
   refine⟨G3,f1,f2.trans g2,f3.trans g3,f4.trans g5,f5.trans g6,?_,?_,?_⟩
   ·intro i hi
    rw[yo]at hi
    rcases List.mem_append.1 hi with hi|hi
    ·simp[dZ]at hi
     subst hi
     obtain⟨pv,x,hx⟩:=t_
     exact⟨pv,x,f7 _ _ _ hx⟩
    ·exact f6 i hi
   ·intro i pv x hx
    refine f7 i pv x ?_
    by_cases hi:i=id
    ·subst hi;exact qg pv x hx
    ·rw[Be i hi];exact hx
   ·intro i dp x hx
    have:=f8 i dp x hx
    by_cases hi:i=id
    ·subst hi;obtain⟨pv,y,hy⟩:=t_;rw[hy]at this;cases this
    ·rwa[Be i hi]at this
  |p x=>
   obtain⟨G2,g1,g2,g3,g4,g5,g6,g7⟩:=dL.eY h (show k.eY cs=some k1 from hk)
   exact⟨G2,g1,g2,g3,g4,g5,by intro i hi;rw[yo]at hi;exact g6 i (by simpa[dZ]using hi),g7⟩
  |n=>
   obtain⟨G2,g1,g2,g3,g4,g5,g6,g7⟩:=dL.eY h (show k.eY cs=some k1 from hk)
   exact⟨G2,g1,g2,g3,g4,g5,by intro i hi;rw[yo]at hi;exact g6 i (by simpa[dZ]using hi),g7⟩
  |d=>
   obtain⟨G2,g1,g2,g3,g4,g5,g6,g7⟩:=dL.eY h (show k.eY cs=some k1 from hk)
   exact⟨G2,g1,g2,g3,g4,g5,by intro i hi;rw[yo]at hi;exact g6 i (by simpa[dZ]using hi),g7⟩
theorem RL{k:Wk}{G1:Gh}(h:Rel M B d up s ρ G a w)(hk:dL M B d up ρ G a w k G1)(hn:∀n,o.dst=some n->n<a.tmps.size){id b:Nat}{p:List (Nat×Nat)}{dp:Bool}{y:Lf}
  {t':T}{cells:Array Value}(iE:G1.ω b=some (.o id p))(J1:p=[]∨id%2=1)(sk:id%4≠2)(hy:y.gh ρ=some t')(b8:fG G1 (w.setRow b cells) id dp [] t')
  (hx:(execOp a.eval o).run P w=.ok .skip (w.setRow b cells)):b_ P M B d up ρ a w s o (cm d o (k.set (.o id) (.ob dp y)) .un).w Q:=by
 have hM:M id:=(hk.rel.iP b _ iE).1
 have hK:dM (oQ (fW d o .un++[(.o id,.ob dp y)])) (λ_=>False) G1 w G1 (w.setRow b cells):=by
  refine RK iE (JH (ρ:=ρ) J1 sk) _ ?_
  show St.look _ (bN.o id)≠none
  rw[mE,vh];simp
 simp only[b_,Oper.wp,hx,Oper.upon]
 refine⟨G1,wh h hk (W2:=fW d o .un++[(.o id,.ob dp y)]) (yD (W2:=[(.o id,.ob dp y)]) λr=>by exact vi r)
  hK (λi hi=>hi.elim) (λi hi=>hi) (λn oU=>wi oU) (J5 _ _ _) ?_,A4 _ _ _⟩
 refine⟨λe n u he hl=>?_,λb u hl=>?_,λi u hl=>?_,λr u hl i hi=>?_,λi hi=>?_,λb l hb=>?_⟩
 ·rcases lN hl with⟨n',iA,e1,rfl⟩|hl
  ·trivial
  ·rcases j9 hl with⟨e1,_⟩|hl
   ·cases e1
   ·cases hl
 ·rcases lN hl with⟨n',iA,e1,rfl⟩|hl
  ·cases e1
  ·rcases j9 hl with⟨e1,rfl⟩|hl
   ·cases e1
   ·cases hl
 ·rcases lN hl with⟨n',iA,e1,rfl⟩|hl
  ·cases e1
  ·rcases j9 hl with⟨e1,rfl⟩|hl
   ·cases e1
    exact⟨t',hy,b8⟩
   ·cases hl
 ·rcases lN hl with⟨n',iA,e1,rfl⟩|hl
  ·simp[dI]at hi
  ·rcases j9 hl with⟨e1,rfl⟩|hl
   ·simp[dI]at hi
   ·cases hl
 ·have:∀r:bN,(r=.x i∨r=.o i)->St.look (fW d o .un++[(bN.o id,SV.ob dp y)]) r≠none->i=id:=by
   intro r hr hl
   obtain⟨u,hu⟩:=Option.ne_none_iff_exists'.1 hl
   rcases lN hu with⟨n',iA,e1,rfl⟩|hl
   ·rcases hr with rfl|rfl<;>cases e1
   ·rcases j9 hl with⟨e1,rfl⟩|hl
    ·rcases hr with rfl|rfl
     ·cases e1
     ·cases e1;rfl
    ·cases hl
  rcases hi with hi|hi
  ·rw[this _ (.inl rfl) hi];exact hM
  ·rw[this _ (.inr rfl) hi];exact hM
 ·rw[Ix];exact hk.rel.iP b l hb
theorem RM{x ix:Lf}{sc:Bool}{wd off n i:Nat}{xs:List (List T)}{ts:List T}{t:T}(hx:x.gh ρ=some (.l xs))(hi:ma ρ ix=some i)
  (h:Prim.ev (.put sc wd off n) (x.ev ρ::ix.ev ρ::ts)=some t):∃r,xs[i]?=some r∧r.length=wd∧off+ts.length<=r.length∧(sc=true->ts.all eA=true)∧t=.l (setRow xs i off ts):=by
 obtain⟨k,hk⟩:=yp hi
 rw[Lf.cb hx,hk]at h
 simp only[Prim.ev,A1,T.rows,T.int,Option.bind_some,Int.toNat_natCast]at h
 cases hr:xs[i]? with
 |none=>simp[hr]at h
 |some r=>
  simp only[hr,Option.bind_some]at h
  split at h
  ·rename_i g1
   split at h
   ·rename_i g2
    split at h
    ·rename_i g3
     split at h
     ·rename_i g4
      simp only[bP]at h
      refine⟨r,rfl,g1,by omega,λhs=>?_,h.symm⟩
      subst hs
      simpa using g4
     ·cases h
    ·cases h
   ·cases h
  ·cases h
theorem Wk.cw(k:Wk)(r:bN)(v:SV):(k.set r v).get r=v:=by
 simp[Wk.get,Wk.set,St.bI]
theorem agm(ez:eZ P cx)(h:Rel M B d up s ρ G a w)(hn:∀n,o.dst=some n->n<a.tmps.size){t:Nat}{x y:Operand}(ho:o.op=.store t x y)
  {id:Nat}{q:nh}{ix:Lf}{wd off:Nat}(hx:cB d (Wk.get ⟨s.only R,[],ct,[]⟩) x=.ep id q ix wd off)
  (hk:∃k1,storeAt cx ⟨s.only R,[],ct,[]⟩ t (cB d (Wk.get ⟨s.only R,[],ct,[]⟩) x) (cB d (Wk.get ⟨s.only R,[],ct,[]⟩) y)=some k1∧cm d o k1 .un=k')(hd:k'.bT S ρ):b_ P M B d up ρ a w s o k'.w Q∧k'.ct.i=ct.i:=by
 have hw:=dL.start h R ct
 obtain⟨k1,cn,hk⟩:=hk
 have dh:cm d o k1 .un=k':=hk
 subst dh
 have f_:=dq.1 hd
 simp only[storeAt,hx,cU]at cn
 obtain⟨ti,gn,cs,kZ,cn⟩:=cn
 cases hl:Nat.beq cs.length ti.sz with
 |false=>simp[hl]at cn
 |true=>
  simp only[hl,cond_true]at cn
  have hlen:=ew hl
  obtain⟨hr,hm⟩:=hw.ji y
  obtain⟨xh,_⟩:=hw.ji x
  rw[hx]at xh
  obtain⟨p,b,n,cap,i,hp,hH,hi,jH,jJ⟩:=xh
  unfold cellsOf at kZ
  split at kZ
  ·rename_i ag es0 fg
   cases kZ
   rw[fg]at hr hm
   have ta:=RC hr
   have pi:=ta.length
   cases sk:Nat.beq (id%4) 2 with
   |true=>simp[sk]at cn
   |false=>
   have sk:id%4≠2:=λe=>by rw[e]at sk;cases sk
   simp only[show Nat.beq (id%4) 2=false from(by cases hb:Nat.beq (id%4) 2 with|false=>rfl|true=>exact absurd (ew hb) sk),cond_false]at cn
   cases hN:ti.zero.any gd with
   |true=>
    simp only[hN,cond_true]at cn
    split at cn
    ·simp only[mB,bP]at hp
     subst hp
     simp only[cU]at cn
     obtain⟨k2,vj,k3,yF,⟨k4,xs⟩,pg,cn⟩:=cn
     obtain⟨G2,w2,e1,e2,e3,e4,e5⟩:=hw.flat vj
     obtain⟨G3,w3,f1,f2,f4,f5,f6,f7,f8⟩:=w2.eY yF
     have E8:=Wk.il pg
     have w4:=w3.same E8
     simp only at cn
     split at cn
     ·rename_i dp0 z hz
      simp only[bP]at cn
      subst cn
      have eU:=w4.obj id
      rw[hz]at eU
      obtain⟨tt,Ab,b8⟩:=eU
      have oR:(k4.em (.put false wd off xs.length) (z::ix::xs)).1.bT S ρ:=f_
      obtain⟨It,t',kq,DV⟩:=Wk.cf oR
      have RN:G3.H id []=.slice (some ⟨b,0,none⟩) n cap:=by rw[f2,e2];exact hH
      have agn:bu G3 w ρ cs (a.eval y).cells.toList:=by
       have k3:dM (oQ k3.w) (λ_=>False) G w G3 w:=w3.bw
       exact ta.bw k3 λ_ _ hf=>hf
      obtain⟨ts,g1,_,g3,g4⟩:=Wk.im pg It agn w3
      simp only[List.map_cons]at kq
      rw[g1]at kq
      obtain⟨rows,rfl⟩:∃ys,tt=.l ys:=by cases b8<;>exact⟨_,rfl⟩
      obtain⟨r,oT,qI,DW,_,rfl⟩:=RM Ab hi kq
      have Ae:=g3 λj hj=>f6 j hj
      have Bf:=Ae.length
      have g_:dp0=false:=by
       have h3:k3.get (.o id)=.ob dp0 z:=by rw[<-E8.get];exact hz
       have h2:=f8 _ _ _ h3
       unfold Wk.flat at vj
       split at vj
       ·cases vj;rw[Wk.cw]at h2;cases h2;rfl
       ·rename_i z2 s_;cases vj;rw[s_]at h2;cases h2
       ·cases vj
      subst g_
      have ua:∃arr elem,G3.ω b=some (.o id [])∧w.heap[b]?=some (.cells arr elem (0,0))∧(i*wd+off)+(a.eval y).cells.size<=arr.size:=by
       cases b8 with
       |nil Iv=>rw[RN]at Iv;cases Iv
       | @l _ _ _ b2 DX J2 arr elem cv h1 h2 h3 h4 h5 h6 _ _ _ _ _=>
        rw[RN]at h1
        cases h1
        refine⟨arr,elem,h3,h4,?_⟩
        have qG:DX=wd:=by rw[<-qI];exact(h6 r (List.mem_of_getElem? oT)).symm
        subst qG
        rw[h5]
        have:(i+1)*DX<=cap*DX:=Nat.mul_le_mul_right _ (by omega)
        rw[Nat.add_mul]at this
        simp only[Array.length_toList]at Bf
        omega
      obtain⟨arr,elem,iE,hb,lM⟩:=ua
      have fu:=kC_ (P:=P) (w:=w) (ez.ty _ _ gn) (v:=a.eval y) (by simp only[Array.length_toList]at pi;rw[<-pi];exact hlen) hb (off:=i*wd+off) lM (λu hu=>ta.one u hu)
      have qb:=b8.put (w':=w.setRow b (arr.toList.take (i*wd+off)++(a.eval y).cells.toList++arr.toList.drop (i*wd+off+(a.eval y).cells.toList.length)).toArray)
       RN (rX sk) oT DW Bf.symm hb (by rw[qI];exact setRow_heap w _ arr _ elem _ hb) (Ix _ _ _) (λc hc=>setRow_other _ _ _ _ hc)
       (fa.get (Ae.bw (by rw[Ix];exact Nat.le_refl _) λc _ hc=>⟨hc,setRow_other _ _ _ _ λe=>by subst e;exact vZ iE (rX sk) hc⟩)) (λhf=>by cases hf)
      refine⟨RL h (w4.same (Wk.bX _ _ _)) hn (iE:=iE) (J1:=.inl rfl) (sk:=sk) (hy:=DV) (b8:=qb) (E7 ho (by rw[jJ];exact fu)),?_⟩
      rw[nk]
      show k4.ct.i=ct.i
      rw[E8.i,f4,e4]
     ·cases cn
    ·cases cn
   |false=>
    simp only[hN,cond_false,cU]at cn
    obtain⟨⟨k4,xs⟩,pg,cn⟩:=cn
    have E8:=Wk.il pg
    have w4:=hw.same E8
    simp only at cn
    split at cn
    ·rename_i dp z hz
     cases hdq:(dp||q.isEmpty)with
     |false=>simp[hdq]at cn
     |true=>
      simp only[hdq,cond_true,bP]at cn
      subst cn
      have eU:=w4.obj id
      rw[hz]at eU
      obtain⟨tt,Ab,b8⟩:=eU
      obtain⟨rows,rfl⟩:∃ys,tt=.l ys:=by cases b8<;>exact⟨_,rfl⟩
      have hdu:(Wk.up ((k4.down z q).1.em (.put true wd off xs.length) ((k4.down z q).2::ix::xs)).1 z ((k4.down z q).1.em (.put true wd off xs.length) ((k4.down z q).2::ix::xs)).2 q).1.bT S ρ:=f_
      have ago:=Wk.wj _ _ _ _ hdu
      obtain⟨oU,t',kq,DV⟩:=Wk.cf ago
      obtain⟨u,hu,hzu,Rl⟩:=Wk.jq q k4 z oU Ab (tU hp) (.inr ⟨_,rfl⟩)
      obtain⟨ys,rfl⟩:∃ys,u=.l ys:=by
       rcases Rl with rfl|h'
       ·simp only[mB]at hp;cases hp;simp[jh]at hu;exact⟨rows,hu.symm⟩
       ·exact h'
      obtain⟨ts,g1,g2,_,g4⟩:=Wk.im pg (Wk.lI q _ _ oU) ta hw
      simp only[List.map_cons]at kq
      rw[g1]at kq
      obtain⟨r,oT,qI,DW,np,rfl⟩:=RM hzu hi kq
      obtain⟨t2,JS,hy2⟩:=Wk.xm q _ z _ hdu Ab DV (tU hp) (.inr ⟨_,rfl⟩)
      have Ae:fa G.q (w.setRow b #[]) ts (a.eval y).cells.toList:=g2.eA (np rfl)
      have Bf:=g2.length
      have lL:fG G w id dp p (.l ys):=by
       cases dp with
       |true=>simpa using fG.lF p b8 hu ⟨ys,rfl⟩
       |false=>
        have hq:q=[]:=by simpa using hdq
        subst hq
        simp only[mB]at hp
        cases hp
        simp[jh]at hu
        subst hu
        exact b8
      have ua:∃arr elem,G.ω b=some (.o id p)∧w.heap[b]?=some (.cells arr elem (0,0))∧(i*wd+off)+(a.eval y).cells.size<=arr.size:=by
       cases lL with
       |nil Iv=>rw[hH]at Iv;cases Iv
       | @l _ _ _ b2 DX J2 arr elem cv h1 h2 h3 h4 h5 h6 _ _ _ _ _=>
        rw[hH]at h1
        cases h1
        refine⟨arr,elem,h3,h4,?_⟩
        have qG:DX=wd:=by rw[<-qI];exact(h6 r (List.mem_of_getElem? oT)).symm
        subst qG
        rw[h5]
        have:(i+1)*DX<=cap*DX:=Nat.mul_le_mul_right _ (by omega)
        rw[Nat.add_mul]at this
        simp only[Array.length_toList]at Bf
        omega
      obtain⟨arr,elem,iE,hb,lM⟩:=ua
      have fu:=kC_ (P:=P) (w:=w) (ez.ty _ _ gn) (v:=a.eval y) (by simp only[Array.length_toList]at pi;rw[<-pi];exact hlen) hb (off:=i*wd+off) lM (λu hu=>ta.one u hu)
      have qb:=lL.put (w':=w.setRow b (arr.toList.take (i*wd+off)++(a.eval y).cells.toList++arr.toList.drop (i*wd+off+(a.eval y).cells.toList.length)).toArray)
       hH (JH (ρ:=ρ) (ET hp) sk) oT DW Bf.symm hb (by rw[qI];exact setRow_heap w _ arr _ elem _ hb) (Ix _ _ _) (λc hc=>setRow_other _ _ _ _ hc)
       (fa.get (g2.eA (np rfl))) (λ_=>np rfl)
      have RO:fG G (w.setRow b (arr.toList.take (i*wd+off)++(a.eval y).cells.toList++arr.toList.drop (i*wd+off+(a.eval y).cells.toList.length)).toArray) id dp [] t2:=by
       cases dp with
       |true=>exact fG.nz (λc hc=>setRow_other _ _ _ _ hc) b8 hu JS (by simpa using iE) (by simpa using qb)
       |false=>
        have hq:q=[]:=by simpa using hdq
        subst hq
        simp only[mB]at hp
        cases hp
        simp only[nz,bP]at JS
        subst JS
        exact qb
      refine⟨RL h (((w4.same (Wk.fT q _ _)).same (Wk.bX _ _ _)).same (Wk.sj q _ _ _)) hn (iE:=iE) (J1:=ET hp) (sk:=sk) (hy:=hy2) (b8:=RO) (E7 ho (by rw[jJ];exact fu)),?_⟩
      rw[nk]
      show(Wk.up _ z _ q).1.ct.i=ct.i
      rw[(Wk.sj q _ _ _).i,(Wk.bX _ _ _).i,(Wk.fT q _ _).i,E8.i]
    ·cases cn
  ·cases kZ
theorem agp(ez:eZ P cx)(h:Rel M B d up s ρ G a w)(hn:∀n,o.dst=some n->n<a.tmps.size){t:Nat}{x y:Operand}(ho:o.op=.store t x y)
  (hk:∃k1,storeAt cx ⟨s.only R,[],ct,[]⟩ t (cB d (Wk.get ⟨s.only R,[],ct,[]⟩) x) (cB d (Wk.get ⟨s.only R,[],ct,[]⟩) y)=some k1∧cm d o k1 .un=k')(hd:k'.bT S ρ):b_ P M B d up ρ a w s o k'.w Q∧k'.ct.i=ct.i:=by
 cases hx:cB d (Wk.get ⟨s.only R,[],ct,[]⟩) x with
 |pt bx off=>exact agl ez h hn ho hx hk
 |ep id q ix wd off=>exact agm ez h hn ho hx hk hd
 |_=>
  exfalso
  obtain⟨k1,hk,_⟩:=hk
  simp only[storeAt,hx,cU]at hk
  obtain⟨ti,_,cs,_,h1⟩:=hk
  cases hb:Nat.beq cs.length ti.sz<;>simp[hb]at h1
theorem J6{xs:List (List T)}{l h:Nat}{i j:Nat}{t:T}(ht:eg ((xs.take h).drop l) i j=some t):eg xs (l+i) j=some t:=by
 unfold eg at ht⊢
 rw[List.getElem?_drop,List.getElem?_take]at ht
 split at ht
 ·exact ht
 ·simp at ht
theorem fq.sub{ω:Nat->Option Lb}{xs:List (List T)}{ao:Option Addr}{n cap l h sz:Nat}(hd:fq ω w (.l xs) (.slice ao n cap))(wl:l<=h)(hh:h<=xs.length)(cV:okW sz xs=true):
  fq ω w (.l ((xs.take h).drop l)) (sliced ao l h cap sz):=by
 unfold sliced
 by_cases he:l=h
 ·subst he
  have:(xs.take l).drop l=[]:=by simp
  rw[this,Nat.sub_self]
  exact .nil
 ·cases hd with
  |nil=>simp at hh;omega
  | @l _ b off wd _ cv hw hc hb bC h1 h2=>
   have dU:¬(cap=l):=by omega
   have hlen:((xs.take h).drop l).length=h-l:=by simp;omega
   have iH:sz=wd:=by
    cases xs with
    |nil=>simp at hh;omega
    |cons r xs=>rw[<-hw r (by simp)];exact(ew cV).symm
   subst iH
   rw[if_neg dU]
   simp only[Option.map_some,Addr.add_lit]
   rw[<-hlen]
   refine .l (cv:=λi j=>cv (l+i) j) (λr hr=>hw r (List.mem_of_mem_take (List.mem_of_mem_drop hr))) (by rw[hlen];omega) hb bC (λi j t ht=>?_) λi j t ht=>h2 _ _ _ (J6 ht)
   have:=h1 _ _ _ (J6 ht)
   rw[Nat.add_mul]at this
   rw[show off+l*sz+(i*sz+j)=off+(l*sz+i*sz+j) by omega]
   exact this
def pk(k:Wk)(f:Operand->SV):Option Operand->Option (Wk×List Lf)
 |none=>some (k,[])
 |some l=>(k.one (f l)).bind λr=>some (r.1,[r.2])
theorem E9{k k1:Wk}{G1:Gh}(hk:dL M B d up ρ G a w k G1){lo:Option Operand}{ls:List Lf}{f:Operand->SV}(hf:∀x,lo=some x->cR G1 w ρ (f x) (a.eval x))
  (h:pk k f lo=some (k1,ls))(hd:k1.bT S ρ):
  k.bT S ρ∧k.fB k1∧((lo=none∧ls=[])∨∃x y t,lo=some x∧ls=[y]∧y.ev ρ=t∧fq (er G1.ω) w t (a.eval x)):=by
 cases lo with
 |none=>
  simp only[pk,bP,Prod.mk.injEq]at h
  obtain⟨rfl,rfl⟩:=h
  exact⟨hd,.refl _,.inl ⟨rfl,rfl⟩⟩
 |some x=>
  simp only[pk,cU,bP,Prod.mk.injEq]at h
  obtain⟨⟨k2,y⟩,h1,rfl,rfl⟩:=h
  obtain⟨e1,e2,t,e3,e4⟩:=Wk.iF hk h1 hd (hf x rfl)
  exact⟨e1,e2,.inr ⟨x,y,t,rfl,rfl,Lf.cb e3,e4⟩⟩
theorem Bg{ω:Nat->Option Lb}{k:IntKind}{n:Int}{v:Value}(h:fq ω w (.c (.int k n)) v):v=.int k n:=h.scalar.1
theorem J7{ω:Nat->Option Lb}{lo hi:Option Operand}{ls hs:List Lf}{n:Nat}{r:T}{F:Int->Int->Option T}
  (ny:(lo=none∧ls=[])∨∃x y t,lo=some x∧ls=[y]∧y.ev ρ=t∧fq ω w t (a.eval x))(wm:(hi=none∧hs=[])∨∃x y t,hi=some x∧hs=[y]∧y.ev ρ=t∧fq ω w t (a.eval x))
  (h:((match lo.isSome,hi.isSome,(ls++hs).map (Lf.ev ρ)with
   |false,false,[]=>some ((0:Int),(n:Int))
   |true,false,[.c (.int _ l)]=>some (l,(n:Int))
   |false,true,[.c (.int _ h)]=>some (0,h)
   |true,true,[.c (.int _ l),.c (.int _ h)]=>some (l,h)
   |_,_,_=>none).bind λb=>F b.1 b.2)=some r):
  ∃l h:Int,F l h=some r∧((lo.map a.eval=none∧l=0)∨∃k,lo.map a.eval=some (.int k l))∧((hi.map a.eval=none∧h=n)∨∃k,hi.map a.eval=some (.int k h)):=by
 rcases ny with⟨rfl,rfl⟩|⟨x,y,t,rfl,rfl,ht,mC⟩
 ·rcases wm with⟨rfl,rfl⟩|⟨x',y',t',rfl,rfl,jZ,mL⟩
  ·simp at h
   exact⟨0,n,h,.inl ⟨rfl,rfl⟩,.inl ⟨rfl,rfl⟩⟩
  ·simp only[Option.isSome_none,Option.isSome_some,List.nil_append,List.map_cons,List.map_nil,jZ]at h
   cases t' with
   |l _=>simp at h
   |c v=>cases v with
    |int k m=>
     simp at h
     have:=Bg mL
     exact⟨0,m,h,.inl ⟨rfl,rfl⟩,.inr ⟨k,by simp[this]⟩⟩
    |_=>simp at h
 ·cases t with
  |l _=>rcases wm with⟨rfl,rfl⟩|⟨x',y',t',rfl,rfl,jZ,mL⟩<;>simp[ht]at h
  |c v=>cases v with
   |int k m=>
    have e1:=Bg mC
    rcases wm with⟨rfl,rfl⟩|⟨x',y',t',rfl,rfl,jZ,mL⟩
    ·simp[ht]at h
     exact⟨m,n,h,.inr ⟨k,by simp[e1]⟩,.inl ⟨rfl,rfl⟩⟩
    ·simp only[Option.isSome_some,List.cons_append,List.nil_append,List.map_cons,List.map_nil,ht,jZ]at h
     cases t' with
     |l _=>simp at h
     |c v'=>cases v' with
      |int k' m'=>
       simp at h
       have e2:=Bg mL
       exact⟨m,m',h,.inr ⟨k,by simp[e1]⟩,.inr ⟨k',by simp[e2]⟩⟩
      |_=>simp at h
   |_=>rcases wm with⟨rfl,rfl⟩|⟨x',y',t',rfl,rfl,jZ,mL⟩<;>simp[ht]at h
theorem RP{t e:Nat}(ht:P.underlying t=some (.slice e)){sz:Nat}(Bb:∃i,P.info? e=some i∧i.size=sz){ao:Option Addr}{n cap:Nat}(hc:n<=cap){lo hi:Option Value}{l h:Int}
  (ny:(lo=none∧l=0)∨∃k,lo=some (.int k l))(wm:(hi=none∧h=n)∨∃k,hi=some (.int k h))(h0:0<=l)(wl:l<=h)(hh:h<=n):
  (Instr.sliceAt t (.slice ao n cap) lo hi none).run P w=.ok (sliced ao l.toNat h.toNat cap sz) w:=by
 have vk:P.elem t=e:=by simp[Program.elem,ht]
 have jZ:P.underlying t=some (.slice (P.elem t)):=by rw[vk];exact ht
 obtain⟨i,vl,ln⟩:=Bb
 have hs:(sizeOf (P.elem t)).run P w=.ok sz w:=by rw[vk];simp[sizeOf,typeInfo,vl,ln]
 rw[run_sliceAt_slice w t _ _ _ _ jZ]
 have pn:h<=cap:=by omega
 rcases ny with⟨rfl,rfl⟩|⟨k,rfl⟩
 ·rcases wm with⟨rfl,rfl⟩|⟨k',rfl⟩
  ·rw[run_slice_all w t ao n cap jZ,hs];simp
  ·rw[run_slice_h w t ao n cap jZ k' h wl pn,hs];simp
 ·rcases wm with⟨rfl,rfl⟩|⟨k',rfl⟩
  ·rw[run_slice_l w t ao n cap jZ k l h0 wl,hs];simp
  ·rw[run_slice_lh w t ao n cap jZ k k' l h h0 wl pn,hs];simp
theorem RQ{sz:Nat}{b1 b2:Bool}{t r:T}{ts:List T}(h:Prim.ev (.sub sz b1 b2) (t::ts)=some r):∃xs,t=.l xs∧okW sz xs=true∧
  ((match b1,b2,ts with
   |false,false,[]=>some ((0:Int),(xs.length:Int))
   |true,false,[.c (.int _ l)]=>some (l,(xs.length:Int))
   |false,true,[.c (.int _ h)]=>some (0,h)
   |true,true,[.c (.int _ l),.c (.int _ h)]=>some (l,h)
   |_,_,_=>none).bind λb=>if 0<=b.1 then(if b.1<=b.2 then(if b.2<=xs.length then some (T.l ((xs.take b.2.toNat).drop b.1.toNat))else none)else none)else none)=some r:=by
 cases t with
 |c v=>simp[Prim.ev]at h
 |l xs=>
  simp only[Prim.ev]at h
  split at h
  ·rename_i cV
   exact⟨xs,rfl,cV,h⟩
  ·cases h
theorem agq{b1 b2:Bool}{t r:T}{ts:List T}(h:Prim.ev (.AH b1 b2) (t::ts)=some r):∃x:ByteArray,t=.c (.string x)∧
  ((match b1,b2,ts with
   |false,false,[]=>some ((0:Int),(x.size:Int))
   |true,false,[.c (.int _ l)]=>some (l,(x.size:Int))
   |false,true,[.c (.int _ h)]=>some (0,h)
   |true,true,[.c (.int _ l),.c (.int _ h)]=>some (l,h)
   |_,_,_=>none).bind λb=>if 0<=b.1 then(if b.1<=b.2 then(if b.2<=x.size then some (T.c (.string (x.extract b.1.toNat b.2.toNat)))else none)else none)else none)=some r:=by
 cases t with
 |l xs=>simp[Prim.ev]at h
 |c v=>
  cases v with
  |string x=>exact⟨x,rfl,h⟩
  |_=>simp[Prim.ev]at h
theorem ags{t:Nat}(ht:P.underlying t=some .string){x:ByteArray}{lo hi:Option Value}{l h:Int}
  (ny:(lo=none∧l=0)∨∃k,lo=some (.int k l))(wm:(hi=none∧h=x.size)∨∃k,hi=some (.int k h))(h0:0<=l)(wl:l<=h)(hh:h<=x.size):
  (Instr.sliceAt t (.string x) lo hi none).run P w=.ok (.string (x.extract l.toNat h.toNat)) w:=by
 rw[run_sliceAt_string w t _ _ _ _ ht]
 have e1:(h.toNat:Int)=h:=Int.toNat_of_nonneg (by omega)
 rcases ny with⟨rfl,rfl⟩|⟨k,rfl⟩
 ·rcases wm with⟨rfl,rfl⟩|⟨k',rfl⟩
  ·rw[run_slice_string_all w t x ht];simp
  ·rw[run_slice_string_h w t x ht k' h wl hh];simp
 ·rcases wm with⟨rfl,rfl⟩|⟨k',rfl⟩
  ·rw[run_slice_string_l w t x ht k l h0 wl];simp
  ·simp[Instr.slice,run_underlying ht,Instr.sliceBounds,run_sliceBound,e1,h0,wl,hh,(by omega:0<=h)]
theorem agt(ez:eZ P cx)(h:Rel M B d up s ρ G a w)(hn:∀n,o.dst=some n->n<a.tmps.size){t:Nat}{x:Operand}{lo hi mx:Option Operand}(ho:o.op=.slice t x lo hi mx)
  (hno:(bif mx.isSome then none else AO cx ⟨s.only R,[],ct,[]⟩ t (cB d (Wk.get ⟨s.only R,[],ct,[]⟩) x) (lo.map (cB d (Wk.get ⟨s.only R,[],ct,[]⟩))) (hi.map (cB d (Wk.get ⟨s.only R,[],ct,[]⟩))))=none)
  (hk:jm cx df fP d o oi ⟨s.only R,[],ct,[]⟩=some k')(hd:k'.bT S ρ):b_ P M B d up ρ a w s o k'.w Q∧k'.ct.i=ct.i:=by
 have hw:=dL.start h R ct
 simp only[jm,ho]at hk
 split at hk
 ·rename_i k v he
  exact absurd (he.symm.trans hno) (by simp)
 simp only[cU]at hk
 obtain⟨ti,gn,k1,yF,⟨k2,z⟩,qh,hk⟩:=hk
 obtain⟨G2,w1,e1,e2,e3,e4,e5,_⟩:=hw.eY yF
 have hK:dM (oQ k1.w) (λ_=>False) G w G2 w:=w1.bw
 have ji:∀y,cR G2 w ρ (cB d (Wk.get ⟨s.only R,[],ct,[]⟩) y) (a.eval y):=λy=>(hw.ji y).1.bw hK λ_ _ hf=>hf
 have nx:k1.fB k2:=by
  unfold Wk.one at qh
  split at qh
  ·exact Wk.ek qh
  ·cases qh
 have w2:=w1.same nx
 simp only at hk
 cases mx with
 |some _=>simp at hk
 |none=>
  simp only at hk
  have jj:∃k3 ls,pk k2 (cB d (Wk.get ⟨s.only R,[],ct,[]⟩)) lo=some (k3,ls)∧
    ∃k4 hs,pk k3 (cB d (Wk.get ⟨s.only R,[],ct,[]⟩)) hi=some (k4,hs)∧
    ((Nat.beq ti.kd 3=true∧∃te,cx.ty ti.el=some te∧k'=cm d o (k4.em (.sub te.sz lo.isSome hi.isSome) (z::(ls++hs))).1 (.v false [.p (k4.em (.sub te.sz lo.isSome hi.isSome) (z::(ls++hs))).2]))∨
     (Nat.beq ti.kd 2=true∧k'=cm d o (k4.em (.AH lo.isSome hi.isSome) (z::(ls++hs))).1 (.v false [.p (k4.em (.AH lo.isSome hi.isSome) (z::(ls++hs))).2]))):=by
   rw[cU]at hk
   obtain⟨⟨k3,ls⟩,h1,hk⟩:=hk
   rw[cU]at hk
   obtain⟨⟨k4,hs⟩,h2,hk⟩:=hk
   refine⟨k3,ls,?_,k4,hs,?_,?_⟩
   ·cases lo<;>exact h1
   ·cases hi<;>exact h2
   ·simp only at hk
    cases h3:Nat.beq ti.kd 3 with
    |true=>
     simp only[h3,cond_true,cU,bP]at hk
     obtain⟨te,r_,hk⟩:=hk
     exact .inl ⟨rfl,te,r_,hk.symm⟩
    |false=>
     simp only[h3,cond_false]at hk
     cases h4:Nat.beq ti.kd 2 with
     |true=>
      simp only[h4,cond_true,bP]at hk
      exact .inr ⟨rfl,hk.symm⟩
     |false=>simp[h4]at hk
  obtain⟨k3,ls,ny,k4,hs,wm,lp⟩:=jj
  have fin:∀(p:Prim),k'=cm d o (k4.em p (z::(ls++hs))).1 (.v false [.p (k4.em p (z::(ls++hs))).2])->
    ∃r tz,p.ev (tz::(ls++hs).map (Lf.ev ρ))=some r∧(∀c,(cB d (Wk.get ⟨s.only R,[],ct,[]⟩) x)=.v false [c]->fq G2.q w tz (a.eval x))∧
     (∃c,(cB d (Wk.get ⟨s.only R,[],ct,[]⟩) x)=.v false [c])∧
     ((lo=none∧ls=[])∨∃x y t,lo=some x∧ls=[y]∧y.ev ρ=t∧fq (er G2.ω) w t (a.eval x))∧((hi=none∧hs=[])∨∃x y t,hi=some x∧hs=[y]∧y.ev ρ=t∧fq (er G2.ω) w t (a.eval x))∧
     (∀v,(execOp a.eval o).run P w=.ok (.value v) w->fq G2.q w r v->(∀x,v≠.agg x)->b_ P M B d up ρ a w s o k'.w Q∧k'.ct.i=ct.i):=by
   intro p hp
   subst hp
   have kX:=dq.1 hd
   obtain⟨It,r,hr,mc⟩:=Wk.cf kX
   have RR:k2.fB k3:=by
    unfold pk at ny
    split at ny
    ·simp only[bP,Prod.mk.injEq]at ny;obtain⟨rfl,_⟩:=ny;exact .refl _
    ·simp only[cU,bP,Prod.mk.injEq]at ny
     obtain⟨⟨k5,y5⟩,h5,rfl,_⟩:=ny
     unfold Wk.one at h5
     split at h5
     ·exact Wk.ek h5
     ·cases h5
   obtain⟨Ac,E8,pf⟩:=E9 (w2.same RR) (f:=cB d (Wk.get ⟨s.only R,[],ct,[]⟩)) (λy _=>ji y) wm It
   obtain⟨oR,_,mM⟩:=E9 w2 (f:=cB d (Wk.get ⟨s.only R,[],ct,[]⟩)) (λy _=>ji y) ny Ac
   have yv:∃c,(cB d (Wk.get ⟨s.only R,[],ct,[]⟩) x)=.v false [c]:=by
    unfold Wk.one at qh
    split at qh
    ·rename_i c fg;exact⟨c,fg⟩
    ·cases qh
   obtain⟨c,hc⟩:=yv
   have RS:=ji x
   rw[hc]at RS qh yF
   obtain⟨_,oS,qJ,_⟩:=RS
   cases oS
   have iG:k1.val c=some (k2,z):=qh
   obtain⟨Qi,w1',_,_,_,_,tb,_⟩:=hw.eY yF
   obtain⟨tz,hz,RT⟩:=Wk.rz iG qJ w1 (by simpa[Ey]using tb)
   refine⟨r,tz,by simpa[Lf.cb hz]using hr,λ_ _=>RT,⟨c,hc⟩,mM,pf,λv hv hdv E1=>⟨?_,?_⟩⟩
   ·exact r9 h (((w2.same RR).same E8).same (Wk.bX _ _ _)) hn hv (Rm mc hdv E1) (λi hi=>by simp[dI,dZ]at hi) Q
   ·rw[nk,(Wk.bX _ _ _).i,E8.i,RR.i,nx.i,e3]
  have fu:∀v,(Instr.sliceAt t (a.eval x) (lo.map a.eval) (hi.map a.eval) none).run P w=.ok v w->(execOp a.eval o).run P w=.ok (.value v) w:=by
   intro v hv
   exact DT (x:=Instr.sliceAt t (a.eval x) (lo.map a.eval) (hi.map a.eval) none) (by unfold execOp;rw[ho];rfl) hv
  rcases lp with⟨h3,te,r_,hk⟩|⟨h3,hk⟩
  ·obtain⟨r,tz,hr,RT,⟨c,hc⟩,mM,pf,lp⟩:=fin _ hk
   obtain⟨xs,rfl,cV,hr⟩:=RQ hr
   obtain⟨l,hh,hF,pi,qe⟩:=J7 (F:=λl h=>if 0<=l then(if l<=h then(if h<=xs.length then some (T.l ((xs.take h.toNat).drop l.toNat))else none)else none)else none) mM pf hr
   split at hF
   ·rename_i h0
    split at hF
    ·rename_i wl
     split at hF
     ·rename_i RU
      simp only[bP]at hF
      subst hF
      have Bh:=RT c hc
      obtain⟨ao,cap,iG,pn⟩:=Bh.rows
      have hT:=ez.ty _ _ gn
      have hE:=ez.ty _ _ r_
      obtain⟨i,zz,vl,ln,_⟩:=hE.info
      by_cases sn:xs.length<=cap
      ·have oV:=RP (P:=P) (w:=w) (hT.sl (ew h3)) ⟨i,vl,ln⟩ (ao:=ao) sn pi qe h0 wl RU
       rw[<-iG]at oV
       refine lp _ (fu _ oV) ?_ (λ_ hf=>by unfold sliced at hf;cases hf)
       rw[iG]at Bh
       exact Bh.sub (by omega) (by omega) cV
      ·have DY:xs=[]:=by
        cases xs with
        |nil=>rfl
        |cons y ys=>exact absurd (pn (by simp)) sn
       subst DY
       simp at sn
     ·cases hF
    ·cases hF
   ·cases hF
  ·obtain⟨r,tz,hr,RT,⟨c,hc⟩,mM,pf,lp⟩:=fin _ hk
   obtain⟨x',rfl,hr⟩:=agq hr
   obtain⟨l,hh,hF,pi,qe⟩:=J7 (F:=λl h=>if 0<=l then(if l<=h then(if h<=x'.size then some (T.c (.string (x'.extract l.toNat h.toNat)))else none)else none)else none) mM pf hr
   split at hF
   ·rename_i h0
    split at hF
    ·rename_i wl
     split at hF
     ·rename_i RU
      simp only[bP]at hF
      subst hF
      obtain⟨iG,_⟩:=(RT c hc).scalar
      have hT:=ez.ty _ _ gn
      have oV:=ags (P:=P) (w:=w) (hT.st (ew h3)) (x:=x') pi qe h0 wl RU
      rw[<-iG]at oV
      exact lp _ (fu _ oV) (.c rfl) (λ_ hf=>by cases hf)
     ·cases hF
    ·cases hF
   ·cases hF
end
def Gh.i_(G:Gh)(nb:Option Nat)(i:Nat)(f:Lb->Option Lb)(Hn:List (Nat×Nat)->Value)(nA:∀p,∃a n c,Hn p=.slice a n c):Gh where
 ω:=λb=>if nb=some b then some (.o i [])else(G.ω b).bind f
 β:=G.β
 H:=λj=>if j=i then Hn else G.H j
 hs:=λj p=>by
  by_cases h:j=i
  ·simp only[h,if_true];exact nA p
  ·simp only[h,if_false];exact G.hs j p
section
variable {M:Nat->Prop} {B:ft} {d:Nat} {up:Nat->Nat->Value} {ρ:List T} {G:Gh} {a:Act} {w:World} {S:Nat->aA} {P:Program}
variable {cx:Cx} {df fP oi:Nat} {s:St} {R:List bN} {ct:Ct} {k':Wk} {o:Oper} {Q:Exit->Act->World->Prop}
variable {nb:Option Nat} {i:Nat} {f:Lb->Option Lb} {Hn:List (Nat×Nat)->Value} {nA:∀p,∃a n c,Hn p=.slice a n c} {w':World}
theorem E_(RV:∀l l',qt l=true->f l=some l'->qt l'=true){b:Nat}(dU:nb≠some b)(h0:G.q b=none):(G.i_ nb i f Hn nA).q b=none:=by
 refine tT h0 (λh1=>by simp[Gh.i_,dU,h1]) λl hl hq=>?_
 cases vj:f l with
 |none=>exact .inl (by simp[Gh.i_,dU,hl,vj])
 |some l'=>exact .inr ⟨l',by simp[Gh.i_,dU,hl,vj],RV l l' hq vj⟩
theorem agu{I:Lb->Prop}(hf:∀l,¬I l->f l=some l)(RV:∀l l',qt l=true->f l=some l'->qt l'=true)(wo:∀c,nb=some c->w.heap.size<=c∨∃l,G.ω c=some l∧I l∧qt l=false)(hs:w.heap.size<=w'.heap.size)
  (hh:∀b,b<w.heap.size->nb≠some b->w'.heap[b]?=w.heap[b]?)(mN:∀b l,G.ω b=some l->b<w.heap.size):dM I (λj=>j=i) G w (G.i_ nb i f Hn nA) w':=by
 refine⟨hs,λb hb h0=>?_,λb hb h0=>?_,λb l hb hl=>?_,λj hj=>?_⟩
 ·have dU:nb≠some b:=by
   intro e
   rcases wo _ e with h|⟨l,h,_,hq⟩
   ·omega
   ·exact vZ h hq h0
  refine⟨E_ RV dU h0,hh b hb dU⟩
 ·have dU:nb≠some b:=by
   intro e
   rcases wo _ e with h|⟨l,h,_⟩
   ·omega
   ·rw[h0]at h;cases h
  simp[Gh.i_,dU,h0]
 ·have bC:=mN b l hb
  have dU:nb≠some b:=by
   intro e
   rcases wo _ e with h|⟨l',h,h',_⟩
   ·omega
   ·rw[hb]at h;cases h;exact hl h'
  exact⟨by simp[Gh.i_,dU,hb,hf l hl],hh b bC dU⟩
 ·exact⟨rfl,λ_ _=>by simp[Gh.i_,hj]⟩
theorem agv{x:Sem Value}{v:Value}(he:execOp a.eval o=(do let v <-x;pure (Next.value v)))(h:x.run P w=.ok v w'):(execOp a.eval o).run P w=.ok (.value v) w':=by
 rw[he,Sem.run_bind,h];rfl
theorem b_.mono{M':Nat->Prop}{W:St}(h:b_ P M B d up ρ a w s o W Q)(hM:∀i,M i->M' i):b_ P M' B d up ρ a w s o W Q:=
 Oper.wp_mono (λa' w' ⟨G',h1,h2⟩=>⟨G',h1.mono hM,h2⟩) h
theorem E'{k:Wk}{G1:Gh}(h:Rel M B d up s ρ G a w)(hk:dL M B d up ρ G a w k G1)(hn:∀n,o.dst=some n->n<a.tmps.size)(hM:¬M k.ct.i)
  {W1:St}{kw:Wk}{dp:Bool}{y:Lf}{t:T}{v:Value}
  (RW:∀r,kw.w.look r=(St.look ((.o k.ct.i,.ob dp y)::W1) r).or (k.w.look r))(xn:∀r u,W1.look r=some u->∃j,r=.o j∧cS (G1.i_ nb k.ct.i f Hn nA) w' ρ j u∧M j∧∀i∈dI u,M i)
  (hf:∀l,(∀j p,l=.o j p->W1.look (.o j)=none)->f l=some l)(hid:∀l l',(∃b,G1.ω b=some l)->f l=some l'->M l'.id∨l'.id=k.ct.i)
  (RV:∀l l',qt l=true->f l=some l'->qt l'=true)(wo:∀c,nb=some c->c=w.heap.size∨∃j,G1.ω c=some (.o j [])∧W1.look (.o j)≠none∧j%4≠2)(hs:w.heap.size<=w'.heap.size)(agw:∀c,nb=some c->c<w'.heap.size)
  (hh:∀b,b<w.heap.size->nb≠some b->w'.heap[b]?=w.heap[b]?)(so:jL w w')(hv:v=Hn [])
  (hy:y.gh ρ=some t)(b8:fG (G1.i_ nb k.ct.i f Hn nA) w' k.ct.i dp [] t)(hx:(execOp a.eval o).run P w=.ok (.value v) w'):
  b_ P (Mn M k.ct.i (k.ct.i+1)) B d up ρ a w s o (cm d o kw (.v false [.o k.ct.i []])).w Q:=by
 have ij:Mn M k.ct.i (k.ct.i+1) k.ct.i:=.inr ⟨Nat.le_refl _,Nat.lt_succ_self _⟩
 have Bi:∀j u,W1.look (.o j)=some u->St.look (fW d o (.v false [.o k.ct.i []])++((bN.o k.ct.i,SV.ob dp y)::W1)) (.o j)≠none:=by
  intro j u hu
  rw[mE]
  intro e
  have:=(Option.or_eq_none_iff.1 e).2
  simp only[St.look,hu]at this
  cases hb:(bN.o k.ct.i).beq (.o j)<;>simp[hb]at this
 have hK:dM (oQ (fW d o (.v false [.o k.ct.i []])++((bN.o k.ct.i,SV.ob dp y)::W1))) (λj=>j=k.ct.i) G1 w (G1.i_ nb k.ct.i f Hn nA) w':=by
  refine agu (λl hl=>hf l λj p hj=>?_) RV ?_ hs hh λb l hb=>(hk.rel.iP b l hb).2
  ·subst hj
   cases hw:W1.look (.o j)with
   |none=>rfl
   |some u=>exact absurd (Bi j u hw) hl
  ·intro c hc
   rcases wo c hc with rfl|⟨j,h1,h2,h3⟩
   ·exact .inl (Nat.le_refl _)
   ·obtain⟨u,hu⟩:=Option.ne_none_iff_exists'.1 h2
    exact .inr ⟨_,h1,Bi j u hu,rX h3⟩
 simp only[b_,Oper.wp,hx,Oper.upon]
 refine⟨G1.i_ nb k.ct.i f Hn nA,wh h hk (W2:=fW d o (.v false [.o k.ct.i []])++((bN.o k.ct.i,SV.ob dp y)::W1)) (yD (W2:=(bN.o k.ct.i,SV.ob dp y)::W1) RW)
  hK (λj hj=>by subst hj;exact hM) (λj hj=>.inl hj) (λn oU=>wi oU) so ?_,A4 _ _ _⟩
 refine⟨λe n u he hl=>?_,λb u hl=>?_,λj u hl=>?_,λr u hl j hj=>?_,λj hj=>?_,λb l hb=>?_⟩
 ·rcases lN hl with⟨n',iA,e1,rfl⟩|hl
  ·cases e1
   rw[iA,Rh (hn _ iA),hv]
   refine⟨_,rfl,⟨[],rfl,by simp[Gh.i_]⟩,λx hx=>?_⟩
   obtain⟨a1,a2,a3,e1⟩:=nA []
   rw[e1]at hx;cases hx
  ·rcases j9 hl with⟨e1,_⟩|hl
   ·cases e1
   ·obtain⟨j,e1,_⟩:=xn _ _ hl;cases e1
 ·rcases lN hl with⟨n',iA,e1,rfl⟩|hl
  ·cases e1
  ·rcases j9 hl with⟨e1,rfl⟩|hl
   ·cases e1
   ·obtain⟨j,e1,_⟩:=xn _ _ hl;cases e1
 ·rcases lN hl with⟨n',iA,e1,rfl⟩|hl
  ·cases e1
  ·rcases j9 hl with⟨e1,rfl⟩|hl
   ·cases e1
    exact⟨t,hy,b8⟩
   ·obtain⟨j,e1,h2,_⟩:=xn _ _ hl;cases e1;exact h2
 ·rcases lN hl with⟨n',iA,e1,rfl⟩|hl
  ·simp[dI,dZ]at hj;subst hj;exact ij
  ·rcases j9 hl with⟨e1,rfl⟩|hl
   ·simp[dI]at hj
   ·obtain⟨j',e1,_,_,hm⟩:=xn _ _ hl;exact .inl (hm j hj)
 ·have:∀r:bN,(r=.x j∨r=.o j)->St.look (fW d o (.v false [.o k.ct.i []])++((bN.o k.ct.i,SV.ob dp y)::W1)) r≠none->Mn M k.ct.i (k.ct.i+1) j:=by
   intro r hr hl
   obtain⟨u,hu⟩:=Option.ne_none_iff_exists'.1 hl
   rcases lN hu with⟨n',iA,e1,rfl⟩|hl
   ·rcases hr with rfl|rfl<;>cases e1
   ·rcases j9 hl with⟨e1,rfl⟩|hl
    ·rcases hr with rfl|rfl
     ·cases e1
     ·cases e1;exact ij
    ·obtain⟨j',e1,_,hm,_⟩:=xn _ _ hl
     rcases hr with rfl|rfl
     ·cases e1
     ·cases e1;exact .inl hm
  rcases hj with hj|hj
  ·exact this _ (.inl rfl) hj
  ·exact this _ (.inr rfl) hj
 ·simp only[Gh.i_]at hb
  split at hb
  ·rename_i he
   cases hb
   exact⟨ij,agw _ he⟩
  ·obtain⟨l0,h0,h1⟩:=Option.bind_eq_some_iff.1 hb
   obtain⟨_,bC⟩:=hk.rel.iP b l0 h0
   refine⟨?_,by omega⟩
   rcases hid l0 l ⟨_,h0⟩ h1 with hm|he
   ·exact .inl hm
   ·rw[he];exact ij
end
section
variable {M:Nat->Prop} {B:ft} {d:Nat} {up:Nat->Nat->Value} {ρ:List T} {G:Gh} {a:Act} {w:World} {S:Nat->aA} {P:Program}
variable {cx:Cx} {df fP oi:Nat} {s:St} {R:List bN} {ct:Ct} {k':Wk} {o:Oper} {Q:Exit->Act->World->Prop}
def zT:List Ce->List T
 | []=>[]
 | .p (.k v)::cs=>.c v::zT cs
 |_::cs=>.l []::zT cs
theorem J8:∀{zs:List Ce} {vs:List Value} {k k1:Wk} {xs:List Lf},A3 zs vs->k.jI zs=some (k1,xs)->k1=k∧xs.map (Lf.ev ρ)=zT zs
 | [],[],k,k1,xs,_,h=>by simp[Wk.jI]at h;obtain⟨rfl,rfl⟩:=h;exact⟨rfl,rfl⟩
 | [],_::_,_,_,_,h,_=>h.elim
 | .p (.k v)::cs,v'::vs,k,k1,xs,h,hk=>by
  obtain⟨rfl,hs,h⟩:=h
  simp only[Wk.jI,Wk.val,Option.bind_some,cU,bP,Prod.mk.injEq]at hk
  obtain⟨⟨k2,ys⟩,h2,rfl,rfl⟩:=hk
  obtain⟨rfl,h3⟩:=J8 h h2
  exact⟨rfl,by simp[zT,h3,Lf.ev]⟩
 | .n::cs,v'::vs,k,k1,xs,h,hk=>by
  obtain⟨rfl,h⟩:=h
  simp only[Wk.jI,Wk.val,Option.bind_some,cU,bP,Prod.mk.injEq]at hk
  obtain⟨⟨k2,ys⟩,h2,rfl,rfl⟩:=hk
  obtain⟨rfl,h3⟩:=J8 h h2
  exact⟨rfl,by simp[zT,h3,Lf.ev]⟩
 | .p (.k _)::_,[],_,_,_,h,_=>h.elim
 | .n::_,[],_,_,_,h,_=>h.elim
 | .p (.a _)::_,[],_,_,_,h,_=>h.elim
 | .p (.a _)::_,_::_,_,_,_,h,_=>h.elim
 | .p .e::_,[],_,_,_,h,_=>h.elim
 | .p .e::_,_::_,_,_,_,h,_=>h.elim
 | .o _ _::_,[],_,_,_,h,_=>h.elim
 | .o _ _::_,_::_,_,_,_,h,_=>h.elim
 | .d::_,[],_,_,_,h,_=>h.elim
 | .d::_,_::_,_,_,_,h,_=>h.elim
theorem J9:∀{zs:List Ce} {vs:List Value},A3 zs vs->(zT zs).length=vs.length∧∀(j:Nat) (t:T),(zT zs)[j]?=some t->
  ∃v,vs[j]?=some v∧((t=.c v∧kV v=true)∨(t=.l []∧v=.slice none 0 0))
 | [],[],_=>⟨rfl,λj t h=>by simp[zT]at h⟩
 | [],_::_,h=>h.elim
 | .p (.k v)::cs,v'::vs,h=>by
  obtain⟨rfl,hs,h⟩:=h
  obtain⟨h1,h2⟩:=J9 h
  refine⟨by simp[zT,h1],λj t ht=>?_⟩
  cases j with
  |zero=>simp[zT]at ht;subst ht;exact⟨v,rfl,.inl ⟨rfl,hs⟩⟩
  |succ j=>simpa using h2 j t (by simpa[zT]using ht)
 | .n::cs,v'::vs,h=>by
  obtain⟨rfl,h⟩:=h
  obtain⟨h1,h2⟩:=J9 h
  refine⟨by simp[zT,h1],λj t ht=>?_⟩
  cases j with
  |zero=>simp[zT]at ht;subst ht;exact⟨_,rfl,.inr ⟨rfl,rfl⟩⟩
  |succ j=>simpa using h2 j t (by simpa[zT]using ht)
 | .p (.k _)::_,[],h=>h.elim
 | .n::_,[],h=>h.elim
 | .p (.a _)::_,[],h=>h.elim
 | .p (.a _)::_,_::_,h=>h.elim
 | .p .e::_,[],h=>h.elim
 | .p .e::_,_::_,h=>h.elim
 | .o _ _::_,[],h=>h.elim
 | .o _ _::_,_::_,h=>h.elim
 | .d::_,[],h=>h.elim
 | .d::_,_::_,h=>h.elim
theorem RX{z:Array Value}{n i j:Nat}(hj:j<z.size)(hi:i<n):(madeCells z (n*z.size))[i*z.size+j]?=z[j]?:=by
 have bC:i*z.size+j<n*z.size:=by
  have:(i+1)*z.size<=n*z.size:=Nat.mul_le_mul_right _ hi
  rw[Nat.add_mul]at this
  omega
 have hm:(i*z.size+j)%z.size=j:=by rw[Nat.add_comm,Nat.add_mul_mod_self_right,Nat.mod_eq_of_lt hj]
 simp[madeCells,bC,hm,hj]
theorem agx{n i j:Nat}{ts:List T}{t:T}(h:eg (List.replicate n ts) i j=some t):i<n∧ts[j]?=some t:=by
 unfold eg at h
 rw[List.getElem?_replicate]at h
 split at h
 ·rename_i hi;exact⟨hi,h⟩
 ·simp at h
theorem agy{t t' r:T}{ts:List T}(h:Prim.ev .mk (t::t'::ts)=some r):∃(k k2:IntKind) (n c:Int),t=.c (.int k n)∧t'=.c (.int k2 c)∧0<=n∧n=c∧c<uX∧r=.l (List.replicate n.toNat ts):=by
 cases t with
 |l _=>simp[Prim.ev]at h
 |c v=>
  cases v with
  |int k n=>
   cases t' with
   |l _=>simp[Prim.ev]at h
   |c v'=>
    cases v' with
    |int k2 c=>
     simp only[Prim.ev]at h
     split at h
     ·split at h
      ·split at h
       ·simp only[bP]at h
        exact⟨k,k2,n,c,rfl,rfl,by assumption,by assumption,by assumption,h.symm⟩
       ·cases h
      ·cases h
     ·cases h
    |_=>simp[Prim.ev]at h
  |_=>cases t'<;>simp[Prim.ev]at h
theorem agz(ez:eZ P cx)(h:Rel M B d up s ρ G a w)(hn:∀n,o.dst=some n->n<a.tmps.size){t:Nat}{x y:Operand}(ho:o.op=.makeSlice t x y)
  (hk:jm cx df fP d o oi ⟨s.only R,[],ct,[]⟩=some k')(hd:k'.bT S ρ)(hM:∀i,ct.i<=i->i<k'.ct.i->¬M i):b_ P (Mn M ct.i k'.ct.i) B d up ρ a w s o k'.w Q:=by
 have hw:=dL.start h R ct
 simp only[jm,ho,cU]at hk
 obtain⟨ti,gn,te,r_,⟨k1,n⟩,h1,⟨k2,m⟩,h2,⟨k3,zs⟩,h3,hk⟩:=hk
 cases hc:(Nat.beq ti.kd 3&&Nat.ble te.bytes 65536&&Nat.blt 0 te.sz)with
 |false=>simp[hc]at hk
 |true=>
  simp only[hc,cond_true,bP]at hk
  simp only[bL]at hc
  obtain⟨⟨oS,j1⟩,hc3⟩:=hc
  have hT:=ez.ty _ _ gn
  have hE:=ez.ty _ _ r_
  obtain⟨i,z,vl,ln,Iz,IA,yu⟩:=hE.info
  have hu:=hT.sl (ew oS)
  obtain⟨rfl,Bj⟩:=J8 (ρ:=ρ) yu h3
  obtain⟨sd,hza⟩:=J9 yu
  have iH:z.cells.size=te.sz:=by
   have:=(wg (G:=G) (w:=w) (ρ:=ρ) yu).1.length
   rw[hE.EY]at this
   simpa using this.symm
  have dh:cm d o {(k3.em .mk (n::m::zs)).1.set (.o (fE k3.ct.i)) (.ob true (k3.em .mk (n::m::zs)).2)with ct:=⟨(k3.em .mk (n::m::zs)).1.ct.a,fE k3.ct.i+1⟩} (.v false [.o (fE k3.ct.i) []])=k':=hk
  have f_:(k3.em .mk (n::m::zs)).1.bT S ρ:=by
   rw[<-dh]at hd
   have h2:=dq.1 hd
   exact h2
  obtain⟨Ac,r,hr,mc⟩:=Wk.cf f_
  have mD:Wk.fB ⟨s.only R,[],ct,[]⟩ k1:=by
   unfold Wk.one at h1
   split at h1
   ·exact Wk.ek h1
   ·cases h1
  obtain⟨oR,nx,tm,hm,hdm⟩:=Wk.iF (hw.same mD) h2 Ac (hw.ji y).1
  obtain⟨_,_,tn,xk,oU⟩:=Wk.iF hw h1 oR (hw.ji x).1
  have ve:=((hw.same mD).same nx).same (Wk.bX k3 .mk (n::m::zs))
  have kY:k3.ct.i=ct.i:=by rw[nx.i,mD.i]
  simp only[List.map_cons,Bj,Lf.cb hm,Lf.cb xk]at hr
  obtain⟨kn,kc,nn,cc,rfl,rfl,g1,g2,g3,rfl⟩:=agy hr
  have en:=Bg oU
  have ec:=Bg hdm
  have hb:=Nat.le_of_ble_eq_true j1
  have pn:cc<4294967296:=g3
  have J_:(i.bytes:Int)*cc<=281474976710656:=by
   rw[Iz]
   have e1:(te.bytes:Int)<=65536:=by omega
   have h0:(0:Int)<=cc:=by omega
   calc (te.bytes:Int)*cc<=65536*cc:=Int.mul_le_mul_of_nonneg_right e1 h0
    _<=281474976710656:=by omega
  have fu:=run_make (P:=P) w t ti.el i z hu vl IA kn kc nn cc g1 (by omega) J_ (by omega)
  rw[ln,<-iH]at fu
  have ph:k'.ct.i=fE ct.i+1:=by rw[<-dh,nk,<-kY]
  have jJ:=AL ct.i
  have hnc:nn.toNat<=cc.toNat:=by omega
  let Hn:List (Nat×Nat)->Value:=λp=>match p with| []=>.slice (some ⟨w.heap.size,0,none⟩) nn.toNat cc.toNat|_=>.slice none 0 0
  have nA:∀p,∃a n c,Hn p=.slice a n c:=λp=>by cases p<;>exact⟨_,_,_,rfl⟩
  rw[ph,<-dh,<-kY]
  refine b_.mono (M:=Mn M (fE k3.ct.i) (fE k3.ct.i+1)) ?_ (λi hi=>hi.imp_right λhi=>by rw[kY]at hi⊢;exact⟨by omega,hi.2⟩)
  refine E' (nb:=some w.heap.size) (f:=some) (Hn:=Hn) (nA:=nA) (w':=w.alloc (.cells (madeCells z.cells (cc.toNat*z.cells.size)) ti.el)) (k:={(k3.em .mk (n::m::zs)).1 with ct:=⟨(k3.em .mk (n::m::zs)).1.ct.a,fE k3.ct.i⟩}) (W1:=[]) (t:=.l (List.replicate nn.toNat (zT te.zero)))
   h (show dL M B d up ρ G a w {(k3.em .mk (n::m::zs)).1 with ct:=⟨(k3.em .mk (n::m::zs)).1.ct.a,fE k3.ct.i⟩} G from⟨ve.rel,ve.bw⟩) hn (hM _ (by show ct.i<=fE k3.ct.i;rw[kY];exact jJ) (by rw[ph];show fE k3.ct.i<_;rw[kY];omega)) (λr=>by exact vi (k:=(k3.em .mk (n::m::zs)).1) r) (λr u hu=>by cases hu) (λl _=>rfl) (λl l' ⟨b,hb⟩ he=>by cases he;exact .inl (ve.rel.iP b _ hb).1)
   (λl l' hq he=>by cases he;exact hq) (λc hc=>by cases hc;exact .inl rfl) (by simp) (λc hc=>by cases hc;simp) (λb hb _=>heap_alloc_old w _ b hb) (E5 _ _) rfl mc ?_ (agv (x:=Instr.makeSlice t (a.eval x) (a.eval y)) (by unfold execOp;rw[ho]) (by rw[en,ec];exact fu))
  have hlen:(List.replicate nn.toNat (zT te.zero)).length=nn.toNat:=by simp
  have hzT:(zT te.zero).length=z.cells.size:=by rw[sd];simp
  have wq:∀(ii j:Nat) (t:T),eg (List.replicate nn.toNat (zT te.zero)) ii j=some t->ii<nn.toNat∧j<z.cells.size∧∃v,z.cells[j]?=some v∧((t=.c v∧kV v=true)∨(t=.l []∧v=.slice none 0 0)):=by
   intro ii j t ht
   obtain⟨q1,q2⟩:=agx ht
   obtain⟨v,q3,q4⟩:=hza j t q2
   refine⟨q1,?_,v,by simpa using q3,q4⟩
   rw[<-hzT];exact(List.getElem?_eq_some_iff.1 q2).1
  refine .l (wd:=z.cells.size) (cv:=λ_ j=>z.cells.getD j undef) (by rw[hlen];simp[Gh.i_,Hn]) ⟨by rw[hlen];exact hnc,λhe=>by have:=congrArg List.length he;simp at this;omega⟩ (by simp[Gh.i_]) (heap_alloc_new w _) (size_madeCells _ _) (λr hr=>?_) ?_ ?_ (λ_ _ _ _ hf=>by cases hf) ?_ ?_
  ·rw[List.eq_of_mem_replicate hr];exact hzT
  ·intro ii j t ht
   obtain⟨q1,q2,v,q3,_⟩:=wq ii j t ht
   rw[RX q2 (by omega),q3]
   simp[Array.getD_eq_getD_getElem?,q3]
  ·intro ii j v ht
   obtain⟨q1,q2,u,q3,q4⟩:=wq ii j _ ht
   rcases q4 with⟨e1,e2⟩|⟨e1,_⟩
   ·cases e1
    exact⟨by simp[Array.getD_eq_getD_getElem?,q3],e2⟩
   ·cases e1
  ·intro ii j ys ht _
   obtain⟨q1,q2,u,q3,q4⟩:=wq ii j _ ht
   rcases q4 with⟨e1,e2⟩|⟨e1,e2⟩
   ·cases e1
   ·simp[Array.getD_eq_getD_getElem?,q3,e2,Gh.i_,Hn]
  ·intro ii j ys ht _
   obtain⟨q1,q2,u,q3,q4⟩:=wq ii j _ ht
   rcases q4 with⟨e1,e2⟩|⟨e1,e2⟩
   ·cases e1
   ·cases e1
    exact .nil (by simp[Gh.i_,Hn])
end
theorem fG.move{G:Gh}{w:World}{id:Nat}{p:List (Nat×Nat)}{t:T}{dp:Bool}(h:fG G w id dp p t)(g_:dp=true){G':Gh}{w':World}{id':Nat}{p':List (Nat×Nat)}
  (iE:∀c r,G.ω c=some (.o id (p++r))->G'.ω c=some (.o id' (p'++r))∧w'.heap[c]?=w.heap[c]?)(hH:∀r,G'.H id' (p'++r)=G.H id (p++r)):fG G' w' id' dp p' t:=by
 induction h generalizing p' with
 |nil h=>exact .nil (by have:=hH [];simp only[List.append_nil]at this;rw[this];exact h)
 | @l dp p xs b wd cap arr elem cv h1 h2 h3 h4 h5 h6 h7 h8 h9 nX xf ih=>
  have hb:=iE b [] (by simpa using h3)
  simp only[List.append_nil]at hb
  have h0:=hH []
  simp only[List.append_nil]at h0
  refine .l (by rw[h0];exact h1) h2 hb.1 (hb.2.trans h4) h5 h6 h7 h8 (λi j ys hy hd=>by rw[g_]at hd;cases hd) (λi j ys hy hd=>by rw[hH [(i,j)]];exact nX i j ys hy hd) λi j ys hy hd=>?_
  refine ih i j ys hy hd rfl (p':=p'++[(i,j)]) (λc r hc=>?_) λr=>?_
  ·have:=iE c ((i,j)::r) (by simpa using hc)
   simpa using this
  ·have:=hH ((i,j)::r)
   simpa using this
structure qi (G:Gh) (w:World) (id:Nat) (dp:Bool) (sz n0:Nat) (xs:List (List T)) (cv:Nat->Nat->Value):Prop where
 wd:∀r∈xs,r.length=sz
 sc:∀i j v,eg xs i j=some (.c v)->cv i j=v∧kV v=true
 pl:∀i j ys,eg xs i j=some (.l ys)->dp=false->fq G.q w (.l ys) (cv i j)
 hd:∀i j ys,eg xs i j=some (.l ys)->dp=true->cv i j=G.H id [(n0+i,j)]
 ow:∀i j ys,eg xs i j=some (.l ys)->dp=true->fG G w id true [(n0+i,j)] (.l ys)
theorem Bk{xs ys:List (List T)}{i j:Nat}{t:T}(h:eg (xs++ys) i j=some t):
  (i<xs.length∧eg xs i j=some t)∨(xs.length<=i∧eg ys (i-xs.length) j=some t):=by
 unfold eg at h⊢
 by_cases hi:i<xs.length
 ·rw[List.getElem?_append_left hi]at h;exact .inl ⟨hi,h⟩
 ·rw[List.getElem?_append_right (by omega)]at h;exact .inr ⟨by omega,h⟩
theorem qi.join{G:Gh}{w:World}{id:Nat}{dp:Bool}{sz:Nat}{xs ys:List (List T)}{cv sf:Nat->Nat->Value}(hx:qi G w id dp sz 0 xs cv)(hy:qi G w id dp sz xs.length ys sf)
  {b cap:Nat}{arr:Array Value}{elem:TypeId}(hH:G.H id []=.slice (some ⟨b,0,none⟩) (xs.length+ys.length) cap)(hc:xs.length+ys.length<=cap∧(xs++ys=[]->cap=0))(iE:G.ω b=some (.o id []))
  (hh:w.heap[b]?=some (.cells arr elem (0,0)))(hs:arr.size=cap*sz)(h1:∀i j,i<xs.length->j<sz->arr[i*sz+j]?=some (cv i j))
  (h2:∀i j,i<ys.length->j<sz->arr[(xs.length+i)*sz+j]?=some (sf i j)):fG G w id dp [] (.l (xs++ys)):=by
 have lx:∀{i j:Nat} {t:T},eg xs i j=some t->i<xs.length∧j<sz:=by
  intro i j t ht
  obtain⟨r,_,hm,_,q1,q2⟩:=xe ht
  exact⟨q1,by rw[<-hx.wd r hm];exact q2⟩
 have ly:∀{i j:Nat} {t:T},eg ys i j=some t->i<ys.length∧j<sz:=by
  intro i j t ht
  obtain⟨r,_,hm,_,q1,q2⟩:=xe ht
  exact⟨q1,by rw[<-hy.wd r hm];exact q2⟩
 let c:Nat->Nat->Value:=λi j=>if i<xs.length then cv i j else sf (i-xs.length) j
 refine .l (cv:=c) (by rw[List.length_append];exact hH) (by rw[List.length_append];exact hc) iE hh hs (λr hr=>?_) ?_ ?_ ?_ ?_ ?_
 ·rcases List.mem_append.1 hr with hr|hr
  ·exact hx.wd r hr
  ·exact hy.wd r hr
 ·intro i j t ht
  rcases Bk ht with⟨q,ht⟩|⟨q,ht⟩
  ·simp only[c,if_pos q];exact h1 i j q (lx ht).2
  ·have:=h2 (i-xs.length) j (ly ht).1 (ly ht).2
   rw[show xs.length+(i-xs.length)=i by omega]at this
   simp only[c,if_neg (show¬i<xs.length by omega)];exact this
 ·intro i j v ht
  rcases Bk ht with⟨q,ht⟩|⟨q,ht⟩
  ·simp only[c,if_pos q];exact hx.sc i j v ht
  ·simp only[c,if_neg (show¬i<xs.length by omega)];exact hy.sc _ j v ht
 ·intro i j zs ht hd
  rcases Bk ht with⟨q,ht⟩|⟨q,ht⟩
  ·simp only[c,if_pos q];exact hx.pl i j zs ht hd
  ·simp only[c,if_neg (show¬i<xs.length by omega)];exact hy.pl _ j zs ht hd
 ·intro i j zs ht hd
  rcases Bk ht with⟨q,ht⟩|⟨q,ht⟩
  ·simp only[c,if_pos q];have:=hx.hd i j zs ht hd;simpa using this
  ·have:=hy.hd _ j zs ht hd
   rw[show xs.length+(i-xs.length)=i by omega]at this
   simp only[c,if_neg (show¬i<xs.length by omega)];simpa using this
 ·intro i j zs ht hd
  rcases Bk ht with⟨q,ht⟩|⟨q,ht⟩
  ·have:=hx.ow i j zs ht hd;simpa using this
  ·have:=hy.ow _ j zs ht hd
   rw[show xs.length+(i-xs.length)=i by omega]at this
   simpa using this
def rA(cv:Nat->Nat->Value)(sz m:Nat):List Value:=(List.range (m*sz)).map λk=>cv (k/sz) (k%sz)
theorem Af(cv:Nat->Nat->Value)(sz m:Nat):(rA cv sz m).length=m*sz:=by simp[rA]
theorem Bl{cv:Nat->Nat->Value}{sz m i j:Nat}(hi:i<m)(hj:j<sz):(rA cv sz m)[i*sz+j]?=some (cv i j):=by
 have bC:i*sz+j<m*sz:=by
  have:(i+1)*sz<=m*sz:=Nat.mul_le_mul_right _ hi
  rw[Nat.add_mul]at this
  omega
 have h1:(i*sz+j)/sz=i:=by rw[Nat.add_comm,Nat.add_mul_div_right _ _ (by omega),Nat.div_eq_of_lt hj];omega
 have h2:(i*sz+j)%sz=j:=by rw[Nat.add_comm,Nat.add_mul_mod_self_right,Nat.mod_eq_of_lt hj]
 simp[rA,bC,h1,h2]
theorem agB{cv:Nat->Nat->Value}{sz m:Nat}{v:Value}(iH:0<sz)(h:v∈rA cv sz m):∃i j,i<m∧j<sz∧v=cv i j:=by
 simp only[rA,List.mem_map,List.mem_range]at h
 obtain⟨k,hk,rfl⟩:=h
 exact⟨k/sz,k%sz,Nat.div_lt_of_lt_mul (by rw[Nat.mul_comm];exact hk),Nat.mod_lt _ iH,rfl⟩
section
variable {ρ:List T} {w:World} {P:Program}
theorem agC{sz wd:Nat}{xs:List (List T)}(hw:∀r∈xs,r.length=wd)(cV:okW sz xs=true):∀r∈xs,r.length=sz:=by
 intro r hr
 cases xs with
 |nil=>cases hr
 |cons x xs=>
  have h1:=hw x (by simp)
  have h2:=ew cV
  rw[hw r hr,<-h1,h2]
theorem J'{xs:List (List T)}{sz i j:Nat}(hw:∀r∈xs,r.length=sz)(hi:i<xs.length)(hj:j<sz):∃t,eg xs i j=some t:=by
 have hr:=List.getElem?_eq_getElem hi
 have hl:=hw xs[i] (List.getElem_mem hi)
 exact⟨xs[i][j],by simp[eg,hr,List.getElem?_eq_getElem (show j<xs[i].length by omega)]⟩
theorem yG{ω:Nat->Option Lb}{ys:List (List T)}{v:Value}(h:fq ω w (.l ys) v){sz:Nat}(iH:0<sz)(cV:okW sz ys=true){tx e':TypeId}(ht:P.underlying tx=some (.slice e')):
  ∃cv:Nat->Nat->Value,Src P sz tx v ys.length (rA cv sz ys.length) w∧(∀r∈ys,r.length=sz)∧(∀i j t,eg ys i j=some t->fq ω w t (cv i j))∧
   (∀b off n cap,v=.slice (some ⟨b,off,none⟩) n cap->∀i j t,eg ys i j=some t->w.cell? ⟨b,off+(i*sz+j),none⟩=some (cv i j)):=by
 cases h with
 |nil=>
  rename_i ao cap
  refine⟨λ_ _=>undef,?_,(λr hr=>by cases hr),(λi j t h=>by simp[eg]at h),λ_ _ _ _ _ i j t h=>by simp[eg]at h⟩
  have e0:rA (λ_ _=>undef) sz ([]:List (List T)).length=[]:=by simp[rA]
  rw[e0]
  cases ao with
  |none=>exact Src.ofNil w ht cap
  |some ad=>exact Src.ofSlice w ht ad 0 cap [] (by simp) (λj u hu=>by simp at hu) λu hu=>by cases hu
 | @l _ b off wd cap cv hw hc hb bC h1 h2=>
  have hw':=agC hw cV
  have ub:ys=[]∨wd=sz:=by
   cases ys with
   |nil=>exact .inl rfl
   |cons y ys=>exact .inr ((hw y (by simp)).symm.trans (hw' y (by simp)))
  have qd:∀i j t,eg ys i j=some t->w.cell? ⟨b,off+(i*sz+j),none⟩=some (cv i j):=by
   intro i j t bR
   rcases ub with rfl|rfl
   ·simp[eg]at bR
   ·exact h1 i j t bR
  refine⟨cv,Src.ofSlice w ht ⟨b,off,none⟩ ys.length cap _ (Af _ _ _) (λk u hu=>?_) (λu hu=>?_),hw',h2,λb' af0 n' yz he=>by cases he;exact qd⟩
  ·have hk:k<ys.length*sz:=by rw[<-Af cv sz ys.length];exact(List.getElem?_eq_some_iff.1 hu).1
   have hi:k/sz<ys.length:=Nat.div_lt_of_lt_mul (by rw[Nat.mul_comm];exact hk)
   have hj:k%sz<sz:=Nat.mod_lt _ iH
   have mf:(k/sz)*sz+k%sz=k:=by rw[Nat.mul_comm];exact Nat.div_add_mod k sz
   obtain⟨t,bR⟩:=J' hw' hi hj
   have:=Bl (cv:=cv) hi hj
   rw[mf,hu]at this
   cases this
   have j1:=qd _ _ t bR
   rw[mf]at j1
   rw[Addr.add_lit]
   exact j1
  ·obtain⟨i,j,hi,hj,rfl⟩:=agB iH hu
   obtain⟨t,bR⟩:=J' hw' hi hj
   exact(h2 i j t bR).one
end
section
variable {P:Program} {w:World}
theorem RY(b:Nat)(t:TypeId):∀(vs:List Value) (o:Nat) (w:World) (arr:Array Value),w.heap[b]?=some (.cells arr t (0,0))->
  (w.setCells b o vs).heap[b]?=some (.cells (yC vs o arr) t (0,0))∧(∀c,c≠b->(w.setCells b o vs).heap[c]?=w.heap[c]?)∧(w.setCells b o vs).heap.size=w.heap.size∧
   jL w (w.setCells b o vs)
 | [],o,w,arr,h=>⟨h,λ_ _=>rfl,rfl,⟨rfl,rfl,rfl⟩⟩
 |v::vs,o,w,arr,h=>by
  have h1:=heap_setCell_same w b o arr t v h
  obtain⟨g1,g2,g3,g4⟩:=RY b t vs (o+1) _ _ h1
  refine⟨g1,λc hc=>(g2 c hc).trans (heap_setCell_other w ⟨b,o,none⟩ c v hc),?_,?_⟩
  ·rw[World.setCells,g3];simp
  ·exact⟨g4.os.trans rfl,g4.tape.trans rfl,g4.output.trans rfl⟩
def Ka(w:World)(sz:Nat)(v:Value)(n:Nat)(b0:Option Nat)(cv:Nat->Nat->Value):Prop:=
 (v=.slice none 0 0∧n=0∧b0=none)∨∃b cap arr elem,v=.slice (some ⟨b,0,none⟩) n cap∧b0=some b∧w.heap[b]?=some (.cells arr elem (0,0))∧arr.size=cap*sz∧n<=cap∧(n=0->cap=0)∧
  ∀i j,i<n->j<sz->arr[i*sz+j]?=some (cv i j)
structure RZ (w w':World) (sz:Nat) (v':Value) (n m:Nat) (b0 nb:Option Nat) (cv sf:Nat->Nat->Value):Prop where
 so:jL w w'
 size:w.heap.size<=w'.heap.size
 oth:∀c,c<w.heap.size->nb≠some c->w'.heap[c]?=w.heap[c]?
 at_:∀c,nb=some c->(c=w.heap.size∨b0=some c)∧c<w'.heap.size
 row:(nb=none∧v'=.slice none 0 0∧n=0∧m=0)∨∃b cap arr elem,nb=some b∧v'=.slice (some ⟨b,0,none⟩) (n+m) cap∧w'.heap[b]?=some (.cells arr elem (0,0))∧arr.size=cap*sz∧n+m<=cap∧(n+m=0->cap=0)∧
  (∀i j,i<n->j<sz->arr[i*sz+j]?=some (cv i j))∧∀i j,i<m->j<sz->arr[(n+i)*sz+j]?=some (sf i j)
theorem Bm{i n j sz:Nat}(hi:i<n)(hj:j<sz):i*sz+j<n*sz:=by
 have:(i+1)*sz<=n*sz:=Nat.mul_le_mul_right _ hi
 rw[Nat.add_mul]at this
 omega
theorem agE{arr:Array Value}{sz n:Nat}{cv:Nat->Nat->Value}(iH:0<sz)(h:∀i j,i<n->j<sz->arr[i*sz+j]?=some (cv i j)){k:Nat}{u:Value}(hu:(rA cv sz n)[k]?=some u):arr[k]?=some u:=by
 have hk:k<n*sz:=by rw[<-Af cv sz n];exact(List.getElem?_eq_some_iff.1 hu).1
 have hi:k/sz<n:=Nat.div_lt_of_lt_mul (by rw[Nat.mul_comm];exact hk)
 have hj:k%sz<sz:=Nat.mod_lt _ iH
 have mf:(k/sz)*sz+k%sz=k:=by rw[Nat.mul_comm];exact Nat.div_add_mod k sz
 have h1:=Bl (cv:=cv) hi hj
 rw[mf,hu]at h1
 cases h1
 have h2:=h _ _ hi hj
 rw[mf]at h2
 exact h2
theorem agF{t tx ty e:TypeId}{i:TypeInfo}{z:Value}(ht:P.underlying t=some (.slice e))(hi:P.info? e=some i)(hz:i.zero=some z){sz:Nat}(hs:i.size=sz)(Bj:z.cells.size=sz)(iH:0<sz)
  (hby:i.bytes<=32768){va vb:Value}{n m:Nat}{b0:Option Nat}{cv sf:Nat->Nat->Value}(hr:Ka w sz va n b0 cv)(od:Src P sz tx vb m (rA sf sz m) w)(pn:n+m<uX):
  ∃v' w' nb,(Builtin.append_ #[t,tx] ty #[va,vb]).run P w=.ok v' w'∧RZ w w' sz v' n m b0 nb cv sf:=by
 subst hs
 have awD:n+m<4294967296:=pn
 have grown:∀(base:Option Addr) (wu:Nat),(Builtin.firstCells i.size n (.slice base n wu)).run P w.drew=.ok (rA cv i.size n).toArray w.drew->wu<n+m->
   ∃v' w' nb,(Builtin.append_ #[t,tx] ty #[.slice base n wu,vb]).run P w=.ok v' w'∧RZ w w' i.size v' n m b0 nb cv sf:=by
  intro base wu hold bC
  have lM:Builtin.nextslicecap (n+m) wu*i.bytes<=281474976710656:=growslice_fits (by omega) (by
   calc (n+m)*i.bytes<=4294967296*32768:=Nat.mul_le_mul (by omega) hby
    _=140737488355328:=by rfl)
  have fu:=run_append_grow_src (P:=P) w t tx ty e i z ht hi hz base n wu _ hold vb m _ od bC (by omega) lM
  refine⟨_,_,some w.heap.size,fu,⟨⟨rfl,rfl,rfl⟩,by simp,λc hc _=>heap_alloc_old w.drew _ c hc,λc hc=>by cases hc;exact⟨.inl rfl,by simp⟩,.inr ⟨w.heap.size,_,_,e,rfl,rfl,heap_alloc_new w.drew _,?_,grownCap_ge w _ _ _,λh0=>by omega,?_,?_⟩⟩⟩
  ·have R0:=grownCap_ge w (n+m) wu e
   simp only[Array.size_append,List.size_toArray,List.length_append,Af,size_zeroCells,Bj,<-Nat.add_mul]
   congr 1
   omega
  ·intro ii j qV hj
   have nB:=Bm qV hj
   rw[Array.getElem?_append_left (by simp only[List.size_toArray,List.length_append,Af];omega),List.getElem?_toArray,List.getElem?_append_left (by rw[Af];exact nB)]
   exact Bl qV hj
  ·intro ii j qV hj
   have nB:=Bm qV hj
   have e1:(n+ii)*i.size+j=n*i.size+(ii*i.size+j):=by rw[Nat.add_mul];omega
   rw[Array.getElem?_append_left (by simp only[List.size_toArray,List.length_append,Af];omega),List.getElem?_toArray,List.getElem?_append_right (by rw[Af];omega),Af,
    show(n+ii)*i.size+j-n*i.size=ii*i.size+j by omega]
   exact Bl qV hj
 rcases hr with⟨rfl,rfl,rfl⟩|⟨b,cap,arr,elem,rfl,rfl,hb,xo,hnc,A',sa⟩
 ·by_cases hm:m=0
  ·subst hm
   refine⟨.slice none 0 0,w,none,?_,⟨⟨rfl,rfl,rfl⟩,Nat.le_refl _,λ_ _ _=>rfl,(λc hc=>by cases hc),.inl ⟨rfl,rfl,rfl,rfl⟩⟩⟩
   rcases od.kind with⟨e',hk⟩|hk<;>simp[Builtin.append_,run_underlying ht,run_underlying hk,sizeOf,typeInfo,hi,od.len,od.cells]
  ·refine grown none 0 ?_ (by omega)
   have:=run_firstCells_none (P:=P) w.drew i.size 0 0 0
   simpa[rA]using this
 ·by_cases uc:n+m<=cap
  ·have IB:n*i.size+(rA sf i.size m).length<=arr.size:=by rw[Af,xo,<-Nat.add_mul];exact Nat.mul_le_mul_right _ uc
   have fu:=run_append_room_src (P:=P) w t tx ty e i ht hi b 0 n cap vb m _ od uc (λj hj=>by
    rw[yq hb];simp only[Nat.zero_add];rw[Array.getElem?_eq_getElem (by omega)];rfl) (λj hj=>by simp[World.frozen?,hb])
   obtain⟨g1,g2,g3,g4⟩:=RY b elem (rA sf i.size m) (0+n*i.size) w arr hb
   have agH:b<w.heap.size:=Qe hb
   refine⟨_,_,some b,fu,⟨g4,by rw[g3];exact Nat.le_refl _,λc _ hc=>g2 c λe=>hc (by rw[e]),λc hc=>by cases hc;exact⟨.inr rfl,by rw[g3];exact agH⟩,.inr ⟨b,cap,_,elem,rfl,rfl,g1,?_,uc,λh0=>A' (by omega),?_,?_⟩⟩⟩
   ·rw[Qg];exact xo
   ·intro ii j qV hj
    have nB:=Bm qV hj
    rw[Qh _ _ _ _ (by simpa using IB),if_neg (by omega)]
    exact sa ii j qV hj
   ·intro ii j qV hj
    have nB:=Bm qV hj
    have e1:(n+ii)*i.size+j=n*i.size+(ii*i.size+j):=by rw[Nat.add_mul];omega
    rw[Qh _ _ _ _ (by simpa using IB),if_pos ⟨by omega,by rw[Af];omega⟩,show(n+ii)*i.size+j-(0+n*i.size)=ii*i.size+j by omega]
    exact Bl qV hj
  ·refine grown (some ⟨b,0,none⟩) cap ?_ (by omega)
   have:=run_firstCells_some (P:=P) w.drew i.size n ⟨b,0,none⟩ n cap (rA cv i.size n) (Af _ _ _) (λj u hu=>by
    rw[Addr.add_lit]
    simp only[Nat.zero_add,World.cell?_drew]
    rw[yq hb]
    exact agE iH sa hu)
   exact this
end
section
variable {M:Nat->Prop} {B:ft} {d:Nat} {up:Nat->Nat->Value} {ρ:List T} {G:Gh} {a:Act} {w:World} {S:Nat->aA} {P:Program}
def lq(kA kx:Wk)(W:St):Prop:=kA.r=kx.r∧∀r,kA.w.look r=(W.look r).or (kx.w.look r)
theorem agI{k kA:Wk}{G1:Gh}{X:SV}{va:Value}{la:Lf}{IC k_:Bool}(hk:dL M B d up ρ G a w k G1)(hr:cR G1 w ρ X va)(hm:∀i∈dI X,M i)(h:Jw k X=some (kA,la,IC))
  (g_:k_=true->IC=true):kA.ct=k.ct∧kA.is=k.is∧∃kx G2 WA xs,dL M B d up ρ G a w kx G2∧kx.ct=k.ct∧lq kA kx WA∧la.gh ρ=some (.l xs)∧
   ((va=.slice none 0 0∧xs=[]∧WA=[])∨∃lG,WA=[(.o lG,.un)]∧M lG∧lG%4≠2∧va=G2.H lG []∧fG G2 w lG k_ [] (.l xs)):=by
 unfold Jw at h
 split at h
 ·simp only[bP,Prod.mk.injEq]at h
  obtain⟨rfl,rfl,rfl⟩:=h
  obtain⟨e,he,qJ,_⟩:=hr
  cases he
  exact⟨rfl,rfl,k,G1,[],[],hk,rfl,⟨rfl,λr=>by simp[St.look]⟩,rfl,.inl ⟨qJ,rfl,rfl⟩⟩
 ·rename_i id
  split at h
  ·rename_i dp x hx
   cases sk:Nat.beq (id%4) 2 with
   |true=>simp[sk]at h
   |false=>
   have Bn:id%4≠2:=λe=>by rw[e]at sk;cases sk
   simp only[sk,cond_false,bP,Prod.mk.injEq]at h
   obtain⟨rfl,rfl,rfl⟩:=h
   obtain⟨e,he,qJ,_⟩:=hr
   cases he
   obtain⟨p,hp,hva⟩:=qJ
   simp only[mB,bP]at hp
   subst hp
   have hM:M id:=hm id (by simp[dI,dZ])
   refine⟨rfl,rfl,?_⟩
   by_cases hd:k_=dp
   ·subst hd
    have eU:=hk.obj id
    rw[hx]at eU
    obtain⟨t,ht,b8⟩:=eU
    obtain⟨xs,rfl⟩:∃ys,t=.l ys:=by cases b8<;>exact⟨_,rfl⟩
    exact⟨k,G1,[(.o id,.un)],xs,hk,rfl,⟨rfl,λr=>vi r⟩,ht,.inr ⟨id,rfl,hM,Bn,hva,b8⟩⟩
   ·have e1:k_=false:=by cases k_<;>cases dp<;>simp_all
    subst e1
    have vj:k.flat id=some (k.set (.o id) (.ob false x)):=by unfold Wk.flat;rw[hx]
    obtain⟨G2,w2,f1,f2,f3,f4,f5⟩:=hk.flat vj
    have eU:=w2.obj id
    rw[Wk.cw]at eU
    obtain⟨t,ht,b8⟩:=eU
    obtain⟨xs,rfl⟩:∃ys,t=.l ys:=by cases b8<;>exact⟨_,rfl⟩
    refine⟨_,G2,[(.o id,.un)],xs,w2,f4,⟨rfl,λr=>?_⟩,ht,.inr ⟨id,rfl,hM,Bn,by rw[f2];exact hva,b8⟩⟩
    rw[show(k.set (.o id) .un).w.look r=_ from vi r,vh]
    by_cases se:bN.o id=r
    ·subst se;simp
    ·simp only[se,if_false,Option.none_or]
     exact(St.cN _ _ se).symm
  ·cases h
 ·cases h
def Fa(G:Gh)(w:World)(k_:Bool)(mO:Option Nat)(ys:List (List T))(cv:Nat->Nat->Value):Prop:=
 (k_=false∧∀i j t,eg ys i j=some t->fq G.q w t (cv i j))∨
 ((∀i j t,eg ys i j=some t->eA t=true∧fq (er G.ω) w t (cv i j)))∨
 (∃id,k_=true∧mO=some id∧(∀i j zs,eg ys i j=some (.l zs)->fG G w id true [(i,j)] (.l zs))∧(∀i j v,eg ys i j=some (.c v)->cv i j=v∧kV v=true)∧∀i j zs,eg ys i j=some (.l zs)->cv i j=G.H id [(i,j)])
theorem lq.get{kA kx:Wk}{W:St}(h:lq kA kx W){r:bN}(hr:W.look r=none):kA.get r=kx.get r:=by
 unfold Wk.get
 rw[h.2,hr,h.1]
 simp
theorem fG.rows{G1:Gh}{id:Nat}{ys:List (List T)}(h:fG G1 w id true [] (.l ys)):∀i j zs,eg ys i j=some (.l zs)->fG G1 w id true [(i,j)] (.l zs):=by
 intro i j zs bR
 have:=fG.lF [(i,j)] h (by simp[jh,bR]) ⟨zs,rfl⟩
 simpa using this
theorem R1{G1:Gh}{id:Nat}{dp:Bool}{ys:List (List T)}{v:Value}(h:fG G1 w id dp [] (.l ys))(hv:v=G1.H id []){sz:Nat}(iH:0<sz)(cV:okW sz ys=true){tx e':TypeId}(ht:P.underlying tx=some (.slice e')):
  ∃cv:Nat->Nat->Value,Src P sz tx v ys.length (rA cv sz ys.length) w∧(∀r∈ys,r.length=sz)∧(∀i j v,eg ys i j=some (.c v)->cv i j=v∧kV v=true)∧
   (dp=true->∀i j zs,eg ys i j=some (.l zs)->cv i j=G1.H id [(i,j)])∧(dp=false->∀i j t,eg ys i j=some t->fq G1.q w t (cv i j)):=by
 have eG:=h.den
 rw[<-hv]at eG
 obtain⟨cv,h1,h2,h3,h4⟩:=yG (P:=P) eG iH cV ht
 refine⟨cv,h1,h2,λi j u bR=>?_,λhd i j zs bR=>?_,λhd i j t bR=>?_⟩
 ·exact(h3 i j _ bR).scalar
 ·cases h with
  |nil=>simp[eg]at bR
  | @l _ _ _ b wd cap arr elem sf g1 g2 g3 g4 g5 g6 g7 g8 g9 g10 g11=>
   have hc:=h4 b 0 _ _ (by rw[hv];exact g1) i j _ bR
   have qG:wd=sz:=by
    obtain⟨r,_,hm,_⟩:=xe bR
    rw[<-g6 r hm,h2 r hm]
   subst qG
   rw[yq g4,Nat.zero_add,g7 i j _ bR]at hc
   rw[<-Option.some.inj hc]
   simpa using g10 i j zs bR hd
 ·cases h with
  |nil=>simp[eg]at bR
  | @l _ _ _ b wd cap arr elem sf g1 g2 g3 g4 g5 g6 g7 g8 g9 g10 g11=>
   have hc:=h4 b 0 _ _ (by rw[hv];exact g1) i j _ bR
   have qG:wd=sz:=by
    obtain⟨r,_,hm,_⟩:=xe bR
    rw[<-g6 r hm,h2 r hm]
   subst qG
   rw[yq g4,Nat.zero_add,g7 i j _ bR]at hc
   rw[<-Option.some.inj hc]
   cases t with
   |c u=>obtain⟨e1,e2⟩:=g8 i j u bR;rw[e1];exact .c e2
   |l zs=>exact g9 i j zs bR hd
theorem lq.same{kA kx kB:Wk}{W:St}(h:lq kA kx W)(hs:kA.fB kB):lq kB kx W:=⟨hs.r.trans h.1,λr=>by rw[hs.w];exact h.2 r⟩
theorem agJ{kA kB:Wk}{Y:SV}{lb:Lf}{sl fz DZ:Bool}(h:AM sl fz kA Y=some (kB,lb,DZ))(hd:kB.bT S ρ):kA.bT S ρ:=by
 unfold AM at h
 split at h
 ·simp only[bP,Prod.mk.injEq]at h;rw[h.1];exact hd
 ·simp only[bP,Prod.mk.injEq]at h;rw[h.1];exact hd
 ·cases oX:sl with
  |false=>
   simp only[oX,cond_false,cU,bP,Prod.mk.injEq]at h
   obtain⟨⟨k2,x2⟩,hv,rfl,_⟩:=h
   exact Wk.mb hv hd
  |true=>
   simp only[oX,cond_true]at h
   split at h
   ·rename_i dp x hx
    cases hc:(dp&& !fz)with
    |true=>simp only[hc,cond_true,bP,Prod.mk.injEq]at h;rw[<-h.1]at hd;exact hd
    |false=>simp only[hc,cond_false,bP,Prod.mk.injEq]at h;rw[<-h.1]at hd;exact hd
   ·simp only[bP,Prod.mk.injEq]at h;rw[h.1];exact hd
   ·cases tb:fz with
    |true=>simp[tb]at h
    |false=>simp only[tb,cond_false,bP,Prod.mk.injEq]at h;rw[<-h.1]at hd;exact hd
   ·cases h
 ·cases h
theorem agK{kA kB kx:Wk}{G1:Gh}{WA:St}{Y:SV}{vb:Value}{lb:Lf}{sl fz DZ k_:Bool}(hk:dL M B d up ρ G a w kx G1)(ho:lq kA kx WA)(ud:∀r u,WA.look r=some u->u=.un)
  (hr:cR G1 w ρ Y vb)(hm:∀i∈dI Y,M i)(h:AM sl fz kA Y=some (kB,lb,DZ))(hd:kB.bT S ρ)(g_:k_=true->DZ=true):
  kA.bT S ρ∧kB.ct.i=kA.ct.i∧∃ky G3 WB t mO,dL M B d up ρ G a w ky G3∧lq kB ky (WB++WA)∧((WB=[]∧mO=none)∨∃i,mO=some i∧WB=[(.o i,.un)]∧WA.look (.o i)=none∧M i)∧
   lb.gh ρ=some t∧G3.H=G1.H∧dM (λl=>∃i p,l=.o i p∧WA.look (.o i)=none) (λ_=>False) G1 w G3 w∧(∀i p,∀b,G3.ω b=some (.o i p)->G1.ω b=some (.o i p))∧
   ∀ys sz tx e',t=.l ys->0<sz->okW sz ys=true->(sl=false->ys.all (·.all eA)=true)->P.underlying tx=some (.slice e')->
    ∃cv,Src P sz tx vb ys.length (rA cv sz ys.length) w∧(∀r∈ys,r.length=sz)∧Fa G3 w k_ mO ys cv:=by
 have stay:dM (λl=>∃i p,l=.o i p∧WA.look (.o i)=none) (λ_=>False) G1 w G1 w:=(dM.refl G1 w).mono (λ_ hf=>hf.elim) λ_ hf=>hf
 have ue:∀ys:List (List T),ys.all (·.all eA)=true->∀i j t,eg ys i j=some t->eA t=true:=by
  intro ys hs i j t bR
  obtain⟨r,_,jV,Iw,_⟩:=xe bR
  exact List.all_eq_true.1 (List.all_eq_true.1 hs r jV) t (List.mem_of_getElem? Iw)
 unfold AM at h
 split at h
 ·
  simp only[bP,Prod.mk.injEq]at h
  obtain⟨rfl,rfl,rfl⟩:=h
  obtain⟨e,he,qJ,_⟩:=hr
  cases he
  refine⟨hd,rfl,kx,G1,[],.l [],none,hk,ho,.inl ⟨rfl,rfl⟩,rfl,rfl,stay,λ_ _ _ h=>h,λys sz tx e' ht iH cV _ sr=>?_⟩
  cases ht
  rw[show vb=_ from qJ]
  obtain⟨cv,h1,h2,_,_⟩:=yG (P:=P) (.nil:fq G1.q w (.l []) (.slice none 0 0)) iH cV sr
  exact⟨cv,h1,h2,.inr (.inl λi j t bR=>by simp[eg]at bR)⟩
 ·
  simp only[bP,Prod.mk.injEq]at h
  obtain⟨rfl,rfl,rfl⟩:=h
  obtain⟨e,he,qJ,_⟩:=hr
  cases he
  obtain⟨t,ht,eG⟩:=qJ
  refine⟨hd,rfl,kx,G1,[],t,none,hk,ho,.inl ⟨rfl,rfl⟩,ht,rfl,stay,λ_ _ _ h=>h,λys sz tx e' ht iH cV np sr=>?_⟩
  subst ht
  obtain⟨cv,h1,h2,h3,_⟩:=yG (P:=P) eG iH cV sr
  refine⟨cv,h1,h2,?_⟩
  cases hb:k_ with
  |false=>exact .inl ⟨rfl,h3⟩
  |true=>
   have:=g_ hb
   have oX:sl=false:=by simpa using this
   exact .inr (.inl λi j t bR=>⟨ue ys (np oX) i j t bR,(h3 i j t bR).er⟩)
 ·
  rename_i id q
  obtain⟨e,he,qJ,_⟩:=hr
  cases he
  have hMi:M id:=hm id (by simp[dI,dZ])
  cases oX:sl with
  |false=>
   simp only[oX,cond_false,cU,bP,Prod.mk.injEq]at h
   obtain⟨⟨k2,x2⟩,hv,rfl,rfl,rfl⟩:=h
   have eo:WA.look (.o id)=none:=by
    cases hl:WA.look (.o id)with
    |none=>rfl
    |some u=>
     exfalso
     have hu:=ud _ _ hl
     subst hu
     have:kA.get (.o id)=.un:=by unfold Wk.get;rw[ho.2,hl];simp
     simp[Wk.val,this]at hv
   obtain⟨t,ht,eG⟩:=Wk.lJ hv hd qJ λi hi=>by
    simp[dZ]at hi
    subst hi
    rw[ho.get eo]
    exact hk.obj i
   refine⟨Wk.mb hv hd,(Wk.ek hv).i,kx,G1,[],t,none,hk,ho.same (Wk.ek hv),.inl ⟨rfl,rfl⟩,ht,rfl,stay,λ_ _ _ h=>h,λys sz tx e' ht iH cV np sr=>?_⟩
   subst ht
   obtain⟨cv,h1,h2,h3,_⟩:=yG (P:=P) eG iH cV sr
   exact⟨cv,h1,h2,.inr (.inl λi j t bR=>⟨ue ys (np rfl) i j t bR,h3 i j t bR⟩)⟩
  |true=>
   simp only[oX,cond_true]at h
   have eo:kA.get (.o id)≠.un->WA.look (.o id)=none:=by
    intro dU
    cases hl:WA.look (.o id)with
    |none=>rfl
    |some u=>
     exfalso
     have hu:=ud _ _ hl
     subst hu
     exact dU (by unfold Wk.get;rw[ho.2,hl];simp)
   obtain⟨p,hp,R2⟩:=qJ
   split at h
   ·rename_i dp x hx
    have hn:=eo (by rw[hx];simp)
    simp only[mB,bP]at hp
    subst hp
    have D0:kx.get (.o id)=.ob dp x:=by rw[<-ho.get hn];exact hx
    have uf:k_=false->∃ky G3,ky=kx.set (.o id) (.ob false x)∧dL M B d up ρ G a w ky G3∧G3.H=G1.H∧dM (λl=>∃i p,l=.o i p∧WA.look (.o i)=none) (λ_=>False) G1 w G3 w∧(∀i p,∀b,G3.ω b=some (.o i p)->G1.ω b=some (.o i p))∧
      ∃t,x.gh ρ=some t∧∀ys sz tx e',t=.l ys->0<sz->okW sz ys=true->P.underlying tx=some (.slice e')->∃cv,Src P sz tx vb ys.length (rA cv sz ys.length) w∧(∀r∈ys,r.length=sz)∧∀mO,Fa G3 w k_ mO ys cv:=by
     intro agM
     have hG:dL M B d up ρ G a w (kx.set (.o id) (.ob false x)) (G1.free id false):=by
      have hx3:=D0
      rw[Wk.bn]at hx3
      refine⟨(hk.rel.flat hx3).congr (Ir _ _ _ _),(hk.bw.mono (λl hl=>Iq hl) λ_ hn=>hn).trans ((G1.fU id false w).mono ?_ λ_ hn=>hn)⟩
      rintro l ⟨p,rfl⟩
      show(kx.w.set _ _).look (.o id)≠none
      rw[St.bI];simp
     refine⟨_,G1.free id false,rfl,hG,rfl,(G1.fU id false w).mono (λl ⟨p,hp⟩=>⟨id,p,hp,hn⟩) (λ_ hf=>hf),λi p b hb=>?_,?_⟩
     ·simp only[Gh.free]at hb
      split at hb
      ·split at hb
       ·cases hb
       ·rename_i hw _;rw[hw];exact hb
      ·exact hb
     ·have eU:=hG.obj id
      rw[Wk.cw]at eU
      obtain⟨t,ht,b8⟩:=eU
      refine⟨t,ht,λys sz tx e' qa iH cV sr=>?_⟩
      subst qa
      obtain⟨cv,h1,h2,_,_,h5⟩:=R1 (P:=P) b8 R2 iH cV sr
      exact⟨cv,h1,h2,λ_=>.inl ⟨agM,h5 rfl⟩⟩
    cases hc:(dp&& !fz)with
    |true=>
     simp only[hc,cond_true,bP,Prod.mk.injEq]at h
     obtain⟨rfl,rfl,rfl⟩:=h
     simp only[bL]at hc
     cases Qj:k_ with
     |false=>
      obtain⟨ky,G3,rfl,w3,e3,kp,e4,t,ht,od⟩:=uf Qj
      refine⟨hd,rfl,_,G3,[(.o id,.un)],t,some id,w3,⟨ho.1,λr=>?_⟩,.inr ⟨id,rfl,rfl,hn,hMi⟩,ht,e3,kp,e4,λys sz tx e' qa iH cV _ sr=>?_⟩
      ·rw[show(kA.set (.o id) .un).w.look r=_ from vi r,mE,vh,ho.2]
       by_cases se:bN.o id=r
       ·subst se;simp
       ·simp only[se,if_false,Option.none_or]
        rw[show(kx.set (.o id) (.ob false x)).w.look r=_ from St.cN _ _ se]
      ·obtain⟨cv,h1,h2,h3⟩:=od ys sz tx e' qa iH cV sr
       rw[<-Qj]
       exact⟨cv,h1,h2,h3 _⟩
     |true=>
      have eU:=hk.obj id
      rw[D0,hc.1]at eU
      obtain⟨t,ht,b8⟩:=eU
      refine⟨hd,rfl,kx,G1,[(.o id,.un)],t,some id,hk,⟨ho.1,λr=>?_⟩,.inr ⟨id,rfl,rfl,hn,hMi⟩,ht,rfl,stay,λ_ _ _ h=>h,λys sz tx e' qa iH cV _ sr=>?_⟩
      ·rw[show(kA.set (.o id) .un).w.look r=_ from vi r,mE,ho.2,Option.or_assoc]
      ·subst qa
       obtain⟨cv,h1,h2,h3,h4,_⟩:=R1 (P:=P) b8 R2 iH cV sr
       exact⟨cv,h1,h2,.inr (.inr ⟨id,rfl,rfl,b8.rows,h3,h4 rfl⟩)⟩
    |false=>
     simp only[hc,cond_false,bP,Prod.mk.injEq]at h
     obtain⟨rfl,rfl,rfl⟩:=h
     have Qj:k_=false:=by cases k_ with|false=>rfl|true=>exact absurd (g_ rfl) (by simp)
     obtain⟨ky,G3,rfl,w3,e3,kp,e4,t,ht,od⟩:=uf Qj
     refine⟨hd,rfl,_,G3,[],t,none,w3,⟨ho.1,λr=>?_⟩,.inl ⟨rfl,rfl⟩,ht,e3,kp,e4,λys sz tx e' qa iH cV _ sr=>?_⟩
     ·by_cases se:bN.o id=r
      ·subst se
       rw[show(kA.set (.o id) (.ob false x)).w.look (.o id)=_ from St.bI _ _ _,List.nil_append,hn]
       simp only[Option.none_or]
       exact(St.bI _ _ _).symm
      ·rw[show(kA.set (.o id) (.ob false x)).w.look r=_ from St.cN _ _ se,ho.2,List.nil_append,show(kx.set (.o id) (.ob false x)).w.look r=_ from St.cN _ _ se]
     ·obtain⟨cv,h1,h2,h3⟩:=od ys sz tx e' qa iH cV sr
      exact⟨cv,h1,h2,h3 _⟩
   ·rename_i x hx
    have hn:=eo (by rw[hx];simp)
    simp only[mB,bP]at hp
    subst hp
    simp only[bP,Prod.mk.injEq]at h
    obtain⟨rfl,rfl,rfl⟩:=h
    have Qj:k_=false:=by cases k_ with|false=>rfl|true=>exact absurd (g_ rfl) (by simp)
    have eU:=hk.obj id
    rw[<-ho.get hn,hx]at eU
    obtain⟨t,ht,eG,_⟩:=eU
    refine⟨hd,rfl,kx,G1,[],t,none,hk,ho,.inl ⟨rfl,rfl⟩,ht,rfl,stay,λ_ _ _ h=>h,λys sz tx e' qa iH cV _ sr=>?_⟩
    subst qa
    rw[<-R2]at eG
    obtain⟨cv,h1,h2,h3,_⟩:=yG (P:=P) eG iH cV sr
    exact⟨cv,h1,h2,.inl ⟨Qj,h3⟩⟩
   ·rename_i x hx
    have hn:=eo (by rw[hx];simp)
    simp only[mB,bP]at hp
    subst hp
    cases tb:fz with
    |true=>simp[tb]at h
    |false=>
     simp only[tb,cond_false,bP,Prod.mk.injEq]at h
     obtain⟨rfl,rfl,rfl⟩:=h
     have eU:=hk.obj id
     rw[<-ho.get hn,hx]at eU
     obtain⟨h40,ys,ht,eG,tY,b8⟩:=eU
     refine⟨hd,rfl,kx,G1,[(.o id,.un)],_,some id,hk,⟨ho.1,λr=>?_⟩,.inr ⟨id,rfl,rfl,hn,hMi⟩,ht,rfl,stay,λ_ _ _ h=>h,λys' sz tx e' qa iH cV _ sr=>?_⟩
     ·rw[show(kA.set (.o id) .un).w.look r=_ from vi r,mE,ho.2,Option.or_assoc]
     ·cases qa
      have nC:=eG
      rw[<-R2]at nC
      obtain⟨cv,h1,h2,h3,h4⟩:=yG (P:=P) nC iH cV sr
      refine⟨cv,h1,h2,?_⟩
      cases hb:k_ with
      |false=>exact .inl ⟨rfl,h3⟩
      |true=>
       refine .inr (.inr ⟨id,rfl,rfl,b8,λi j v bR=>(h3 i j _ bR).scalar,λi j zs bR=>?_⟩)
       obtain⟨ad,cap,qW,_⟩:=nC.rows
       cases ad with
       |none=>
        rw[qW]at nC
        generalize s9:Value.slice none ys.length cap=vv at nC
        cases nC with
        |nil=>simp[eg]at bR
        |l=>cases s9
       |some ad=>
        obtain⟨b,off,r0⟩:=ad
        rw[qW]at nC
        generalize s9:Value.slice (some ⟨b,off,r0⟩) ys.length cap=vv at nC
        cases nC with
        |nil=>simp[eg]at bR
        | @l _ b2 axJ wd J2 cv2 g1 g2 g3 g4 g5 g6=>
         cases s9
         obtain⟨DX,w1,w2⟩:=tY b off _ _ (by rw[<-R2];exact qW)
         have e1:=h4 b off _ _ qW i j _ bR
         have e2:=w2 i j zs bR
         obtain⟨row,_,jV,_⟩:=xe bR
         rw[<-w1 row jV,h2 row jV,e1]at e2
         simpa using e2
   ·cases h
 ·cases h
theorem agN{sc:Bool}{sz:Nat}{xs:List (List T)}{t r:T}(h:Prim.ev (.app sc sz) [.l xs,t]=some r):
  ∃ys,t=.l ys∧xs.length+ys.length<uX∧(sc=true->ys.all (·.all eA)=true)∧okW sz xs=true∧okW sz ys=true∧r=.l (xs++ys):=by
 cases t with
 |c v=>simp[Prim.ev]at h
 |l ys=>
  simp only[Prim.ev]at h
  split at h
  ·rename_i h1
   split at h
   ·rename_i h2
    split at h
    ·rename_i h3
     split at h
     ·rename_i h4
      simp only[bP]at h
      exact⟨ys,rfl,h1,λhs=>by subst hs;simpa using h2,h3,h4,h.symm⟩
     ·cases h
    ·cases h
   ·cases h
  ·cases h
theorem agO{G1:Gh}{id:Nat}{dp:Bool}{xs:List (List T)}{v:Value}(h:fG G1 w id dp [] (.l xs))(hv:v=G1.H id []){sz:Nat}(cV:okW sz xs=true):
  ∃(cv:Nat->Nat->Value) (b0:Option Nat),Ka w sz v xs.length b0 cv∧(∀b,b0=some b->G1.ω b=some (.o id []))∧qi G1 w id dp sz 0 xs cv:=by
 cases h with
 |nil hH=>
  refine⟨λ_ _=>undef,none,.inl ⟨by rw[hv,hH],rfl,rfl⟩,λb hb=>(by cases hb),⟨λr hr=>(by cases hr),?_,?_,?_,?_⟩⟩<;>intro i j t bR<;>simp[eg]at bR
 | @l _ _ _ b wd cap arr elem cv g1 g2 g3 g4 g5 g6 g7 g8 g9 g10 g11=>
  by_cases hx:xs=[]
  ·subst hx
   have pn:=g2.2 rfl
   subst pn
   refine⟨cv,some b,.inr ⟨b,0,arr,elem,by rw[hv,g1],rfl,g4,by rw[g5];simp,Nat.le_refl _,λ_=>rfl,λi j hi _=>by simp at hi⟩,λc hc=>by cases hc;exact g3,⟨λr hr=>(by cases hr),?_,?_,?_,?_⟩⟩<;>intro i j t bR<;>simp[eg]at bR
  ·have qG:wd=sz:=by
    cases xs with
    |nil=>exact absurd rfl hx
    |cons r xs=>rw[<-g6 r (by simp)];exact ew cV
   subst qG
   refine⟨cv,some b,.inr ⟨b,cap,arr,elem,by rw[hv,g1],rfl,g4,g5,g2.1,λh0=>g2.2 (List.eq_nil_of_length_eq_zero h0),λi j hi hj=>?_⟩,λc hc=>by cases hc;exact g3,⟨g6,g8,g9,?_,?_⟩⟩
   ·obtain⟨t,bR⟩:=J' g6 hi hj
    exact g7 i j t bR
   ·intro i j ys bR hd
    simpa using g10 i j ys bR hd
   ·intro i j ys bR hd
    simpa using g11 i j ys bR hd
end
def tc(ja jb:Option Nat)(i n:Nat):Lb->Option Lb
 | .f=>some .f
 | .x b=>some (.x b)
 | .o j p=>
  if ja=some j then(match p with| []=>some (.o j [])|x::p=>some (.o i (x::p)))
  else if jb=some j then(match p with| []=>some (.o j [])|(r,c)::p=>some (.o i ((n+r,c)::p)))
  else some (.o j p)
theorem R3(i:Nat):fE i%2=0:=by unfold fE;omega
theorem Kb{ja jb:Option Nat}{i n:Nat}(hi:i%2=0)(l l':Lb)(hq:qt l=true)(h:tc ja jb i n l=some l'):qt l'=true:=by
 cases l with
 |o j p=>
  cases p with
  |nil=>
   simp only[tc]at h
   split at h
   ·cases h;exact hq
   ·split at h
    ·cases h;exact hq
    ·cases h;exact hq
  |cons x p=>
   obtain⟨r,c⟩:=x
   simp only[tc]at h
   split at h
   ·cases h;exact wb hi (by simp)
   ·split at h
    ·cases h;exact wb hi (by simp)
    ·cases h;exact hq
 |_=>simp[qt]at hq
def ss(G:Gh)(ja jb:Option Nat)(n:Nat)(v:Value):List (Nat×Nat)->Value
 | []=>v
 |(r,c)::p=>if r<n then(match ja with|some j=>G.H j ((r,c)::p)|none=>.slice none 0 0)else(match jb with|some j=>G.H j ((r-n,c)::p)|none=>.slice none 0 0)
theorem Kc{G:Gh}{ja jb:Option Nat}{n:Nat}{v:Value}(hv:∃a m c,v=.slice a m c)(p:List (Nat×Nat)):∃a m c,ss G ja jb n v p=.slice a m c:=by
 cases p with
 |nil=>exact hv
 |cons x p=>
  obtain⟨r,k⟩:=x
  by_cases hr:r<n
  ·simp only[ss,if_pos hr]
   cases ja with
   |none=>exact⟨_,_,_,rfl⟩
   |some j=>exact G.hs j _
  ·simp only[ss,if_neg hr]
   cases jb with
   |none=>exact⟨_,_,_,rfl⟩
   |some j=>exact G.hs j _
section
variable {M:Nat->Prop} {B:ft} {d:Nat} {up:Nat->Nat->Value} {ρ:List T} {G:Gh} {a:Act} {w:World} {S:Nat->aA} {P:Program}
variable {cx:Cx} {df fP oi:Nat} {s:St} {R:List bN} {ct:Ct} {k':Wk} {o:Oper} {Q:Exit->Act->World->Prop}
theorem agP{G3:Gh}{w':World}{lG i n:Nat}{k_:Bool}{sz:Nat}{xs:List (List T)}{cv:Nat->Nat->Value}(h:qi G3 w lG k_ sz 0 xs cv)(hn:xs.length<=n)
  {nb:Option Nat}{jb:Option Nat}{v:Value}{nA:∀p,∃a m c,ss G3 (some lG) jb n v p=.slice a m c}(wo:∀c,nb=some c->c=w.heap.size∨G3.ω c=some (.o lG []))(xp:lG%4≠2)
  (hi:i%2=0)(mN:∀b l,G3.ω b=some l->b<w.heap.size)(iH:w.heap.size<=w'.heap.size)(hh:∀c,c<w.heap.size->nb≠some c->w'.heap[c]?=w.heap[c]?):
  qi (G3.i_ nb i (tc (some lG) jb i n) (ss G3 (some lG) jb n v) nA) w' i k_ sz 0 xs cv:=by
 have qc:∀b,b<w.heap.size->G3.q b=none->(G3.i_ nb i (tc (some lG) jb i n) (ss G3 (some lG) jb n v) nA).q b=none∧w'.heap[b]?=w.heap[b]?:=by
  intro b hb h0
  have dU:nb≠some b:=by
   intro e
   rcases wo b e with rfl|h1
   ·omega
   ·exact vZ h1 (rX xp) h0
  exact⟨E_ (Kb hi) dU h0,hh b hb dU⟩
 refine⟨h.wd,h.sc,λr c ys bR hd=>(h.pl r c ys bR hd).bw iH qc,λr c ys bR hd=>?_,λr c ys bR hd=>?_⟩
 ·have bC:r<n:=by obtain⟨_,_,_,_,q1,_⟩:=xe bR;omega
  have:=h.hd r c ys bR hd
  simp only[Nat.zero_add]at this⊢
  rw[this]
  simp[Gh.i_,ss,bC]
 ·have bC:r<n:=by obtain⟨_,_,_,_,q1,_⟩:=xe bR;omega
  have:=h.ow r c ys bR hd
  simp only[Nat.zero_add]at this⊢
  refine this.move rfl (λe q he=>?_) λq=>by simp[Gh.i_,ss,bC]
  have nB:=mN e _ he
  have dU:nb≠some e:=by
   intro e'
   rcases wo e e' with rfl|h1
   ·omega
   ·rw[he]at h1;simp at h1
  refine⟨?_,hh e nB dU⟩
  simp only[Gh.i_,dU,if_false,he,Option.bind_some,tc,if_true]
  rfl
theorem agQ{G3:Gh}{w':World}{i n:Nat}{ja:Option Nat}{k_:Bool}{sz:Nat}{ys:List (List T)}{cv:Nat->Nat->Value}{mO:Option Nat}(h:Fa G3 w k_ mO ys cv)(g_:∀id,mO=some id->ja≠some id)
  (hw:∀r∈ys,r.length=sz){nb:Option Nat}{v:Value}{nA:∀p,∃a m c,ss G3 ja mO n v p=.slice a m c}
  (wo:∀c,nb=some c->c=w.heap.size∨∃j,ja=some j∧G3.ω c=some (.o j [])∧j%4≠2)
  (hi:i%2=0)(mN:∀b l,G3.ω b=some l->b<w.heap.size)(iH:w.heap.size<=w'.heap.size)(hh:∀c,c<w.heap.size->nb≠some c->w'.heap[c]?=w.heap[c]?):
  qi (G3.i_ nb i (tc ja mO i n) (ss G3 ja mO n v) nA) w' i k_ sz n ys cv:=by
 have qc:∀b,b<w.heap.size->G3.q b=none->(G3.i_ nb i (tc ja mO i n) (ss G3 ja mO n v) nA).q b=none∧w'.heap[b]?=w.heap[b]?:=by
  intro b hb h0
  have dU:nb≠some b:=by
   intro e
   rcases wo b e with rfl|⟨j,_,h1,yB⟩
   ·omega
   ·exact vZ h1 (rX yB) h0
  exact⟨E_ (Kb hi) dU h0,hh b hb dU⟩
 have plain:k_=false->(∀i j t,eg ys i j=some t->fq G3.q w t (cv i j))->qi (G3.i_ nb i (tc ja mO i n) (ss G3 ja mO n v) nA) w' i k_ sz n ys cv:=by
  intro hf eG
  exact⟨hw,λr c u bR=>(eG r c _ bR).scalar,λr c zs bR _=>(eG r c _ bR).bw iH qc,λr c zs _ hd=>(by rw[hf]at hd;cases hd),λr c zs _ hd=>(by rw[hf]at hd;cases hd)⟩
 rcases h with⟨hf,eG⟩|np|⟨id,mC,hid,b8,hs,hl⟩
 ·exact plain hf eG
 ·refine⟨hw,λr c u bR=>(np r c _ bR).2.scalar,λr c zs bR _=>?_,λr c zs bR _=>?_,λr c zs bR _=>?_⟩<;>have:=(np r c _ bR).1<;>simp[eA]at this
 ·subst hid
  refine⟨hw,hs,λr c zs bR hd=>?_,λr c zs bR hd=>?_,λr c zs bR hd=>?_⟩
  ·rw[mC]at hd;cases hd
  ·rw[hl r c zs bR]
   simp[Gh.i_,ss,show¬(n+r<n) by omega]
  ··have:=b8 r c zs bR
    refine this.move rfl (λe q he=>?_) λq=>by simp[Gh.i_,ss,show¬(n+r<n) by omega]
    have nB:=mN e _ he
    have dU:nb≠some e:=by
     intro e'
     rcases wo e e' with rfl|⟨j,hj,h1,_⟩
     ·omega
     ·rw[he]at h1;simp at h1
    have hja:ja≠some id:=g_ id rfl
    refine⟨?_,hh e nB dU⟩
    simp[Gh.i_,dU,he,tc,hja]
theorem agR{ja jb:Option Nat}{i n:Nat}{l l':Lb}(h:tc ja jb i n l=some l'):l'.id=l.id∨l'.id=i:=by
 cases l with
 |f=>simp only[tc,bP]at h;subst h;exact .inl rfl
 |x b=>simp only[tc,bP]at h;subst h;exact .inl rfl
 |o j p=>
  simp only[tc]at h
  split at h
  ·cases p with
   |nil=>simp only[bP]at h;subst h;exact .inl rfl
   |cons x p=>simp only[bP]at h;subst h;exact .inr rfl
  ·split at h
   ·cases p with
    |nil=>simp only[bP]at h;subst h;exact .inl rfl
    |cons x p=>simp only[bP]at h;subst h;exact .inr rfl
   ·simp only[bP]at h;subst h;exact .inl rfl
theorem agS{ti tj te:TI}{t tx:Nat}(ez:eZ P cx)(gn:cx.ty t=some ti)(htj:cx.ty tx=some tj)(r_:cx.ty ti.el=some te)(jj:ti.kd=3)(hj3:tj.kd=3)(hby:te.bytes<=32768)(iH:0<te.sz)
  (h:Rel M B d up s ρ G a w)(hn:∀n,o.dst=some n->n<a.tmps.size){c:Call}{x y:Operand}(ho:o.op=.call c)(hc:c.callee=.builtin .append)(fI:c.args.toList=[x,y])(bR:c.argTypes.toList=[t,tx])
  {k5 ky kw:Wk}{G3:Gh}{WA WB:St}{lG mO:Option Nat}{xs ys:List (List T)}{k_:Bool}{r:Lf}(w3:dL M B d up ρ G a w ky G3)(awG:lq k5 ky (WB++WA))(jJ:k5.ct.i%2=0)(hM:¬M k5.ct.i)
  (ud:(lG=none∧WA=[]∧a.eval x=.slice none 0 0∧xs=[])∨∃i,lG=some i∧WA=[(.o i,.un)]∧M i∧i%4≠2∧a.eval x=G3.H i []∧fG G3 w i k_ [] (.l xs))
  (R4:(WB=[]∧mO=none)∨∃i,mO=some i∧WB=[(.o i,.un)]∧WA.look (.o i)=none∧M i)
  (agU:okW te.sz xs=true)(bC:xs.length+ys.length<uX){cv:Nat->Nat->Value}{e':TypeId}(od:Src P te.sz tx (a.eval y) ys.length (rA cv te.sz ys.length) w)(hwy:∀r∈ys,r.length=te.sz)
  (mF:Fa G3 w k_ mO ys cv)(hr:r.gh ρ=some (.l (xs++ys)))(RW:∀r',kw.w.look r'=(St.look ((.o k5.ct.i,.ob k_ r)::(WB++WA)) r').or (ky.w.look r')):
  b_ P (Mn M k5.ct.i (k5.ct.i+1)) B d up ρ a w s o (cm d o kw (.v false [.o k5.ct.i []])).w Q:=by
 have hT:=ez.ty _ _ gn
 have hE:=ez.ty _ _ r_
 obtain⟨i,z,vl,ln,Iz,IA,yu⟩:=hE.info
 have hu:=hT.sl jj
 have Bj:z.cells.size=te.sz:=by
  have:=(wg (G:=G) (w:=w) (ρ:=ρ) yu).1.length
  rw[hE.EY]at this
  simpa using this.symm
 have mN:∀b l,G3.ω b=some l->b<w.heap.size:=λb l hb=>(w3.rel.iP b l hb).2
 obtain⟨Qk,b0,uc,Kd,jM⟩:∃(Qk:Nat->Nat->Value) (b0:Option Nat),Ka w te.sz (a.eval x) xs.length b0 Qk∧(∀b,b0=some b->∃j,lG=some j∧G3.ω b=some (.o j [])∧j%4≠2)∧
   (xs=[]∨∃j,lG=some j∧qi G3 w j k_ te.sz 0 xs Qk):=by
  rcases ud with⟨rfl,_,hv,rfl⟩|⟨j,rfl,_,_,yB,hv,b8⟩
  ·exact⟨λ_ _=>undef,none,.inl ⟨hv,rfl,rfl⟩,λb hb=>(by cases hb),.inl rfl⟩
  ·obtain⟨Qk,b0,h1,h2,h3⟩:=agO b8 hv agU
   exact⟨Qk,b0,h1,λb hb=>⟨j,rfl,h2 b hb,yB⟩,.inr ⟨j,rfl,h3⟩⟩
 obtain⟨v',w',nb,fu,nD⟩:=agF (P:=P) (w:=w) (ty:=o.type) hu vl IA ln Bj iH (by rw[Iz];exact hby) uc od bC
 have jc:(execOp a.eval o).run P w=.ok (.value v') w':=by
  refine Rs ho hc ?_
  have hA:c.args=#[x,y]:=Array.ext' fI
  have hB:c.argTypes=#[t,tx]:=Array.ext' bR
  rw[hA,hB]
  show Sem.run P (do let v <-Builtin.append_ #[t,tx] o.type (#[x,y].map a.eval);pure (Next.value v)) w=_
  rw[Sem.run_bind]
  simp only[List.map_toArray,List.map_cons,List.map_nil]
  rw[fu];rfl
 have hv':∃a m c,v'=.slice a m c:=by
  rcases nD.row with⟨_,rfl,_⟩|⟨b,cap,_,_,_,rfl,_⟩<;>exact⟨_,_,_,rfl⟩
 have wo:∀c,nb=some c->c=w.heap.size∨∃j,lG=some j∧G3.ω c=some (.o j [])∧j%4≠2:=by
  intro c hc
  rcases(nD.at_ c hc).1 with h1|h1
  ·exact .inl h1
  ·exact .inr (Kd c h1)
 have agW:∀j,mO=some j->lG≠some j:=by
  intro j hj he
  rcases R4 with⟨_,h1⟩|⟨j',h1,_,h2,_⟩
  ·rw[hj]at h1;cases h1
  ·rw[hj]at h1
   cases h1
   rcases ud with⟨h3,_⟩|⟨j'',h3,h4,_⟩
   ·rw[he]at h3;cases h3
   ·rw[he]at h3
    cases h3
    rw[h4,vh]at h2
    simp at h2
 have Fb:∀r u,(WB++WA).look r=some u->∃j,r=.o j∧u=.un∧M j:=by
  intro r u wv
  rw[mE]at wv
  rcases R4 with⟨rfl,_⟩|⟨j,_,rfl,_,hm⟩
  ·simp only[St.look,Option.none_or]at wv
   rcases ud with⟨_,rfl,_⟩|⟨j',_,rfl,Aa,_⟩
   ·cases wv
   ·rcases j9 wv with⟨e1,e2⟩|hl
    ·exact⟨j',e1,e2,Aa⟩
    ·cases hl
  ·cases hl:St.look [(bN.o j,SV.un)] r with
   |some u'=>
    rw[hl]at wv
    simp only[Option.some_or,bP]at wv
    subst wv
    rcases j9 hl with⟨e1,e2⟩|hl
    ·exact⟨j,e1,e2,hm⟩
    ·cases hl
   |none=>
    rw[hl]at wv
    simp only[Option.none_or]at wv
    rcases ud with⟨_,rfl,_⟩|⟨j',_,rfl,Aa,_⟩
    ·cases wv
    ·rcases j9 wv with⟨e1,e2⟩|hl
     ·exact⟨j',e1,e2,Aa⟩
     ·cases hl
 have Bo:∀j,lG=some j->(WB++WA).look (.o j)≠none:=by
  intro j hj
  rcases ud with⟨h1,_⟩|⟨j',h1,rfl,_⟩
  ·rw[hj]at h1;cases h1
  ·rw[hj]at h1
   cases h1
   rw[mE,vh]
   intro e
   have:=(Option.or_eq_none_iff.1 e).2
   simp at this
 have Ke:∀j,mO=some j->(WB++WA).look (.o j)≠none:=by
  intro j hj
  rcases R4 with⟨_,h1⟩|⟨j',h1,rfl,_⟩
  ·rw[hj]at h1;cases h1
  ·rw[hj]at h1
   cases h1
   rw[mE,vh]
   intro e
   have:=(Option.or_eq_none_iff.1 e).1
   simp at this
 let kk:Wk:={ky with ct:=k5.ct}
 have wk:dL M B d up ρ G a w kk G3:=⟨w3.rel,w3.bw⟩
 refine E' (k:=kk) (nb:=nb) (f:=tc lG mO k5.ct.i xs.length) (Hn:=ss G3 lG mO xs.length v') (nA:=Kc hv') (W1:=WB++WA) (y:=r) (t:=.l (xs++ys)) (v:=v') (w':=w') (dp:=k_)
  h wk hn hM RW (λr u hu=>by obtain⟨j,e1,e2,e3⟩:=Fb r u hu;subst e2;exact⟨j,e1,trivial,e3,λi hi=>by simp[dI]at hi⟩) (λl hl=>?_) (λl l' ⟨b,hb⟩ he=>?_) (Kb jJ) (λc hc=>?_) nD.size (λc hc=>(nD.at_ c hc).2) (λb hb dU=>nD.oth b hb dU) nD.so rfl hr ?_ jc
 ·cases l with
  |f=>rfl
  |x b=>rfl
  |o j p=>
   have:=hl j p rfl
   have h1:lG≠some j:=λe=>Bo j e this
   have h2:mO≠some j:=λe=>Ke j e this
   simp[tc,h1,h2]
 ·rcases agR he with h1|h1
  ·rw[h1];exact .inl (w3.rel.iP b _ hb).1
  ·exact .inr h1
 ·rcases wo c hc with h1|⟨j,h1,h2,h3⟩
  ·exact .inl h1
  ·exact .inr ⟨j,h2,Bo j h1,h3⟩
 ·have oY:qi (G3.i_ nb k5.ct.i (tc lG mO k5.ct.i xs.length) (ss G3 lG mO xs.length v') (Kc hv')) w' k5.ct.i k_ te.sz xs.length ys cv:=
   agQ (w:=w) mF (λj hj=>agW j hj) hwy wo jJ mN nD.size nD.oth
  have hca:qi (G3.i_ nb k5.ct.i (tc lG mO k5.ct.i xs.length) (ss G3 lG mO xs.length v') (Kc hv')) w' k5.ct.i k_ te.sz 0 xs Qk:=by
   rcases jM with rfl|⟨j,rfl,yv⟩
   ·exact⟨λr hr=>(by cases hr),λ_ _ _ h=>(by simp[eg]at h),λ_ _ _ h=>(by simp[eg]at h),λ_ _ _ h=>(by simp[eg]at h),λ_ _ _ h=>(by simp[eg]at h)⟩
   ·have yB:j%4≠2:=by
     rcases ud with⟨h1,_⟩|⟨i',h1,_,_,h2,_⟩
     ·cases h1
     ·cases h1;exact h2
    refine agP (w:=w) yv (Nat.le_refl _) (λc hc=>?_) yB jJ mN nD.size nD.oth
    rcases wo c hc with h1|⟨j',h1,h2,_⟩
    ·exact .inl h1
    ·cases h1;exact .inr h2
  rcases nD.row with⟨rfl,hv0,A',hm0⟩|⟨b,cap,arr,elem,rfl,hv0,R5,xo,hle,Iu,g1,g2⟩
  ·have e1:xs++ys=[]:=by rw[List.eq_nil_of_length_eq_zero A',List.eq_nil_of_length_eq_zero hm0];rfl
   rw[e1]
   exact .nil (by simp[Gh.i_,ss,hv0,kk])
  ·refine hca.join oY (by simp only[Gh.i_,if_true,ss];exact hv0) ⟨hle,λhe=>Iu (by have:=congrArg List.length he;simpa using this)⟩ (by simp[Gh.i_]) R5 xo g1 g2
end
theorem R6{us:List (List T)}{n k:Nat}(h:n+k<=us.length):(o_ us n k).length=us.length:=by
 simp only[o_,List.length_append,List.length_take,List.length_replicate,List.length_drop];omega
theorem R7{us:List (List T)}{n k i:Nat}{r:List T}(h:n+k<=us.length)(hg:(o_ us n k)[i]?=some r)(hr:r≠[]):us[i]?=some r∧(i<n∨n+k<=i):=by
 unfold o_ at hg
 by_cases h1:i<n
 ·rw[List.append_assoc,List.getElem?_append_left (by rw[List.length_take];omega),List.getElem?_take,if_pos h1]at hg
  exact⟨hg,.inl h1⟩
 ·rw[List.append_assoc,List.getElem?_append_right (by rw[List.length_take];omega)]at hg
  have hl:(us.take n).length=n:=by rw[List.length_take];omega
  rw[hl]at hg
  by_cases h2:i<n+k
  ·rw[List.getElem?_append_left (by rw[List.length_replicate];omega),List.getElem?_replicate]at hg
   split at hg
   ·cases hg;exact absurd rfl hr
   ·cases hg
  ·rw[List.getElem?_append_right (by rw[List.length_replicate];omega),List.length_replicate,List.getElem?_drop]at hg
   rw[show n+k+(i-n-k)=i by omega]at hg
   exact⟨hg,.inr (by omega)⟩
theorem R8{us:List (List T)}{n k i:Nat}(h:n+k<=us.length)(hf:rR us n k=true)(hi:i<k):∃r,us[n+i]?=some r∧r≠[]:=by
 have bC:n+i<us.length:=by omega
 refine⟨us[n+i],List.getElem?_eq_getElem bC,λhe=>?_⟩
 have hm:us[n+i]∈(us.drop n).take k:=by
  refine List.mem_of_getElem? (i:=i) ?_
  rw[List.getElem?_take,if_pos hi,List.getElem?_drop]
  exact List.getElem?_eq_getElem bC
 have:=List.all_eq_true.1 hf _ hm
 rw[he]at this
 cases this
theorem agX{m lo y r:T}(h:Prim.ev .ll [m,lo,y]=some r):∃us kk n ys,m=.l us∧lo=.c (.int kk n)∧0<=n∧y=.l ys∧n.toNat+ys.length<=us.length∧rR us n.toNat ys.length=true∧r=.l (o_ us n.toNat ys.length):=by
 cases m with
 |c v=>simp[Prim.ev]at h
 |l us=>
  cases lo with
  |l _=>simp[Prim.ev]at h
  |c v=>
   cases v with
   |int kk n=>
    cases y with
    |c _=>simp[Prim.ev]at h
    |l ys=>
     simp only[Prim.ev]at h
     split at h
     ·split at h
      ·split at h
       ·cases h
        exact⟨us,kk,n,ys,rfl,rfl,by assumption,rfl,by assumption,by assumption,rfl⟩
       ·cases h
      ·cases h
     ·cases h
   |_=>cases y<;>simp[Prim.ev]at h
section
variable {M M':Nat->Prop} {B:ft} {d:Nat} {up:Nat->Nat->Value} {ρ:List T} {G:Gh} {a:Act} {w:World} {S:Nat->aA} {P:Program} {s:St}
theorem Rel.R9(h:Rel M B d up s ρ G a w){G':Gh}{W:St}{N:Nat->Prop}(k:dM (oQ W) N G w G' w)(hN:∀i,N i->¬M i)(hM:∀i,M i->M' i)
  (hW:∀r u,W.look r=some u->∃i,r=.o i∧cS G' w ρ i u∧M' i∧∀j∈dI u,M' j)(iP:∀b l,G'.ω b=some l->M' l.id∧b<w.heap.size):Rel M' B d up (s.fS W) ρ G' a w:=by
 have ha:a.put none undef=a:=rfl
 rw[<-ha]
 refine h.step (v:=undef) k hN hM (λn hn=>by cases hn) ⟨rfl,rfl,rfl⟩ ⟨λe n u _ hl=>?_,λb u hl=>?_,λi u hl=>?_,λr u hl j hj=>?_,λi hi=>?_,iP⟩
 ·obtain⟨i,e1,_⟩:=hW _ _ hl;cases e1
 ·obtain⟨i,e1,_⟩:=hW _ _ hl;cases e1
 ·obtain⟨j,e1,e2,_⟩:=hW _ _ hl;cases e1;exact e2
 ·obtain⟨i,_,_,_,e4⟩:=hW _ _ hl;exact e4 j hj
 ·rcases hi with hi|hi
  ·obtain⟨u,hu⟩:=Option.ne_none_iff_exists'.1 hi
   obtain⟨j,e1,_⟩:=hW _ _ hu;cases e1
  ·obtain⟨u,hu⟩:=Option.ne_none_iff_exists'.1 hi
   obtain⟨j,e1,_,e3,_⟩:=hW _ _ hu;cases e1;exact e3
def Gh.gQ(G:Gh)(tk j n k:Nat):Gh where
 ω:=λb=>match G.ω b with
  |some (.o i ((r,c)::p))=>if i=tk∧n<=r∧r<n+k then some (.o j ((r-n,c)::p))else some (.o i ((r,c)::p))
  |l=>l
 β:=G.β
 H:=λi p=>if i=j then(match p with| []=>G.H j []|(r,c)::p=>G.H tk ((n+r,c)::p))else G.H i p
 hs:=λi p=>by
  by_cases h:i=j
  ·subst h
   cases p with
   |nil=>simp only[if_true];exact G.hs i []
   |cons x p=>obtain⟨r,c⟩:=x;simp only[if_true];exact G.hs tk _
  ·simp only[h,if_false];exact G.hs i p
theorem agY{tk j n k:Nat}(h4:j%4=0){I:Lb->Prop}(hI:∀p,I (.o tk p))(hJ:∀p,I (.o j p)):dM I (λ_=>False) G w (G.gQ tk j n k) w:=by
 refine⟨Nat.le_refl _,λb _ hb=>⟨tT hb (λh0=>by simp[Gh.gQ,h0]) λl hl hq=>?_,rfl⟩,λb _ hb=>by simp[Gh.gQ,hb],λb l hl hn=>⟨?_,rfl⟩,λi _=>⟨rfl,λp hp=>?_⟩⟩
 ·cases l with
  |o i p=>
   cases p with
   |nil=>exact .inr ⟨_,by simp[Gh.gQ,hl],hq⟩
   |cons x p=>
    obtain⟨r,c⟩:=x
    simp only[Gh.gQ,hl]
    split
    ·exact .inr ⟨_,rfl,wb (by omega) (by simp)⟩
    ·exact .inr ⟨_,rfl,hq⟩
  |_=>simp[qt]at hq
 ·cases l with
  |o i p=>
   cases p with
   |nil=>simp[Gh.gQ,hl]
   |cons x p=>
    obtain⟨r,c⟩:=x
    have:i≠tk:=λe=>hn (e▸hI _)
    simp[Gh.gQ,hl,this]
  |_=>simp[Gh.gQ,hl]
 ·by_cases hi:i=j
  ·subst hi
   rcases hp with rfl|hp|hp
   ·simp[Gh.gQ]
   ·exact absurd h4 hp
   ·exact absurd (hJ []) (hp [])
  ·simp[Gh.gQ,hi]
theorem agZ{kA D1 kx:Wk}{G1:Gh}{WA:St}{Y:SV}(hk:dL M B d up ρ G a w kx G1)(ho:lq kA kx WA)(ud:∀r u,WA.look r=some u->u=.un)
  (h:kA.gQ Y=some D1)(hd:D1.bT S ρ):
  kA.bT S ρ∧D1.ct.i=kA.ct.i∧∃D2 G2,dL M B d up ρ G a w D2 G2∧lq D1 D2 WA∧dM (λl=>∃i p,l=.o i p∧WA.look (.o i)=none) (λ_=>False) G1 w G2 w∧∀i,G2.H i []=G1.H i []:=by
 unfold Wk.gQ at h
 split at h
 ·rename_i j
  split at h
  ·rename_i tk x0 lo y hj
   split at h
   ·rename_i y0 m D3
    cases hc:(x0.beq y0&&Nat.beq (j%4) 0)with
    |false=>simp[hc]at h
    |true=>
     simp only[hc,cond_true,bP]at h
     simp only[bL]at hc
     have Kf:=Lf.beq_eq hc.1
     subst Kf
     have hj4:j%4=0:=ew hc.2
     subst h
     have eo:∀{i:Nat} {u:SV},kA.get (.o i)=u->u≠.un->WA.look (.o i)=none:=by
      intro i u hu dU
      cases hl:WA.look (.o i)with
      |none=>rfl
      |some u'=>
       exfalso
       have:=ud _ _ hl
       subst this
       refine dU ?_
       rw[<-hu]
       unfold Wk.get
       rw[ho.2,hl];simp
     have hnj:=eo hj (by simp)
     have pM:=eo D3 (by simp)
     have f_:(kA.em .ll [m,lo,y]).1.bT S ρ:=hd
     obtain⟨Fc,r,hr,mc⟩:=Wk.cf f_
     have obj:=hk.obj j
     have R_:=hk.obj tk
     rw[<-ho.get hnj,hj]at obj
     rw[<-ho.get pM,D3]at R_
     obtain⟨t,ht,eG,h2,F,n,zs,hF,ny,rfl,Bj,tY,_⟩:=obj
     obtain⟨_,F',u,R',hu,hlen,mF⟩:=R_
     rw[hF]at R'
     cases R'
     simp only[List.map_cons,List.map_nil,Lf.cb ht,Lf.cb hu]at hr
     obtain⟨us,kk,n',ys,e1,e2,h0,e3,hle,hfr,rfl⟩:=agX hr
     cases e1
     cases e3
     have iA:n'.toNat=n:=by
      unfold ma at ny
      split at ny
      ·rename_i k2 n2 qe
       have:=Lf.cb qe
       rw[this]at e2
       cases e2
       rw[if_pos h0]at ny
       exact Option.some.inj ny
      ·cases ny
     rw[iA]at hle hfr mc
     have hjt:j≠tk:=by omega
     let D2:Wk:={kx with w:=(kx.w.set (.o tk) (.tk x0 (kA.em .ll [m,lo,y]).2)).set (.o j) (.fr y)}
     let G2:=G1.gQ tk j n zs.length
     have key:∀i p,(i=tk∨i=j)->oQ [(bN.o j,SV.fr y),(bN.o tk,SV.tk x0 (kA.em .ll [m,lo,y]).2)] (.o i p):=by
      intro i p hi
      show St.look _ (bN.o i)≠none
      rcases hi with rfl|rfl
      ·simp only[St.look]
       cases(bN.o j).beq (.o i)<;>simp[(bN.beq_iff (r:=bN.o i)).2 rfl]
      ·simp[St.look,(bN.beq_iff (r:=bN.o i)).2 rfl]
     have K:dM (oQ [(bN.o j,SV.fr y),(bN.o tk,SV.tk x0 (kA.em .ll [m,lo,y]).2)]) (λ_=>False) G1 w G2 w:=
      agY hj4 (λp=>key tk p (.inl rfl)) λp=>key j p (.inr rfl)
     have Mj:M j:=hk.rel.key j (.inr (by rw[<-Wk.bn,<-ho.get hnj,hj];simp))
     have Mt:M tk:=hk.rel.key tk (.inr (by rw[<-Wk.bn,<-ho.get pM,D3];simp))
     have rel:=hk.rel.R9 (M':=M) K (λi hf=>hf.elim) (λi hi=>hi) (λr u' hl=>by
      rcases j9 hl with⟨e1,e2⟩|hl
      ·subst e1 e2
       refine⟨j,rfl,?_,Mj,λi hi=>by simp[dI]at hi⟩
       refine⟨hj4,zs,ht,?_,?_,λi c l' bR=>?_⟩
       ·have:G2.H j []=G1.H j []:=by simp[G2,Gh.gQ]
        rw[this];exact eG.bw K.size K.free
       ·have:G2.H j []=G1.H j []:=by simp[G2,Gh.gQ]
        rw[this]
        intro b off k2 c2 hv
        obtain⟨wd,w1,w2⟩:=tY b off k2 c2 hv
        refine⟨wd,w1,λi c l' bR=>?_⟩
        rw[w2 i c l' bR]
        simp[G2,Gh.gQ]
       ·obtain⟨row,hZ,_,rB,RI,_⟩:=xe bR
        obtain⟨r',oT,qI⟩:=R8 hle hfr RI
        obtain⟨g1,g2⟩:=mF _ _ oT qI
        rw[Bj i row hZ]at g1
        cases g1
        refine(g2 c l' rB).move rfl (λb q hb=>⟨?_,rfl⟩) λq=>?_
        ·simp only[List.cons_append,List.nil_append]at hb⊢
         simp only[G2,Gh.gQ,hb]
         rw[if_pos (by refine⟨?_,?_,?_⟩<;>first|trivial|omega),show n+i-n=i by omega]
        ·simp[G2,Gh.gQ]
      ·rcases j9 hl with⟨e1,e2⟩|hl
       ·subst e1 e2
        refine⟨tk,rfl,⟨h2,F,_,hF,mc,by rw[R6 hle];exact hlen,λi r hg dU=>?_⟩,Mt,λi hi=>by simp[dI]at hi⟩
        obtain⟨g1,g2⟩:=R7 hle hg dU
        obtain⟨g3,g4⟩:=mF i r g1 dU
        refine⟨g3,λc l' rB=>(g4 c l' rB).move rfl (λb q hb=>⟨?_,rfl⟩) λq=>?_⟩
        ·simp only[List.cons_append,List.nil_append]at hb⊢
         simp only[G2,Gh.gQ,hb]
         rw[if_neg (by omega)]
        ·simp[G2,Gh.gQ,Ne.symm hjt]
       ·cases hl) λb l hb=>by
      cases hg:G1.ω b with
      |none=>simp[G2,Gh.gQ,hg]at hb
      |some l0=>
       have ug:=hk.rel.iP b l0 hg
       refine⟨?_,ug.2⟩
       cases l0 with
       |o i p=>
        cases p with
        |nil=>simp[G2,Gh.gQ,hg]at hb;subst hb;exact ug.1
        |cons x p=>
         obtain⟨r,c⟩:=x
         simp only[G2,Gh.gQ,hg]at hb
         split at hb
         ·cases hb;exact Mj
         ·cases hb;exact ug.1
       |_=>simp[G2,Gh.gQ,hg]at hb;subst hb;exact ug.1
     have hgx:∀r,(kx.r.fS D2.w).get r=((kx.r.fS kx.w).fS [(bN.o j,SV.fr y),(bN.o tk,SV.tk x0 (kA.em .ll [m,lo,y]).2)]).get r:=by
      intro r
      show(kx.r.fS ((kx.w.set (.o tk) _).set (.o j) _)).get r=_
      rw[Ir]
      simp only[St.fS]
      by_cases h1:bN.o j=r
      ·subst h1;rw[St.cw,St.cw]
      ·rw[St.eT _ _ h1,St.eT _ _ h1,Ir]
     have look:∀(K0:Wk) (v1 v2:SV) (r:bN),((K0.w.set (.o tk) v1).set (.o j) v2).look r=if bN.o j=r then some v2 else if bN.o tk=r then some v1 else K0.w.look r:=by
      intro K0 v1 v2 r
      by_cases h1:bN.o j=r
      ·subst h1;rw[if_pos rfl,St.bI]
      ·rw[if_neg h1,St.cN _ _ h1]
       by_cases h2:bN.o tk=r
       ·subst h2;rw[if_pos rfl,St.bI]
       ·rw[if_neg h2,St.cN _ _ h2]
     refine⟨Fc,rfl,D2,G2,⟨rel.congr hgx,?_⟩,⟨ho.1,λr=>?_⟩,K.mono ?_ λ_ hf=>hf,λi=>?_⟩
     ·refine(hk.bw.mono (λl hl=>?_) λ_ hf=>hf).trans (K.mono (λl hl=>?_) λ_ hf=>hf)
      ·exact Iq (Iq hl)
      ·cases l with
       |o i p=>
        show((kx.w.set (.o tk) _).set (.o j) _).look (.o i)≠none
        rw[look]
        split
        ·simp
        ·split
         ·simp
         ·rename_i h1 h2
          exfalso
          refine hl ?_
          simp only[St.look]
          have b1:(bN.o j).beq (.o i)=false:=by
           cases hb:(bN.o j).beq (.o i)with
           |false=>rfl
           |true=>exact absurd (bN.beq_iff.1 hb) h1
          have b2:(bN.o tk).beq (.o i)=false:=by
           cases hb:(bN.o tk).beq (.o i)with
           |false=>rfl
           |true=>exact absurd (bN.beq_iff.1 hb) h2
          simp[b1,b2]
       |f=>exact hl.elim
       |x b=>exact absurd rfl (by exact hl)
     ·show(((kA.em .ll [m,lo,y]).1.w.set (.o tk) _).set (.o j) _).look r=(WA.look r).or (((kx.w.set (.o tk) _).set (.o j) _).look r)
      rw[look (kA.em .ll [m,lo,y]).1,look kx]
      by_cases h1:bN.o j=r
      ·subst h1;simp[hnj]
      ·rw[if_neg h1,if_neg h1]
       by_cases h2:bN.o tk=r
       ·subst h2;simp[pM]
       ·rw[if_neg h2,if_neg h2];exact ho.2 r
     ·intro l hl
      cases l with
      |o i p=>
       refine⟨i,p,rfl,?_⟩
       have hh:i=j∨i=tk:=by
        by_cases h1:i=j
        ·exact .inl h1
        ·by_cases h2:i=tk
         ·exact .inr h2
         ·exfalso
          refine hl ?_
          have b1:(bN.o j).beq (.o i)=false:=by
           cases hb:(bN.o j).beq (.o i)with
           |false=>rfl
           |true=>have:=bN.beq_iff.1 hb;cases this;exact absurd rfl h1
          have b2:(bN.o tk).beq (.o i)=false:=by
           cases hb:(bN.o tk).beq (.o i)with
           |false=>rfl
           |true=>have:=bN.beq_iff.1 hb;cases this;exact absurd rfl h2
          simp[St.look,b1,b2]
       rcases hh with rfl|rfl
       ·exact hnj
       ·exact pM
      |f=>exact hl.elim
      |x b=>exact absurd rfl hl
     ·by_cases hi:i=j
      ·subst hi;simp[G2,Gh.gQ]
      ·simp[G2,Gh.gQ,hi]
   ·cases h
  ·cases h
 ·cases h
end
section
variable {M:Nat->Prop} {B:ft} {d:Nat} {up:Nat->Nat->Value} {ρ:List T} {G:Gh} {a:Act} {w:World} {S:Nat->aA} {P:Program}
variable {cx:Cx} {df fP oi:Nat} {s:St} {R:List bN} {ct:Ct} {k':Wk} {o:Oper} {Q:Exit->Act->World->Prop}
theorem ag1(ez:eZ P cx)(h:Rel M B d up s ρ G a w)(hn:∀n,o.dst=some n->n<a.tmps.size){c:Call}{x y:Operand}(ho:o.op=.call c)(hc:c.callee=.builtin .append)(fI:c.args.toList=[x,y])
  (hk:jm cx df fP d o oi ⟨s.only R,[],ct,[]⟩=some k')(hd:k'.bT S ρ)(hM:∀i,ct.i<=i->i<k'.ct.i->¬M i):b_ P (Mn M ct.i k'.ct.i) B d up ρ a w s o k'.w Q:=by
 have hw:=dL.start h R ct
 simp only[jm,ho,hc,fI]at hk
 split at hk
 ·rename_i t tx bR
  simp only[cU]at hk
  obtain⟨ti,gn,tj,htj,te,r_,hk⟩:=hk
  cases Fe:(Nat.beq ti.kd 3&&Nat.beq tj.kd 3&&Nat.ble te.bytes 32768&&Nat.blt 0 te.sz)with
  |false=>simp[Fe]at hk
  |true=>
   simp only[Fe,cond_true,cU,bP]at hk
   simp only[bL]at Fe
   obtain⟨⟨⟨c1,c2⟩,c3⟩,c4⟩:=Fe
   obtain⟨⟨kA,la,IC⟩,hA,⟨kB,lb,DZ⟩,hB,hk⟩:=hk
   simp only at hB hk
   have iH:0<te.sz:=Nat.lt_of_succ_le (by simpa[Nat.blt]using c4)
   have dh:cm d o {(kB.em (.app (!te.zero.any gd) te.sz) [la,lb]).1.set (.o (fE kB.ct.i)) (.ob (IC&&DZ) (kB.em (.app (!te.zero.any gd) te.sz) [la,lb]).2)with
     ct:=⟨(kB.em (.app (!te.zero.any gd) te.sz) [la,lb]).1.ct.a,fE kB.ct.i+1⟩} (.v false [.o (fE kB.ct.i) []])=k':=hk
   have f_:(kB.em (.app (!te.zero.any gd) te.sz) [la,lb]).1.bT S ρ:=by
    rw[<-dh]at hd
    have h2:=dq.1 hd
    exact h2
   obtain⟨hdB,r,hr,mc⟩:=Wk.cf f_
   obtain⟨q1,q2,kx,G2,WA,xs,wA,awJ,Kg,hla,ud⟩:=agI (k_:=IC&&DZ) hw (hw.ji x).1 (hw.ji x).2 hA (λhe=>by simp at he;exact he.1)
   have Sa:∀r u,WA.look r=some u->u=.un:=by
    intro r u hu
    rcases ud with⟨_,_,rfl⟩|⟨j,rfl,_⟩
    ·cases hu
    ·rcases j9 hu with⟨_,e2⟩|hl
     ·exact e2
     ·cases hl
   have hB0:∃D1,kA.vM (te.zero.any gd&& !cx.fz df fP oi) (cB d (Wk.get ⟨s.only R,[],ct,[]⟩) y)=D1:=⟨_,rfl⟩
   obtain⟨D1,Bp⟩:=hB0
   rw[Bp]at hB
   have ag2:D1.bT S ρ:=agJ hB hdB
   obtain⟨q1',kx,G2,wA,Kg,ud⟩:D1.ct.i=kA.ct.i∧∃D2 Qi,dL M B d up ρ G a w D2 Qi∧lq D1 D2 WA∧
     ((a.eval x=.slice none 0 0∧xs=[]∧WA=[])∨∃lG,WA=[(.o lG,.un)]∧M lG∧lG%4≠2∧a.eval x=Qi.H lG []∧fG Qi w lG (IC&&DZ) [] (.l xs)):=by
    unfold Wk.vM at Bp
    split at Bp
    ·rename_i kz hz
     subst Bp
     have Ql:kA.gQ (cB d (Wk.get ⟨s.only R,[],ct,[]⟩) y)=some kz:=by
      cases hb:(te.zero.any gd&& !cx.fz df fP oi)with
      |true=>rw[hb]at hz;exact hz
      |false=>rw[hb]at hz;cases hz
     obtain⟨_,g2,D2,Qi,g3,g4,g5,g6⟩:=agZ wA Kg Sa Ql ag2
     refine⟨g2,D2,Qi,g3,g4,ud.imp_right ?_⟩
     rintro⟨j,e1,e2,e3,e4,e5⟩
     subst e1
     refine⟨j,rfl,e2,e3,by rw[g6];exact e4,e5.bw g5 (λp hp=>?_) λhf=>hf⟩
     obtain⟨i',p',f1,f2⟩:=hp
     cases f1
     rw[vh]at f2
     simp at f2
    ·subst Bp
     exact⟨rfl,kx,G2,wA,Kg,ud⟩
   have hy:cR G2 w ρ (cB d (Wk.get ⟨s.only R,[],ct,[]⟩) y) (a.eval y):=(hw.ji y).1.bw wA.bw λ_ _ hf=>hf
   obtain⟨_,p2,ky,G3,WB,t2,mO,wB,Kh,R4,hlb,RN,kp,_,od⟩:=agK (k_:=IC&&DZ) (P:=P) wA Kg Sa hy (hw.ji y).2 hB hdB (λhe=>by simp at he;exact he.2)
   simp only[List.map_cons,List.map_nil,Lf.cb hla,Lf.cb hlb]at hr
   obtain⟨ys,rfl,bC,np,Ki,yH,rfl⟩:=agN hr
   have sr:=(ez.ty _ _ htj).sl (ew c2)
   obtain⟨cv,s1,s2,s3⟩:=od ys te.sz tx tj.el rfl iH yH (λhf=>np (by rw[hf];rfl)) sr
   have kY:kB.ct.i=ct.i:=by rw[p2,q1',q1]
   have ph:k'.ct.i=fE ct.i+1:=by rw[<-dh,nk,<-kY]
   have jJ:=AL ct.i
   rw[ph,<-dh,<-kY]
   refine b_.mono (M:=Mn M (fE kB.ct.i) (fE kB.ct.i+1)) ?_ (λi hi=>hi.imp_right λhi=>by rw[kY]at hi⊢;exact⟨by omega,hi.2⟩)
   refine agS (k5:={(kB.em (.app (!te.zero.any gd) te.sz) [la,lb]).1 with ct:=⟨(kB.em (.app (!te.zero.any gd) te.sz) [la,lb]).1.ct.a,fE kB.ct.i⟩}) (lG:=WA.head?.bind λz=>match z.1 with| .o j=>some j|_=>none) (WA:=WA) (WB:=WB) (G3:=G3) ez gn htj r_ (ew c1) (ew c2) (Nat.le_of_ble_eq_true c3) iH
    h hn ho hc fI bR wB ⟨(Kh.same (Wk.bX kB (.app (!te.zero.any gd) te.sz) [la,lb])).1,(Kh.same (Wk.bX kB (.app (!te.zero.any gd) te.sz) [la,lb])).2⟩ (R3 _) (hM _ (by show ct.i<=fE kB.ct.i;rw[kY];exact jJ) (by rw[ph];show fE kB.ct.i<_;rw[kY];omega)) ?_ R4 Ki bC (e':=tj.el) s1 s2 s3 mc (λr'=>?_)
   ·rcases ud with⟨e1,e2,e3⟩|⟨j,e1,e2,e22,e3,e4⟩
    ·left
     subst e3
     exact⟨rfl,rfl,e1,e2⟩
    ·right
     subst e1
     refine⟨j,rfl,rfl,e2,e22,by rw[RN];exact e3,e4.bw kp (λp hp=>?_) λhf=>hf⟩
     obtain⟨i',p',e5,e6⟩:=hp
     cases e5
     rw[vh]at e6
     simp at e6
   ·show((kB.em (.app (!te.zero.any gd) te.sz) [la,lb]).1.w.set (.o (fE kB.ct.i)) _).look r'=_
    rw[show((kB.em (.app (!te.zero.any gd) te.sz) [la,lb]).1.w.set (.o (fE kB.ct.i)) (.ob (IC&&DZ) (kB.em (.app (!te.zero.any gd) te.sz) [la,lb]).2)).look r'=_ from vi (k:=(kB.em (.app (!te.zero.any gd) te.sz) [la,lb]).1) r']
    rw[show(Wk.w (kB.em (.app (!te.zero.any gd) te.sz) [la,lb]).1).look r'=kB.w.look r' from rfl,Kh.2 r',<-Option.or_assoc]
    congr 1
    show _=St.look ((bN.o (fE kB.ct.i),_)::(WB++WA)) r'
    simp only[St.look]
    cases(bN.o (fE kB.ct.i)).beq r'<;>simp
 ·cases hk
def su(ω:Nat->Option Lb)(w:World)(ρ:List T)(dp:Bool):List Ce->List Lf->List Value->Prop
 | [],[],[]=>True
 |z::zs,x::xs,v::vs=>(∃t,x.gh ρ=some t∧fq ω w t v∧(dp=true->gd z=true->t=.l []∧v=.slice none 0 0))∧su ω w ρ dp zs xs vs
 |_,_,_=>False
theorem su.bw{ω v8:Nat->Option Lb}{w':World}(hs:w.heap.size<=w'.heap.size)(hf:∀b,b<w.heap.size->ω b=none->v8 b=none∧w'.heap[b]?=w.heap[b]?){dp uZ:Bool}(hd:uZ=true->dp=true):
  ∀{zs:List Ce} {xs:List Lf} {vs:List Value},su ω w ρ dp zs xs vs->su v8 w' ρ uZ zs xs vs
 | [],[],[],_=>trivial
 |_::_,_::_,_::_,h=>by
  obtain⟨⟨t,h1,h2,h3⟩,h4⟩:=h
  exact⟨⟨t,h1,h2.bw hs hf,λe=>h3 (hd e)⟩,su.bw hs hf hd h4⟩
 | [],[],_::_,h=>h.elim
 | [],_::_,_,h=>h.elim
 |_::_,[],_,h=>h.elim
 |_::_,_::_,[],h=>h.elim
theorem Bq:∀{zs cs:List Ce} {vs:List Value} {k k1:Wk} {xs:List Lf} {dp:Bool} {G1:Gh},dL M B d up ρ G a w k G1->bu G1 w ρ cs vs->k.gf true zs cs=some (k1,xs,dp)->
  k1.ct=k.ct∧k1.is=k.is∧xs.length=zs.length∧∃G2,dL M B d up ρ G a w k1 G2∧G2.H=G1.H∧(∀b,G1.q b=none->G2.q b=none)∧su G2.q w ρ dp zs xs vs
 | [],[],vs,k,k1,xs,dp,G1,hk,hr,h=>by
  simp only[Wk.gf,bP,Prod.mk.injEq]at h
  obtain⟨rfl,rfl,rfl⟩:=h
  cases vs with
  |nil=>exact⟨rfl,rfl,rfl,G1,hk,rfl,λ_ h=>h,trivial⟩
  |cons _ _=>exact hr.elim
 |z::zs,.p x::cs,vs,k,k1,xs,dp,G1,hk,hr,h=>by
  cases vs with
  |nil=>exact hr.elim
  |cons v vs=>
   simp only[Wk.gf,cU,bP,Prod.mk.injEq]at h
   obtain⟨⟨k2,ys,dp2⟩,h2,rfl,rfl,rfl⟩:=h
   obtain⟨e1,e2,e3,G2,w2,e4,e5,e6⟩:=Bq hk hr.2 h2
   obtain⟨t,ht,hd⟩:=hr.1
   refine⟨e1,e2,by simp[e3],G2,w2,e4,e5,⟨t,ht,hd.bw (Nat.le_refl _) λb _ hb=>⟨e5 b hb,rfl⟩,λg_ hz=>by simp[hz]at g_⟩,e6.bw (Nat.le_refl _) (λb _ hb=>⟨hb,rfl⟩) λg_=>by simp at g_;exact g_.1⟩
 |z::zs,.n::cs,vs,k,k1,xs,dp,G1,hk,hr,h=>by
  cases vs with
  |nil=>exact hr.elim
  |cons v vs=>
   simp only[Wk.gf,cU,bP,Prod.mk.injEq]at h
   obtain⟨⟨k2,ys,dp2⟩,h2,rfl,rfl,rfl⟩:=h
   obtain⟨e1,e2,e3,G2,w2,e4,e5,e6⟩:=Bq hk hr.2 h2
   have hv:v=.slice none 0 0:=hr.1
   subst hv
   exact⟨e1,e2,by simp[e3],G2,w2,e4,e5,⟨.l [],rfl,.nil,λ_ _=>⟨rfl,rfl⟩⟩,e6⟩
 |z::zs,.o id []::cs,vs,k,k1,xs,dp,G1,hk,hr,h=>by
  cases vs with
  |nil=>exact hr.elim
  |cons v vs=>
   obtain⟨⟨p,hp,hv⟩,qI⟩:=hr
   simp only[mB,bP]at hp
   subst hp
   have eU:=hk.obj id
   simp only[Wk.gf]at h
   split at h
   ·rename_i pv x hx
    simp only[cU,bP,Prod.mk.injEq]at h
    obtain⟨⟨k2,ys,dp2⟩,h2,rfl,rfl,rfl⟩:=h
    obtain⟨e1,e2,e3,G2,w2,e4,e5,e6⟩:=Bq hk qI h2
    rw[hx]at eU
    obtain⟨t,ht,hd,_⟩:=eU
    rw[<-hv]at hd
    exact⟨e1,e2,by simp[e3],G2,w2,e4,e5,⟨t,ht,hd.bw (Nat.le_refl _) λb _ hb=>⟨e5 b hb,rfl⟩,λg_=>by cases g_⟩,e6.bw (Nat.le_refl _) (λb _ hb=>⟨hb,rfl⟩) λg_=>by cases g_⟩
   ·rename_i dd x hx
    simp only[cond_true,cU,bP,Prod.mk.injEq]at h
    obtain⟨⟨k2,ys,dp2⟩,h2,rfl,rfl,rfl⟩:=h
    have D0:=hx
    rw[Wk.bn]at D0
    have wt:dL M B d up ρ G a w (k.set (.o id) (.fz .z x)) (G1.free id true):=by
     refine⟨(hk.rel.mj D0).congr (Ir _ _ _ _),(hk.bw.mono (λl hl=>Iq hl) λ_ hn=>hn).trans ((G1.fU id true w).mono ?_ λ_ hn=>hn)⟩
     rintro l ⟨p,rfl⟩
     show(k.w.set _ _).look (.o id)≠none
     rw[St.bI];simp
    rw[hx]at eU
    obtain⟨t,ht,b8⟩:=eU
    have hd:fq (G1.free id true).q w t v:=by rw[hv];exact b8.xg
    have DW:bu (G1.free id true) w ρ cs vs:=qI.bw (G1.fU id true w) λ_ _ hf=>hf
    obtain⟨e1,e2,e3,G2,w2,e4,e5,e6⟩:=Bq wt DW h2
    exact⟨e1,e2,by simp[e3],G2,w2,e4,λb hb=>e5 b (Gh.r7 hb),⟨t,ht,hd.bw (Nat.le_refl _) λb _ hb=>⟨e5 b hb,rfl⟩,λg_=>by cases g_⟩,e6.bw (Nat.le_refl _) (λb _ hb=>⟨hb,rfl⟩) λg_=>by cases g_⟩
   ·cases h
 | [],_::_,vs,k,k1,xs,dp,G1,hk,hr,h=>by simp[Wk.gf]at h
 |_::_,[],vs,k,k1,xs,dp,G1,hk,hr,h=>by simp[Wk.gf]at h
 |z::zs,.o id (_::_)::cs,vs,k,k1,xs,dp,G1,hk,hr,h=>by simp[Wk.gf]at h
 |z::zs,.d::cs,vs,k,k1,xs,dp,G1,hk,hr,h=>by simp[Wk.gf]at h
theorem su.at:∀{ω:Nat->Option Lb} {dp:Bool} {zs:List Ce} {xs:List Lf} {vs:List Value},su ω w ρ dp zs xs vs->xs.length=vs.length∧zs.length=vs.length∧
  ∀(j:Nat) (t:T),(xs.map (Lf.ev ρ))[j]?=some t->∃z v,zs[j]?=some z∧vs[j]?=some v∧fq ω w t v∧(dp=true->gd z=true->t=.l []∧v=.slice none 0 0)
 |_,_,[],[],[],_=>⟨rfl,rfl,λj t h=>by simp at h⟩
 |ω,dp,z::zs,x::xs,v::vs,h=>by
  obtain⟨⟨t,h1,h2,h3⟩,h4⟩:=h
  obtain⟨e1,e2,e3⟩:=su.at h4
  refine⟨by simp[e1],by simp[e2],λj t' hj=>?_⟩
  cases j with
  |zero=>
   simp only[List.map_cons,List.getElem?_cons_zero,bP]at hj
   rw[Lf.cb h1]at hj
   subst hj
   exact⟨z,v,rfl,rfl,h2,h3⟩
  |succ j=>simpa using e3 j t' (by simpa using hj)
 |_,_,[],[],_::_,h=>h.elim
 |_,_,[],_::_,_,h=>h.elim
 |_,_,_::_,[],_,h=>h.elim
 |_,_,_::_,_::_,[],h=>h.elim
theorem bu.Br{G1:Gh}:∀{cs:List Ce} {vs:List Value},cs.length=vs.length->(∀(j:Nat) (c:Ce) (v:Value),cs[j]?=some c->vs[j]?=some v->gD G1 w ρ c v)->bu G1 w ρ cs vs
 | [],[],_,_=>trivial
 | [],_::_,h,_=>by simp at h
 |_::_,[],h,_=>by simp at h
 |c::cs,v::vs,h,hf=>⟨hf 0 c v rfl rfl,bu.Br (by simpa using h) λj c v h1 h2=>hf (j+1) c v (by simpa using h1) (by simpa using h2)⟩
theorem bu.get{G1:Gh}:∀{cs:List Ce} {vs:List Value},bu G1 w ρ cs vs->∀(j:Nat) (c:Ce) (v:Value),cs[j]?=some c->vs[j]?=some v->gD G1 w ρ c v
 | [],[],_,j,c,v,h,_=>by simp at h
 | [],_::_,h,_,_,_,_,_=>h.elim
 |_::_,[],h,_,_,_,_,_=>h.elim
 |c::cs,v::vs,h,j,_,_,h1,h2=>by
  cases j with
  |zero=>simp at h1 h2;subst h1 h2;exact h.1
  |succ j=>exact bu.get h.2 j _ _ (by simpa using h1) (by simpa using h2)
theorem Ff(zs:List Ce):∀n,(nv zs n).length=n*zs.length
 |0=>by simp[nv]
 |n+1=>by simp[nv,Ff zs n,Nat.add_mul];omega
theorem Sb(zs:List Ce):∀(n i j:Nat),i<n->j<zs.length->(nv zs n)[i*zs.length+j]?=zs[j]?
 |0,i,j,h,_=>by omega
 |n+1,0,j,_,hj=>by simp only[nv,Nat.zero_mul,Nat.zero_add];rw[List.getElem?_append_left hj]
 |n+1,i+1,j,h,hj=>by
  simp only[nv]
  rw[List.getElem?_append_right (by rw[Nat.add_mul];omega),show(i+1)*zs.length+j-zs.length=i*zs.length+j by rw[Nat.add_mul];omega]
  exact Sb zs n i j (by omega) hj
theorem Sc{zs:List Ce}(h:dZ zs=[]):∀n,dZ (nv zs n)=[]
 |0=>rfl
 |n+1=>by rw[nv,JV,h,Sc h n];rfl
theorem ag4{k n sz:Nat}(h:k<n*sz):k/sz<n∧k%sz<sz∧(k/sz)*sz+k%sz=k:=by
 have iH:0<sz:=by
  rcases Nat.eq_zero_or_pos sz with h0|h0
  ·rw[h0]at h;omega
  ·exact h0
 exact⟨Nat.div_lt_of_lt_mul (by rw[Nat.mul_comm];exact h),Nat.mod_lt _ iH,by rw[Nat.mul_comm];exact Nat.div_add_mod k sz⟩
theorem ag5{zs:List Ce}{z:Array Value}{G1:Gh}(h:bu G1 w ρ zs z.toList)(n:Nat):bu G1 w ρ (nv zs n) (madeCells z (n*z.size)).toList:=by
 have hl:=h.length
 simp only[Array.length_toList]at hl
 refine bu.Br (by rw[Ff,hl,Array.length_toList,size_madeCells]) λk c v hc hv=>?_
 have hk:k<n*z.size:=by have:=(List.getElem?_eq_some_iff.1 hc).1;rw[Ff,hl]at this;exact this
 obtain⟨q1,q2,q3⟩:=ag4 hk
 have h1:=Sb zs n _ _ q1 (by rw[hl];exact q2)
 rw[hl,q3,hc]at h1
 have h2:=RX q2 q1
 rw[q3,<-Array.getElem?_toList,hv]at h2
 have hc:=h1.symm
 have hv:=h2.symm
 exact h.get _ c v hc (by simpa using hv)
theorem Kj(w:Nat):∀(n:Nat) (ts:List T) (i j:Nat),ts.length=n*w->i<n->j<w->eg (nT w n ts) i j=ts[i*w+j]?
 |0,_,_,_,_,h,_=>by omega
 |n+1,ts,0,j,hl,_,hj=>by
  simp only[nT,eg,List.getElem?_cons_zero,Option.bind_some,Nat.zero_mul,Nat.zero_add,List.getElem?_take,hj,if_true]
 |n+1,ts,i+1,j,hl,h,hj=>by
  have:=Kj w n (ts.drop w) i j (by simp[hl,Nat.add_mul]) (by omega) hj
  simp only[eg,nT,List.getElem?_cons_succ]at this⊢
  rw[this,List.getElem?_drop]
  congr 1
  rw[Nat.add_mul];omega
theorem Kk(w:Nat):∀(n:Nat) (ts:List T),(nT w n ts).length=n
 |0,_=>rfl
 |n+1,ts=>by simp[nT,Kk w n]
theorem Bs(w:Nat):∀(n:Nat) (ts:List T),ts.length=n*w->∀r∈nT w n ts,r.length=w
 |0,_,_,r,h=>by cases h
 |n+1,ts,hl,r,h=>by
  simp only[nT,List.mem_cons]at h
  rcases h with rfl|h
  ·rw[List.length_take,hl,Nat.add_mul];omega
  ·exact Bs w n (ts.drop w) (by simp[hl,Nat.add_mul]) r h
theorem Bt:∀(ms:List Bool) (ts:List T),qE ms ts=true->∀(j:Nat) (t:T),ms[j]?=some true->ts[j]?=some t->eA t=true
 | [],_,_,j,t,h,_=>by simp at h
 |true::ms,[],h,_,_,_,h2=>by simp at h2
 |false::ms,[],h,_,_,_,h2=>by simp at h2
 |true::ms,t::ts,h,j,u,h1,h2=>by
  simp only[qE,bL]at h
  cases j with
  |zero=>simp at h2;subst h2;exact h.1
  |succ j=>exact Bt ms ts h.2 j u (by simpa using h1) (by simpa using h2)
 |false::ms,t::ts,h,j,u,h1,h2=>by
  simp only[qE]at h
  cases j with
  |zero=>simp at h1
  |succ j=>exact Bt ms ts h j u (by simpa using h1) (by simpa using h2)
theorem Sd{t e n:Nat}{i:TypeInfo}{z:Value}(hu:P.underlying t=some (.slice e))(hi:P.info? e=some i)(hz:i.zero=some z)(hs:z.cells.size=i.size)(hb:n*i.size<=65536)
  {parts:Array (Nat×Value)}{arr:Array Value}(g:Instr.fill (λf=>some (f*i.size,i.size)) (madeCells z.cells (n*i.size)) parts.toList=some arr):
  (Instr.buildSlice t n parts).run P w=.ok (.slice (some ⟨w.heap.size,0,none⟩) n n) (w.alloc (.cells arr e)):=by
 have ag6:¬(n*i.size>2^24):=by omega
 unfold madeCells at g
 by_cases h0:n*i.size=0
 ·simp only[h0,Array.range_zero',List.map_toArray,List.map_nil]at g
  simp[Instr.buildSlice,run_underlying hu,sizeOf,typeInfo,hi,h0,g,newRow,Array.range_zero']
 ·simp[Instr.buildSlice,run_underlying hu,sizeOf,typeInfo,hi,h0,ag6,zeroValue,hz,g,newRow]
abbrev Mv:=List (Nat×Nat)
def iq:Mv->Nat->Option Nat
 | [],_=>none
 |(p,i)::mv,q=>bif Nat.beq p q then some i else iq mv q
def lr:Mv->Nat->Option Nat
 | [],_=>none
 |(p,i)::mv,j=>bif Nat.beq i j then some p else lr mv j
theorem Bu:∀{mv:Mv} {q i:Nat},iq mv q=some i->(q,i)∈mv
 | [],q,i,h=>by simp[iq]at h
 |(p,j)::mv,q,i,h=>by
  simp only[iq]at h
  cases hb:Nat.beq p q with
  |true=>simp[hb]at h;subst h;rw[ew hb];exact List.mem_cons_self
  |false=>simp[hb]at h;exact List.mem_cons_of_mem _ (Bu h)
theorem Fg:∀{mv:Mv} {q i:Nat},lr mv i=some q->(q,i)∈mv
 | [],q,i,h=>by simp[lr]at h
 |(p,j)::mv,q,i,h=>by
  simp only[lr]at h
  cases hb:Nat.beq j i with
  |true=>simp[hb]at h;subst h;rw[ew hb];exact List.mem_cons_self
  |false=>simp[hb]at h;exact List.mem_cons_of_mem _ (Fg h)
def Se(G:Gh)(w:World)(ρ:List T)(mv:Mv):Nat->List Lf->List Value->Prop
 |_,[],[]=>True
 |q,x::xs,v::vs=>(∃t,x.gh ρ=some t∧((∃u,t=.c u∧v=u∧kV u=true)∨(t=.l []∧v=.slice none 0 0∧iq mv q=none)∨∃i,iq mv q=some i∧v=G.H i []∧fG G w i true [] t))∧Se G w ρ mv (q+1) xs vs
 |_,_,_=>False
theorem Qm{G1:Gh}:∀{zs cs:List Ce} {vs:List Value} {k k1:Wk} {xs:List Lf} {k0:Wk} {W0:St},dL M B d up ρ G a w k0 G1->lq k k0 W0->(∀r u,W0.look r=some u->∃j,r=.o j∧u=.un)->bu G1 w ρ cs vs->(∀i∈dZ cs,M i)->
  k.eF zs cs=some (k1,xs)->∀q,k1.ct=k.ct∧k1.is=k.is∧xs.length=zs.length∧zs.length=cs.length∧∃mv W1,lq k1 k0 (W1++W0)∧(∀p i,(p,i)∈mv->q<=p∧M i∧W1.look (.o i)=some .un∧W0.look (.o i)=none)∧(∀r u,W1.look r=some u->∃p j,r=.o j∧u=.un∧M j∧(p,j)∈mv)∧
   (∀p i,(p,i)∈mv->iq mv p=some i∧lr mv i=some p)∧
   (∀(D4:Mv),(∀p,q<=p->iq D4 p=iq mv p)->(∀(j:Nat) (t:T),(∃x,xs[j]?=some x∧x.gh ρ=some t)->zs[j]?.map gd=some false->eA t=true)->Se G1 w ρ D4 q xs vs)
 | [],[],vs,k,k1,xs,k0,W0,hk,ho,hW,hr,hm,h,q=>by
  simp only[Wk.eF,bP,Prod.mk.injEq]at h
  obtain⟨rfl,rfl⟩:=h
  cases vs with
  |nil=>exact⟨rfl,rfl,rfl,rfl,[],[],ho,(λp i h=>by cases h),(λr u h=>by cases h),(λp i h=>by cases h),λ_ _ _=>trivial⟩
  |cons _ _=>exact hr.elim
 |z::zs,.p x::cs,vs,k,k1,xs,k0,W0,hk,ho,hW,hr,hm,h,q=>by
  cases vs with
  |nil=>exact hr.elim
  |cons v vs=>
   simp only[Wk.eF]at h
   cases hz:gd z with
   |true=>simp[hz]at h
   |false=>
    simp only[hz,cond_false,cU,bP,Prod.mk.injEq]at h
    obtain⟨⟨k2,ys⟩,h2,rfl,rfl⟩:=h
    obtain⟨e1,e2,e3,e4,mv,W1,e5,e6,e7,e8,e9⟩:=Qm hk ho hW hr.2 (λi hi=>hm i (by simpa[dZ]using hi)) h2 (q+1)
    refine⟨e1,e2,by simp[e3],by simp[e4],mv,W1,e5,λp i hp=>by have:=e6 p i hp;exact⟨by omega,this.2⟩,e7,e8,λD4 xq np=>?_⟩
    obtain⟨t,ht,hd⟩:=hr.1
    have cn:=np 0 t ⟨x,rfl,ht⟩ (by simp[hz])
    obtain⟨u,rfl⟩:=yA cn
    obtain⟨rfl,hu⟩:=hd.scalar
    exact⟨⟨.c v,ht,.inl ⟨v,rfl,rfl,hu⟩⟩,e9 D4 (λp hp=>xq p (by omega)) λj t hj sw=>np (j+1) t (by simpa using hj) (by simpa using sw)⟩
 |z::zs,.n::cs,vs,k,k1,xs,k0,W0,hk,ho,hW,hr,hm,h,q=>by
  cases vs with
  |nil=>exact hr.elim
  |cons v vs=>
   simp only[Wk.eF,cU,bP,Prod.mk.injEq]at h
   obtain⟨⟨k2,ys⟩,h2,rfl,rfl⟩:=h
   obtain⟨e1,e2,e3,e4,mv,W1,e5,e6,e7,e8,e9⟩:=Qm hk ho hW hr.2 (λi hi=>hm i (by simpa[dZ]using hi)) h2 (q+1)
   refine⟨e1,e2,by simp[e3],by simp[e4],mv,W1,e5,λp i hp=>by have:=e6 p i hp;exact⟨by omega,this.2⟩,e7,e8,λD4 xq np=>?_⟩
   have hv:v=.slice none 0 0:=hr.1
   have eo:iq mv q=none:=by
    cases hm:iq mv q with
    |none=>rfl
    |some i=>
     have:=Bu hm
     have:=(e6 q i this).1
     omega
   exact⟨⟨.l [],rfl,.inr (.inl ⟨rfl,hv,by rw[xq q (Nat.le_refl _)];exact eo⟩)⟩,e9 D4 (λp hp=>xq p (by omega)) λj t hj sw=>np (j+1) t (by simpa using hj) (by simpa using sw)⟩
 |z::zs,.o id []::cs,vs,k,k1,xs,k0,W0,hk,ho,hW,hr,hm,h,q=>by
  cases vs with
  |nil=>exact hr.elim
  |cons v vs=>
   simp only[Wk.eF]at h
   split at h
   ·rename_i x hx
    simp only[cU,bP,Prod.mk.injEq]at h
    obtain⟨⟨k2,ys⟩,h2,rfl,rfl⟩:=h
    have eo:W0.look (.o id)=none:=by
     cases hl:W0.look (.o id)with
     |none=>rfl
     |some u=>
      exfalso
      obtain⟨j,_,rfl⟩:=hW _ _ hl
      have:k.get (.o id)=.un:=by unfold Wk.get;rw[ho.2,hl];simp
      rw[this]at hx;cases hx
    have ID:lq (k.set (.o id) .un) k0 ([(.o id,.un)]++W0):=⟨ho.1,λr=>by rw[show(k.set (.o id) .un).w.look r=_ from vi r,mE,ho.2,Option.or_assoc]⟩
    obtain⟨e1,e2,e3,e4,mv,W1,e5,e6,e7,e8,e9⟩:=Qm hk ID (λr u hl=>by
     rw[mE]at hl
     cases h1:St.look [(bN.o id,SV.un)] r with
     |some u'=>rw[h1]at hl;simp at hl;subst hl;rcases j9 h1 with⟨q1,q2⟩|q1;exact⟨id,q1,q2⟩;cases q1
     |none=>rw[h1]at hl;exact hW r u (by simpa using hl)) hr.2 (λi hi=>hm i (by simp[dZ,hi])) h2 (q+1)
    have hid:∀p i,(p,i)∈mv->i≠id:=by
     intro p i hp he
     subst he
     have:=(e6 p i hp).2.2.2
     rw[mE,vh]at this
     simp at this
    refine⟨e1,e2,by simp[e3],by simp[e4],(q,id)::mv,W1++[(.o id,.un)],by rw[List.append_assoc];exact e5,λp i hp=>?_,λr u hl=>?_,λp i hp=>?_,λD4 xq np=>?_⟩
    ·rcases List.mem_cons.1 hp with hp|hp
     ·cases hp
      have:W1.look (.o id)=none:=by
       cases hl:W1.look (.o id)with
       |none=>rfl
       |some u=>obtain⟨p,j,q1,_,_,q2⟩:=e7 _ _ hl;cases q1;exact absurd rfl (hid p _ q2)
      exact⟨Nat.le_refl _,hm id (by simp[dZ]),by rw[mE,this,vh];simp,eo⟩
     ·obtain⟨q1,q2,q3,q4⟩:=e6 p i hp
      refine⟨by omega,q2,by rw[mE,q3];rfl,?_⟩
      rw[mE]at q4
      exact(Option.or_eq_none_iff.1 q4).2
    ·rw[mE]at hl
     cases h1:W1.look r with
     |some u'=>
      rw[h1]at hl
      simp at hl
      subst hl
      obtain⟨p,j,q1,q2,q3,q4⟩:=e7 r u' h1
      exact⟨p,j,q1,q2,q3,by simp[q4]⟩
     |none=>
      rw[h1]at hl
      simp only[Option.none_or]at hl
      rcases j9 hl with⟨q1,q2⟩|q1
      ·exact⟨q,id,q1,q2,hm id (by simp[dZ]),by simp⟩
      ·cases q1
    ·rcases List.mem_cons.1 hp with hp|hp
     ·cases hp;simp[iq,lr]
     ·have h1:=(e6 p i hp).1
      have h2:=hid p i hp
      have b1:Nat.beq q p=false:=by
       cases hb:Nat.beq q p with
       |false=>rfl
       |true=>have:=ew hb;omega
      have b2:Nat.beq id i=false:=by
       cases hb:Nat.beq id i with
       |false=>rfl
       |true=>exact absurd (ew hb).symm h2
      simp only[iq,lr,b1,b2,cond_false]
      exact e8 p i hp
    ·have eU:=hk.obj id
     have DY:k0.get (.o id)=.ob true x:=by rw[<-ho.get eo];exact hx
     rw[DY]at eU
     obtain⟨t,ht,b8⟩:=eU
     obtain⟨p,hp,hv⟩:=hr.1
     simp only[mB,bP]at hp
     subst hp
     refine⟨⟨t,ht,.inr (.inr ⟨id,by rw[xq q (Nat.le_refl _)];simp[iq],hv,b8⟩)⟩,e9 D4 (λp hp=>?_) λj t hj sw=>np (j+1) t (by simpa using hj) (by simpa using sw)⟩
     rw[xq p (by omega)]
     have b1:Nat.beq q p=false:=by
      cases hb:Nat.beq q p with
      |false=>rfl
      |true=>have:=ew hb;omega
     simp only[iq,b1,cond_false]
   ·rename_i x hx
    simp only[cU,bP,Prod.mk.injEq]at h
    obtain⟨⟨k2,ys⟩,h2,rfl,rfl⟩:=h
    have eo:W0.look (.o id)=none:=by
     cases hl:W0.look (.o id)with
     |none=>rfl
     |some u=>
      exfalso
      obtain⟨j,_,rfl⟩:=hW _ _ hl
      have:k.get (.o id)=.un:=by unfold Wk.get;rw[ho.2,hl];simp
      rw[this]at hx;cases hx
    have ID:lq (k.set (.o id) .un) k0 ([(.o id,.un)]++W0):=⟨ho.1,λr=>by rw[show(k.set (.o id) .un).w.look r=_ from vi r,mE,ho.2,Option.or_assoc]⟩
    obtain⟨e1,e2,e3,e4,mv,W1,e5,e6,e7,e8,e9⟩:=Qm hk ID (λr u hl=>by
     rw[mE]at hl
     cases h1:St.look [(bN.o id,SV.un)] r with
     |some u'=>rw[h1]at hl;simp at hl;subst hl;rcases j9 h1 with⟨q1,q2⟩|q1;exact⟨id,q1,q2⟩;cases q1
     |none=>rw[h1]at hl;exact hW r u (by simpa using hl)) hr.2 (λi hi=>hm i (by simp[dZ,hi])) h2 (q+1)
    have hid:∀p i,(p,i)∈mv->i≠id:=by
     intro p i hp he
     subst he
     have:=(e6 p i hp).2.2.2
     rw[mE,vh]at this
     simp at this
    refine⟨e1,e2,by simp[e3],by simp[e4],(q,id)::mv,W1++[(.o id,.un)],by rw[List.append_assoc];exact e5,λp i hp=>?_,λr u hl=>?_,λp i hp=>?_,λD4 xq np=>?_⟩
    ·rcases List.mem_cons.1 hp with hp|hp
     ·cases hp
      have:W1.look (.o id)=none:=by
       cases hl:W1.look (.o id)with
       |none=>rfl
       |some u=>obtain⟨p,j,q1,_,_,q2⟩:=e7 _ _ hl;cases q1;exact absurd rfl (hid p _ q2)
      exact⟨Nat.le_refl _,hm id (by simp[dZ]),by rw[mE,this,vh];simp,eo⟩
     ·obtain⟨q1,q2,q3,q4⟩:=e6 p i hp
      refine⟨by omega,q2,by rw[mE,q3];rfl,?_⟩
      rw[mE]at q4
      exact(Option.or_eq_none_iff.1 q4).2
    ·rw[mE]at hl
     cases h1:W1.look r with
     |some u'=>
      rw[h1]at hl
      simp at hl
      subst hl
      obtain⟨p,j,q1,q2,q3,q4⟩:=e7 r u' h1
      exact⟨p,j,q1,q2,q3,by simp[q4]⟩
     |none=>
      rw[h1]at hl
      simp only[Option.none_or]at hl
      rcases j9 hl with⟨q1,q2⟩|q1
      ·exact⟨q,id,q1,q2,hm id (by simp[dZ]),by simp⟩
      ·cases q1
    ·rcases List.mem_cons.1 hp with hp|hp
     ·cases hp;simp[iq,lr]
     ·have h1:=(e6 p i hp).1
      have h2:=hid p i hp
      have b1:Nat.beq q p=false:=by
       cases hb:Nat.beq q p with
       |false=>rfl
       |true=>have:=ew hb;omega
      have b2:Nat.beq id i=false:=by
       cases hb:Nat.beq id i with
       |false=>rfl
       |true=>exact absurd (ew hb).symm h2
      simp only[iq,lr,b1,b2,cond_false]
      exact e8 p i hp
    ·have eU:=hk.obj id
     have DY:k0.get (.o id)=.fl x:=by rw[<-ho.get eo];exact hx
     rw[DY]at eU
     obtain⟨_,t,ht,b8⟩:=eU
     obtain⟨p,hp,hv⟩:=hr.1
     simp only[mB,bP]at hp
     subst hp
     refine⟨⟨t,ht,.inr (.inr ⟨id,by rw[xq q (Nat.le_refl _)];simp[iq],hv,b8⟩)⟩,e9 D4 (λp hp=>?_) λj t hj sw=>np (j+1) t (by simpa using hj) (by simpa using sw)⟩
     rw[xq p (by omega)]
     have b1:Nat.beq q p=false:=by
      cases hb:Nat.beq q p with
      |false=>rfl
      |true=>have:=ew hb;omega
     simp only[iq,b1,cond_false]
   ·cases h
 | [],_::_,vs,k,k1,xs,k0,W0,_,_,_,_,_,h,_=>by simp[Wk.eF]at h
 |_::_,[],vs,k,k1,xs,k0,W0,_,_,_,_,_,h,_=>by simp[Wk.eF]at h
 |_::_,.d::_,vs,k,k1,xs,k0,W0,_,_,_,_,_,h,_=>by simp[Wk.eF]at h
 |_::_,.o _ (_::_)::_,vs,k,k1,xs,k0,W0,_,_,_,_,_,h,_=>by simp[Wk.eF]at h
theorem Se.at{G1:Gh}{mv:Mv}:∀{xs:List Lf} {vs:List Value} {q:Nat},Se G1 w ρ mv q xs vs->xs.length=vs.length∧∀(j:Nat) (t:T),(xs.map (Lf.ev ρ))[j]?=some t->∃v,vs[j]?=some v∧
  ((∃u,t=.c u∧v=u∧kV u=true)∨(t=.l []∧v=.slice none 0 0∧iq mv (q+j)=none)∨∃i,iq mv (q+j)=some i∧v=G1.H i []∧fG G1 w i true [] t)
 | [],[],q,_=>⟨rfl,λj t h=>by simp at h⟩
 |x::xs,v::vs,q,h=>by
  obtain⟨⟨t,h1,h2⟩,h3⟩:=h
  obtain⟨e1,e2⟩:=Se.at h3
  refine⟨by simp[e1],λj t' hj=>?_⟩
  cases j with
  |zero=>
   simp only[List.map_cons,List.getElem?_cons_zero,bP]at hj
   rw[Lf.cb h1]at hj
   subst hj
   exact⟨v,rfl,h2⟩
  |succ j=>
   have:=e2 j t' (by simpa using hj)
   rw[show q+1+j=q+(j+1) by omega]at this
   simpa using this
 | [],_::_,q,h=>h.elim
 |_::_,[],q,h=>h.elim
def Qn(mv:Mv)(sz i:Nat):Lb->Option Lb
 | .o j p=>match lr mv j with
  |some q=>some (.o i ((q/sz,q%sz)::p))
  |none=>some (.o j p)
 |l=>some l
theorem ag7{mv:Mv}{sz i:Nat}(hi:i%2=0)(l l':Lb)(hq:qt l=true)(h:Qn mv sz i l=some l'):qt l'=true:=by
 cases l with
 |o j p=>
  simp only[Qn]at h
  split at h
  ·cases h;exact wb hi (by simp)
  ·cases h;exact hq
 |_=>simp[qt]at hq
def IE(G:Gh)(mv:Mv)(sz:Nat)(v:Value):List (Nat×Nat)->Value
 | []=>v
 |(r,c)::p=>match iq mv (r*sz+c)with
  |some j=>G.H j p
  |none=>.slice none 0 0
theorem ag8(ez:eZ P cx)(h:Rel M B d up s ρ G a w)(hn:∀n,o.dst=some n->n<a.tmps.size){t n:Nat}{ps:Array (Nat×Operand)}(ho:o.op=.buildSlice t n ps){ti te:TI}(gn:cx.ty t=some ti)(r_:cx.ty ti.el=some te)
  {i:TypeInfo}{z:Value}(hu:P.underlying t=some (.slice ti.el))(vl:P.info? ti.el=some i)(ln:i.size=te.sz)(IA:i.zero=some z)(sx:z.cells.size=te.sz)(iH:0<te.sz)(hb:n*te.sz<=65536)
  (E4:bu G w ρ te.zero z.cells.toList)(s_:dZ te.zero=[]){cs:List Ce}{arr:Array Value}(g1:Instr.fill (λi=>some (i*te.sz,te.sz)) (madeCells z.cells (n*z.cells.size)) (ps.toList.map λp=>(p.1,a.eval p.2))=some arr)(g2:bu G w ρ cs arr.toList∧∀i∈dZ cs,M i)
  (yx:arr.size=n*te.sz){k1:Wk}{xs:List Lf}(hD:Wk.eF ⟨s.only R,[],ct,[]⟩ (nv te.zero n) cs=some (k1,xs))
  (hk:(let r:=k1.em (.lit te.sz (bif true then(nv te.zero n).map (λz=>!gd z)else [])) xs;cm d o {r.1.set (.o (fE r.1.ct.i)) (.ob true r.2)with ct:=⟨r.1.ct.a,fE r.1.ct.i+1⟩} (.v false [.o (fE r.1.ct.i) []]))=k')(hd:k'.bT S ρ)(hM:∀i,ct.i<=i->i<k'.ct.i->¬M i):
  b_ P (Mn M ct.i k'.ct.i) B d up ρ a w s o k'.w Q:=by
 have hw:=dL.start h R ct
 obtain⟨a1,a2,a3,a4,mv,W1,a5,a6,a7,a8,a9⟩:=Qm hw (show lq ⟨s.only R,[],ct,[]⟩ ⟨s.only R,[],ct,[]⟩ [] from⟨rfl,λr=>by simp[St.look]⟩) (λr u h=>by cases h) g2.1 g2.2 hD 0
 rw[List.append_nil]at a5
 generalize hy:k1.em (.lit te.sz (bif true then(nv te.zero n).map (λz=>!gd z)else [])) xs=ky at hk
 obtain⟨k2,y⟩:=ky
 have Bv:k2=(k1.em (.lit te.sz (bif true then(nv te.zero n).map (λz=>!gd z)else [])) xs).1:=by rw[hy]
 have hye:y=(k1.em (.lit te.sz (bif true then(nv te.zero n).map (λz=>!gd z)else [])) xs).2:=by rw[hy]
 have nx:k1.fB k2:=by rw[Bv];exact Wk.bX _ _ _
 have jj:cm d o {k2.set (.o (fE k2.ct.i)) (.ob true y)with ct:=⟨k2.ct.a,fE k2.ct.i+1⟩} (.v false [.o (fE k2.ct.i) []])=k':=hk
 have kY:k2.ct.i=ct.i:=by rw[nx.i,a1]
 have f_:(k1.em (.lit te.sz (bif true then(nv te.zero n).map (λz=>!gd z)else [])) xs).1.bT S ρ:=by
  rw[<-Bv]
  rw[<-jj]at hd
  have h2:=dq.1 hd
  exact h2
 obtain⟨Fc,r,hr,mc⟩:=Wk.cf f_
 rw[<-hye]at mc
 have sd:te.zero.length=te.sz:=by have:=E4.length;rw[this];simpa using sx
 have Bw:(xs.map (Lf.ev ρ)).length=n*te.sz:=by rw[List.length_map,a3,Ff,sd]
 have nE:r=.l (nT te.sz n (xs.map (Lf.ev ρ)))∧qE ((nv te.zero n).map (λz=>!gd z)) (xs.map (Lf.ev ρ))=true:=by
  simp only[Prim.ev,Bw,Nat.mul_div_cancel _ iH,if_pos iH,cond_true]at hr
  split at hr
  ·rename_i hm
   exact⟨(Option.some.inj hr).symm,hm⟩
  ·cases hr
 obtain⟨rfl,uh⟩:=nE
 have xq:=a9 mv (λ_ _=>rfl) λj t ⟨x,hx,ht⟩ sw=>by
  refine Bt _ _ uh j t ?_ ?_
  ·cases Kl:(nv te.zero n)[j]? with
   |none=>rw[Kl]at sw;cases sw
   |some zc=>rw[Kl]at sw;simp at sw;simp[Kl,sw]
  ·rw[List.getElem?_map,hx];simp[Lf.cb ht]
 obtain⟨b1,b3⟩:=xq.at
 have ph:k'.ct.i=fE ct.i+1:=by rw[<-jj,nk,<-kY]
 have jJ:=AL ct.i
 let Hn:=IE G mv te.sz (.slice (some ⟨w.heap.size,0,none⟩) n n)
 have nA:∀p,∃a n c,Hn p=.slice a n c:=λp=>by
  cases p with
  |nil=>exact⟨_,_,_,rfl⟩
  |cons x p=>
   obtain⟨r0,c0⟩:=x
   cases hm:iq mv (r0*te.sz+c0)with
   |none=>exact⟨none,0,0,by simp only[Hn,IE,hm]⟩
   |some j=>obtain⟨a0,n0,c1,h0⟩:=G.hs j p;exact⟨a0,n0,c1,by simp only[Hn,IE,hm];exact h0⟩
 have fu:(Instr.buildSlice t n (ps.map λ(i,x)=>(i,a.eval x))).run P w=.ok (.slice (some ⟨w.heap.size,0,none⟩) n n) (w.alloc (.cells arr ti.el)):=by
  have Ad:(ps.map λ(x:Nat×Operand)=>(x.1,a.eval x.2)).toList=ps.toList.map λp=>(p.1,a.eval p.2):=by simp
  rw[<-Ad,<-ln]at g1
  exact Sd hu vl IA (by rw[sx,ln]) (by rw[ln];exact hb) (by rw[ln]at g1⊢;rw[<-sx]at g1⊢;exact g1)
 have jc:(execOp a.eval o).run P w=.ok (.value (Hn [])) (w.alloc (.cells arr ti.el)):=by
  unfold execOp
  simp only[ho]
  rw[Sem.run_bind,fu]
  rfl
 rw[ph,<-jj,<-kY]
 have Km:¬M (fE k2.ct.i):=hM _ (by rw[kY];exact jJ) (by rw[ph,kY];omega)
 refine b_.mono (M:=Mn M (fE k2.ct.i) (fE k2.ct.i+1)) ?_ (λi hi=>hi.imp_right λhi=>by rw[kY]at hi⊢;exact⟨by omega,hi.2⟩)
 refine E' (nb:=some w.heap.size) (f:=Qn mv te.sz (fE k2.ct.i)) (Hn:=Hn) (nA:=nA) (w':=w.alloc (.cells arr ti.el)) (k:={(⟨s.only R,[],ct,[]⟩:Wk)with ct:=⟨k2.ct.a,fE k2.ct.i⟩}) (W1:=W1) (dp:=true) (y:=y) (t:=.l (nT te.sz n (xs.map (Lf.ev ρ))))
  h (show dL M B d up ρ G a w {(⟨s.only R,[],ct,[]⟩:Wk)with ct:=⟨k2.ct.a,fE k2.ct.i⟩} G from⟨hw.rel,hw.bw⟩) hn Km (λr=>?_) (λr u hu=>by obtain⟨p,j,q1,q2,q3,_⟩:=a7 r u hu;subst q2;exact⟨j,q1,trivial,q3,λi hi=>by simp[dI]at hi⟩) (λl hl=>?_) (λl l' ⟨b,hb⟩ he=>?_)
  (ag7 (R3 _)) (λc hc=>by cases hc;exact .inl rfl) (by simp) (λc hc=>by cases hc;simp) (λb hb _=>heap_alloc_old w _ b hb) (E5 _ _) rfl mc ?_ jc
 ·show((k2.w.set (.o (fE k2.ct.i)) _)).look r=_
  rw[show(k2.w.set (.o (fE k2.ct.i)) (.ob true y)).look r=_ from vi (k:=k2) r]
  rw[show k2.w.look r=k1.w.look r by rw[nx.w],a5.2 r,<-Option.or_assoc]
  congr 1
  show _=St.look ((bN.o (fE k2.ct.i),_)::W1) r
  simp only[St.look]
  cases(bN.o (fE k2.ct.i)).beq r<;>simp
 ·cases l with
  |f=>rfl
  |x b=>rfl
  |o j p=>
   have h0:=hl j p rfl
   have:lr mv j=none:=by
    cases hm:lr mv j with
    |none=>rfl
    |some q=>have:=(a6 q j (Fg hm)).2.2.1;rw[h0]at this;cases this
   simp[Qn,this]
 ·have mN:=hw.rel.iP b _ hb
  cases l with
  |f=>cases he;exact .inl mN.1
  |x b=>cases he;exact .inl mN.1
  |o j p=>
   simp only[Qn]at he
   split at he
   ·cases he;exact .inr rfl
   ·cases he;exact .inl mN.1
 ·have hlen:(nT te.sz n (xs.map (Lf.ev ρ))).length=n:=Kk _ _ _
  have wq:∀(ii j:Nat) (t:T),eg (nT te.sz n (xs.map (Lf.ev ρ))) ii j=some t->ii<n∧j<te.sz∧∃v,arr[ii*te.sz+j]?=some v∧
    ((∃u,t=.c u∧v=u∧kV u=true)∨(t=.l []∧v=.slice none 0 0∧iq mv (ii*te.sz+j)=none)∨∃i,iq mv (ii*te.sz+j)=some i∧v=G.H i []∧fG G w i true [] t):=by
   intro ii j t ht
   obtain⟨rr,_,hm,Iw,q1,q2⟩:=xe ht
   rw[hlen]at q1
   rw[Bs _ _ _ Bw rr hm]at q2
   rw[Kj _ _ _ _ _ Bw q1 q2]at ht
   obtain⟨v,c2,c3⟩:=b3 _ t ht
   rw[Nat.zero_add]at c3
   exact⟨q1,q2,v,by simpa using c2,c3⟩
  refine .l (wd:=te.sz) (cv:=λii j=>arr.getD (ii*te.sz+j) undef) (by rw[hlen];simp[Gh.i_,Hn,IE]) ⟨by rw[hlen];exact Nat.le_refl _,λhe=>by have:=congrArg List.length he;rw[hlen]at this;simpa using this⟩ (by simp[Gh.i_]) (heap_alloc_new w _) yx (Bs _ _ _ Bw) ?_ ?_ (λ_ _ _ _ hf=>by cases hf) ?_ ?_
  ·intro ii j t ht
   obtain⟨q1,q2,v,q3,_⟩:=wq ii j t ht
   simp[Array.getD_eq_getD_getElem?,q3]
  ·intro ii j v ht
   obtain⟨q1,q2,u,q3,q4⟩:=wq ii j _ ht
   rcases q4 with⟨u',e1,e2,e3⟩|⟨e1,_⟩|⟨i',_,_,e1⟩
   ·cases e1;subst e2;exact⟨by simp[Array.getD_eq_getD_getElem?,q3],e3⟩
   ·cases e1
   ·cases e1
  ·intro ii j ys ht _
   obtain⟨q1,q2,u,q3,q4⟩:=wq ii j _ ht
   rcases q4 with⟨u',e1,e2,e3⟩|⟨e1,e2,e3⟩|⟨i',e1,e2,e3⟩
   ·cases e1
   ·simp[Array.getD_eq_getD_getElem?,q3,e2,Gh.i_,Hn,IE,e3]
   ·simp[Array.getD_eq_getD_getElem?,q3,e2,Gh.i_,Hn,IE,e1]
  ·intro ii j ys ht _
   obtain⟨q1,q2,u,q3,q4⟩:=wq ii j _ ht
   rcases q4 with⟨u',e1,e2,e3⟩|⟨e1,e2,e3⟩|⟨i',e1,e2,e3⟩
   ·cases e1
   ·cases e1;exact .nil (by simp[Gh.i_,Hn,IE,e3])
   ·have n3:=(a8 _ i' (Bu e1)).2
    refine e3.move rfl (λc p hc=>?_) λp=>?_
    ·have bC:=(hw.rel.iP c _ hc).2
     have dU:¬(w.heap.size=c):=by omega
     simp only[List.nil_append]at hc
     refine⟨?_,heap_alloc_old w _ c bC⟩
     have hdiv:(ii*te.sz+j)/te.sz=ii:=by rw[Nat.add_comm,Nat.add_mul_div_right _ _ iH,Nat.div_eq_of_lt q2];omega
     have ag_:(ii*te.sz+j)%te.sz=j:=by rw[Nat.add_comm,Nat.add_mul_mod_self_right,Nat.mod_eq_of_lt q2]
     simp[Gh.i_,dU,hc,Qn,n3,hdiv,ag_]
    ·simp[Gh.i_,Hn,IE,e1]
theorem aha(ez:eZ P cx)(h:Rel M B d up s ρ G a w)(hn:∀n,o.dst=some n->n<a.tmps.size){t n:Nat}{ps:Array (Nat×Operand)}(ho:o.op=.buildSlice t n ps)
  (hk:jm cx df fP d o oi ⟨s.only R,[],ct,[]⟩=some k')(hd:k'.bT S ρ)(hM:∀i,ct.i<=i->i<k'.ct.i->¬M i):b_ P (Mn M ct.i k'.ct.i) B d up ρ a w s o k'.w Q:=by
 have hw:=dL.start h R ct
 simp only[jm,ho,cU]at hk
 obtain⟨ti,gn,te,r_,hk⟩:=hk
 cases hc:(Nat.beq ti.kd 3&&Nat.ble (n*te.sz) 65536&&Nat.blt 0 te.sz)with
 |false=>simp[hc]at hk
 |true=>
  simp only[hc,cond_true,cU,bP]at hk
  simp only[bL]at hc
  obtain⟨⟨oS,j1⟩,hc3⟩:=hc
  obtain⟨l,hl,cs,kZ,⟨k1,xs,dp⟩,lu,hk⟩:=hk
  simp only at hk
  have hT:=ez.ty _ _ gn
  have hE:=ez.ty _ _ r_
  obtain⟨i,z,vl,ln,Iz,IA,yu⟩:=hE.info
  have hu:=hT.sl (ew oS)
  obtain⟨E4,s_⟩:=wg (G:=G) (w:=w) (ρ:=ρ) yu
  have sx:z.cells.size=te.sz:=by
   have:=E4.length
   rw[hE.EY]at this
   simpa using this.symm
  have iH:0<te.sz:=Nat.lt_of_succ_le (by simpa[Nat.blt]using hc3)
  obtain⟨arr,g1,g2,g3,g4⟩:=JW (a:=a) hw (fs:=(List.range n).map λi=>(i*te.sz,te.sz)) (place:=λi=>some (i*te.sz,te.sz)) (λf o hf=>by
   rw[List.getElem?_map]at hf
   cases hr:(List.range n)[f]? with
   |none=>simp[hr]at hf
   |some f'=>
    have bC:=(List.getElem?_eq_some_iff.1 hr).1
    rw[List.getElem?_eq_getElem bC,List.getElem_range,bP]at hr
    subst hr
    rw[List.getElem?_eq_getElem bC]at hf
    simpa using hf) ps.toList l (nv te.zero n) cs (madeCells z.cells (n*z.cells.size)) hl kZ (ag5 E4 n) (λi hi=>by rw[Sc s_]at hi;cases hi)
  cases hD:(bif cx.fz df fP oi then none else Wk.eF ⟨s.only R,[],ct,[]⟩ (nv te.zero n) cs)with
  |some r=>
   obtain⟨kD,xsD⟩:=r
   simp only[Wk.rU,hD,bP,Prod.mk.injEq]at lu
   obtain⟨rfl,rfl,rfl⟩:=lu
   have hD':Wk.eF ⟨s.only R,[],ct,[]⟩ (nv te.zero n) cs=some (kD,xsD):=by
    cases tb:cx.fz df fP oi with
    |true=>rw[tb]at hD;cases hD
    |false=>rw[tb]at hD;exact hD
   exact ag8 ez h hn ho gn r_ hu vl ln IA sx iH (Nat.le_of_ble_eq_true j1) E4 s_ g1 ⟨g2,g3⟩ (by rw[g4,size_madeCells,sx]) hD' hk hd hM
  |none=>
  simp only[Wk.rU,hD]at lu
  obtain⟨a1,a2,a3,G2,w2,a4,a5,a6⟩:=Bq hw g2 lu
  generalize hy:k1.em (.lit te.sz (bif dp then(nv te.zero n).map (λz=>!gd z)else [])) xs=ky at hk
  obtain⟨k2,y⟩:=ky
  have Bv:k2=(k1.em (.lit te.sz (bif dp then(nv te.zero n).map (λz=>!gd z)else [])) xs).1:=by rw[hy]
  have hye:y=(k1.em (.lit te.sz (bif dp then(nv te.zero n).map (λz=>!gd z)else [])) xs).2:=by rw[hy]
  have nx:k1.fB k2:=by rw[Bv];exact Wk.bX _ _ _
  have jj:cm d o {k2.set (.o (fE k2.ct.i)) (.ob dp y)with ct:=⟨k2.ct.a,fE k2.ct.i+1⟩} (.v false [.o (fE k2.ct.i) []])=k':=hk
  have kY:k2.ct.i=ct.i:=by rw[nx.i,a1]
  have f_:(k1.em (.lit te.sz (bif dp then(nv te.zero n).map (λz=>!gd z)else [])) xs).1.bT S ρ:=by
   rw[<-Bv]
   rw[<-jj]at hd
   have h2:=dq.1 hd
   exact h2
  obtain⟨Fc,r,hr,mc⟩:=Wk.cf f_
  rw[<-hye]at mc
  obtain⟨b1,b2,b3⟩:=a6.at
  have yx:arr.size=n*te.sz:=by rw[g4,size_madeCells,sx]
  have Bw:(xs.map (Lf.ev ρ)).length=n*te.sz:=by rw[List.length_map,b1,Array.length_toList,yx]
  have nE:r=.l (nT te.sz n (xs.map (Lf.ev ρ)))∧qE (bif dp then(nv te.zero n).map (λz=>!gd z)else []) (xs.map (Lf.ev ρ))=true:=by
   simp only[Prim.ev,Bw,Nat.mul_div_cancel _ iH,if_pos iH]at hr
   split at hr
   ·rename_i hm
    exact⟨(Option.some.inj hr).symm,hm⟩
   ·cases hr
  obtain⟨rfl,uh⟩:=nE
  have ph:k'.ct.i=fE ct.i+1:=by rw[<-jj,nk,<-kY]
  have jJ:=AL ct.i
  let Hn:List (Nat×Nat)->Value:=λp=>match p with| []=>.slice (some ⟨w.heap.size,0,none⟩) n n|_=>.slice none 0 0
  have nA:∀p,∃a n c,Hn p=.slice a n c:=λp=>by cases p<;>exact⟨_,_,_,rfl⟩
  have fu:(Instr.buildSlice t n (ps.map λ(i,x)=>(i,a.eval x))).run P w=.ok (.slice (some ⟨w.heap.size,0,none⟩) n n) (w.alloc (.cells arr ti.el)):=by
   have Ad:(ps.map λ(x:Nat×Operand)=>(x.1,a.eval x.2)).toList=ps.toList.map λp=>(p.1,a.eval p.2):=by simp
   rw[<-Ad,<-ln]at g1
   have:=Nat.le_of_ble_eq_true j1
   exact Sd hu vl IA (by rw[sx,ln]) (by rw[ln];omega) (by rw[ln]at g1⊢;rw[<-sx]at g1⊢;exact g1)
  have jc:(execOp a.eval o).run P w=.ok (.value (Hn [])) (w.alloc (.cells arr ti.el)):=
   by
   unfold execOp
   simp only[ho]
   rw[Sem.run_bind,fu]
   rfl
  rw[ph,<-jj,<-kY]
  refine b_.mono (M:=Mn M (fE k2.ct.i) (fE k2.ct.i+1)) ?_ (λi hi=>hi.imp_right λhi=>by rw[kY]at hi⊢;exact⟨by omega,hi.2⟩)
  have w3:=w2.same nx
  refine E' (nb:=some w.heap.size) (f:=some) (Hn:=Hn) (nA:=nA) (w':=w.alloc (.cells arr ti.el)) (k:={k2 with ct:=⟨k2.ct.a,fE k2.ct.i⟩}) (W1:=[]) (t:=.l (nT te.sz n (xs.map (Lf.ev ρ))))
   h (show dL M B d up ρ G a w {k2 with ct:=⟨k2.ct.a,fE k2.ct.i⟩} G2 from⟨w3.rel,w3.bw⟩) hn (hM _ (by show ct.i<=fE k2.ct.i;rw[kY];exact jJ) (by rw[ph];show fE k2.ct.i<_;rw[kY];omega)) (λr=>by exact vi (k:=k2) r) (λr u hu=>by cases hu) (λl _=>rfl) (λl l' ⟨b,hb⟩ he=>by cases he;exact .inl (w2.rel.iP b _ hb).1)
   (λl l' hq he=>by cases he;exact hq) (λc hc=>by cases hc;exact .inl rfl) (by simp) (λc hc=>by cases hc;simp) (λb hb _=>heap_alloc_old w _ b hb) (E5 _ _) rfl mc ?_ jc
  have hlen:(nT te.sz n (xs.map (Lf.ev ρ))).length=n:=Kk _ _ _
  have qc:∀b,b<w.heap.size->G2.q b=none->(G2.i_ (some w.heap.size) (fE k2.ct.i) some Hn nA).q b=none∧(w.alloc (.cells arr ti.el)).heap[b]?=w.heap[b]?:=by
   intro b hb h0
   have dU:some w.heap.size≠some b:=by simp;omega
   exact⟨E_ (λl l' hq he=>by cases he;exact hq) dU h0,heap_alloc_old w _ b hb⟩
  have wq:∀(ii j:Nat) (t:T),eg (nT te.sz n (xs.map (Lf.ev ρ))) ii j=some t->ii<n∧j<te.sz∧∃v,arr[ii*te.sz+j]?=some v∧fq G2.q w t v∧(dp=true->∀ys,t=.l ys->t=.l []∧v=.slice none 0 0):=by
   intro ii j t ht
   obtain⟨rr,_,hm,Iw,q1,q2⟩:=xe ht
   rw[hlen]at q1
   rw[Bs _ _ _ Bw rr hm]at q2
   rw[Kj _ _ _ _ _ Bw q1 q2]at ht
   obtain⟨zc,v,c1,c2,c3,c4⟩:=b3 _ t ht
   refine⟨q1,q2,v,by simpa using c2,c3,λg_ ys Sf=>?_⟩
   subst g_
   cases hzn:gd zc with
   |true=>exact c4 rfl hzn
   |false=>
    have:=Bt _ _ uh (ii*te.sz+j) t (by simp[c1,hzn]) ht
    subst Sf
    simp[eA]at this
  refine .l (wd:=te.sz) (cv:=λii j=>arr.getD (ii*te.sz+j) undef) (by rw[hlen];simp[Gh.i_,Hn]) ⟨by rw[hlen];exact Nat.le_refl _,λhe=>by have:=congrArg List.length he;rw[hlen]at this;simpa using this⟩ (by simp[Gh.i_]) (heap_alloc_new w _) yx (Bs _ _ _ Bw) ?_ ?_ ?_ ?_ ?_
  ·intro ii j t ht
   obtain⟨q1,q2,v,q3,_⟩:=wq ii j t ht
   simp[Array.getD_eq_getD_getElem?,q3]
  ·intro ii j v ht
   obtain⟨q1,q2,u,q3,q4,_⟩:=wq ii j _ ht
   obtain⟨rfl,hs⟩:=q4.scalar
   exact⟨by simp[Array.getD_eq_getD_getElem?,q3],hs⟩
  ·intro ii j ys ht g_
   obtain⟨q1,q2,u,q3,q4,_⟩:=wq ii j _ ht
   have:=q4.bw (by simp) qc
   simpa[Array.getD_eq_getD_getElem?,q3]using this
  ·intro ii j ys ht g_
   obtain⟨q1,q2,u,q3,q4,q5⟩:=wq ii j _ ht
   obtain⟨_,rfl⟩:=q5 g_ ys rfl
   simp[Array.getD_eq_getD_getElem?,q3,Gh.i_,Hn]
  ·intro ii j ys ht g_
   obtain⟨q1,q2,u,q3,q4,q5⟩:=wq ii j _ ht
   obtain⟨e1,rfl⟩:=q5 g_ ys rfl
   cases e1
   exact .nil (by simp[Gh.i_,Hn])
theorem Sg{t:TypeId}{cs:Array Value}{off:Nat}{v:Value}(ht:(∃k,P.underlying t=some (.int k))∨P.underlying t=some .bool∨P.underlying t=some .string)(hv:cs[off]?=some v):
  (part t cs off).run P w=.ok v w:=by
 have nZ:(isAgg t).run P w=.ok false w:=by
  rcases ht with⟨k,ht⟩|ht|ht<;>simp[isAgg,run_underlying ht]
 simp[part,nZ,hv]
def FTy(P:Program)(t:TypeId)(k:Nat):Prop:=(k=1∧∃i,P.underlying t=some (.int i))∨(k=4∧P.underlying t=some .bool)∨(k=2∧P.underlying t=some .string)
theorem ahb{d:Nat}{t:TypeId}{k:Nat}{x y:Value}{b:Bool}(ht:FTy P t k)(h:Qd k x y=some b):(Op.equalIn (d+1) t x y).run P w=.ok b w:=by
 unfold Qd at h
 split at h
 ·rename_i k a k' b'
  obtain⟨_,i,hu⟩:=ht.resolve_right (by simp)
  split at h
  ·rename_i hk;subst hk;cases h
   exact run_equalIn_int w d t _ _ _ _ hu
  ·cases h
 ·cases h
  have hu:P.underlying t=some .bool:=by rcases ht with⟨h,_⟩|⟨_,h⟩|⟨h,_⟩<;>simp_all
  exact run_equalIn_bool' w d t _ _ hu
 ·cases h
  have hu:P.underlying t=some .string:=by rcases ht with⟨h,_⟩|⟨h,_⟩|⟨_,h⟩<;>simp_all
  rw[run_equalIn_string w d t _ _ hu,<-beq_toListBytes]
 ·cases h
theorem ahc{i:Nat}{z:Ce}{zs:List Ce}{f:Field}{fs:List Field}(h:r8 P i (z::zs) (f::fs)=true):f.offset=i∧f.name≠"_"∧FTy P f.type (ml z)∧r8 P (i+1) zs fs=true:=by
 simp only[r8,bL,decide_eq_true_eq]at h
 obtain⟨⟨⟨h1,h2⟩,h3⟩,h4⟩:=h
 refine⟨ew h1,h2,?_,h4⟩
 split at h3
 ·rename_i k hu;exact .inl ⟨ew h3,k,hu⟩
 ·rename_i hu;exact .inr (.inl ⟨ew h3,hu⟩)
 ·rename_i hu;exact .inr (.inr ⟨ew h3,hu⟩)
 ·cases h3
theorem Sh{d:Nat}{xs ys:Array Value}:∀{fs:List Field} {zs:List Ce} {i:Nat} {us vs:List T} {b:Bool},r8 P i zs fs=true->xa (zs.map ml) us vs=some b->
  (∀(j:Nat) (v:Value),us[j]?=some (.c v)->xs[i+j]?=some v)->(∀(j:Nat) (v:Value),vs[j]?=some (.c v)->ys[i+j]?=some v)->(Op.eqFields (d+1) xs ys fs).run P w=.ok b w
 | [],[],i,[],[],b,_,h,_,_=>by simp[xa]at h;subst h;rfl
 | [],[],i,[],_::_,b,_,h,_,_=>by simp[xa]at h
 | [],[],i,_::_,vs,b,_,h,_,_=>by simp[xa]at h
 | [],_::_,i,us,vs,b,hf,h,_,_=>by simp[r8]at hf
 |_::_,[],i,us,vs,b,hf,h,_,_=>by simp[r8]at hf
 |f::fs,z::zs,i,[],vs,b,hf,h,_,_=>by simp[xa]at h
 |f::fs,z::zs,i,.l _::us,vs,b,hf,h,_,_=>by simp[xa]at h
 |f::fs,z::zs,i,.c x::us,[],b,hf,h,_,_=>by simp[xa]at h
 |f::fs,z::zs,i,.c x::us,.l _::vs,b,hf,h,_,_=>by simp[xa]at h
 |f::fs,z::zs,i,.c x::us,.c y::vs,b,hf,h,hx,hy=>by
  obtain⟨h1,h2,h3,h4⟩:=ahc hf
  simp only[List.map_cons,xa,cU,bP]at h
  obtain⟨b1,mM,b2,pf,rfl⟩:=h
  have ht:(∃k,P.underlying f.type=some (.int k))∨P.underlying f.type=some .bool∨P.underlying f.type=some .string:=by
   rcases h3 with⟨_,h⟩|⟨_,h⟩|⟨_,h⟩
   ·exact .inl h
   ·exact .inr (.inl h)
   ·exact .inr (.inr h)
  have p1:=Sg (P:=P) (w:=w) ht (show xs[f.offset]?=some x by rw[h1];exact hx 0 x rfl)
  have p2:=Sg (P:=P) (w:=w) ht (show ys[f.offset]?=some y by rw[h1];exact hy 0 y rfl)
  have ih:=Sh (d:=d) (xs:=xs) (ys:=ys) h4 pf (λj v hj=>by have:=hx (j+1) v (by simpa using hj);rw[<-this];congr 1;omega) (λj v hj=>by have:=hy (j+1) v (by simpa using hj);rw[<-this];congr 1;omega)
  simp only[Op.eqFields,h2,ne_eq,not_false_iff,if_true,Sem.run_bind]
  rw[p1]
  simp only[Result.andThen_ok]
  rw[p2]
  simp only[Result.andThen_ok,ahb h3 mM]
  cases b1
  ·rfl
  ·exact ih
theorem Si{cs:List Ce}{k k1:Wk}{xs:List Lf}{G1:Gh}{vs:List Value}(h:k.jI cs=some (k1,xs))(hd:k1.bT S ρ)(hr:bu G1 w ρ cs vs)(hk:dL M B d up ρ G a w k G1):
  (xs.map (Lf.ev ρ)).length=cs.length∧∀(j:Nat) (v:Value),(xs.map (Lf.ev ρ))[j]?=some (.c v)->vs[j]?=some v:=by
 obtain⟨ts,e1,e2,_,e4⟩:=Wk.im h hd hr hk
 refine⟨by rw[List.length_map,e4,hr.length],λj v hj=>?_⟩
 rw[e1]at hj
 have bC:j<vs.length:=by rw[<-e2.length];exact(List.getElem?_eq_some_iff.1 hj).1
 have:=(e2.get j _ vs[j] hj (List.getElem?_eq_getElem bC)).scalar
 rw[List.getElem?_eq_getElem bC,this.1]
theorem ahd(ez:eZ P cx)(h:Rel M B d up s ρ G a w)(hn:∀n,o.dst=some n->n<a.tmps.size){op:BinOp}{t yt:TypeId}{x y:Operand}(ho:o.op=.binOp op t x y yt)
  {es bs:List Ce}(yv:cB d (Wk.get ⟨s.only R,[],ct,[]⟩) x=.v true es)(E0:cB d (Wk.get ⟨s.only R,[],ct,[]⟩) y=.v true bs)
  (hk:jm cx df fP d o oi ⟨s.only R,[],ct,[]⟩=some k')(hd:k'.bT S ρ):b_ P M B d up ρ a w s o k'.w Q∧k'.ct.i=ct.i:=by
 have hw:=dL.start h R ct
 simp only[jm,ho,yv,E0,cU]at hk
 obtain⟨ti,gn,hk⟩:=hk
 cases hc:(Nat.beq ti.kd 5&&Nat.beq es.length ti.sz)with
 |false=>simp[hc]at hk
 |true=>
  simp only[hc,cond_true,cU]at hk
  simp only[bL]at hc
  have hT:=ez.ty _ _ gn
  obtain⟨fs,hu,vd,hp,hg,hef⟩:=hT.eq (ew hc.1)
  have vk:=ew hc.2
  obtain⟨xh,xr⟩:=hw.ji x
  obtain⟨JM,hmy⟩:=hw.ji y
  rw[yv]at xh
  rw[E0]at JM
  obtain⟨us,Sj,qK⟩:=xh
  obtain⟨vs,pg,mc⟩:=JM
  obtain⟨⟨k1,r1⟩,Qo,lp⟩:=hk
  simp only[Q_,cU]at Qo
  obtain⟨⟨k2,xs⟩,h1,⟨k3,ys⟩,h2,Qo⟩:=Qo
  simp only at Qo
  have mD:=Wk.il h1
  have nx:=Wk.il h2
  have hfo:P.fieldsOf t=fs:=by simp[Program.fieldsOf,hu]
  have Ko:∀op,(eqGuard op t x y (.agg us.toArray) (.agg vs.toArray)).run P w=.ok () w:=λop=>run_eqGuard_agg w op t x y _ _ hg
  have key:(k3.em (.eqs (ti.zero.map ml)) (xs++ys)).1.bT S ρ->∃b,(k3.em (.eqs (ti.zero.map ml)) (xs++ys)).2.gh ρ=some (.c (.bool b))∧(Op.equalIn 10000 t (.agg us.toArray) (.agg vs.toArray)).run P w=.ok b w:=by
   intro Ac
   obtain⟨Fc,r,hr,Kp⟩:=Wk.cf Ac
   obtain⟨l2,g2⟩:=Si h2 Fc mc (hw.same mD)
   obtain⟨l1,g1⟩:=Si h1 (Wk.lO h2 Fc) qK hw
   simp only[Prim.ev,List.map_append,List.length_map]at hr
   have hz:ti.zero.length=(xs.map (Lf.ev ρ)).length:=by rw[l1,vk,hT.EY]
   rw[hz,List.take_left,List.drop_left]at hr
   obtain⟨b,hb,hr⟩:=Option.bind_eq_some_iff.1 hr
   cases hr
   refine⟨b,Kp,?_⟩
   rw[run_equalIn_struct w 9999 t _ _ (by rw[hfo];exact hu) hp,hfo]
   exact Sh (d:=9998) hef hb (λj v hj=>by simpa using g1 j v hj) (λj v hj=>by simpa using g2 j v hj)
  have fin:∀(kk:Wk) (y1:Lf) (b:Bool),cm d o kk (.v false [.p y1])=k'->dL M B d up ρ G a w kk G->kk.ct.i=ct.i->y1.gh ρ=some (.c (.bool b))->
    ((do eqGuard op t x y (a.eval x) (a.eval y);binOp op t (a.eval x) (a.eval y):Sem Value)).run P w=.ok (.bool b) w->b_ P M B d up ρ a w s o k'.w Q∧k'.ct.i=ct.i:=by
   intro kk y1 b hp ve hi hv hr
   subst hp
   refine⟨r9 h ve hn ?_ (EZ (v:=.bool b) hv rfl) (λi hi=>by simp[dI,dZ]at hi) Q,by rw[nk];exact hi⟩
   unfold execOp
   rw[ho]
   show Sem.run P (do let v <-(do eqGuard op t x y (a.eval x) (a.eval y);binOp op t (a.eval x) (a.eval y):Sem Value);pure (Next.value v)) w=_
   rw[Sem.run_bind,hr];rfl
  have ve:=((hw.same mD).same nx).same (Wk.bX k3 (.eqs (ti.zero.map ml)) (xs++ys))
  have kY:(k3.em (.eqs (ti.zero.map ml)) (xs++ys)).1.ct.i=ct.i:=by rw[(Wk.bX _ _ _).i,nx.i,mD.i]
  have hpd:∀{kk:Wk} {y1:Lf},cm d o kk (.v false [.p y1])=k'->kk.bT S ρ:=λhp=>by rw[<-hp]at hd;exact dq.1 hd
  cases op<;>simp only at Qo<;>try cases Qo
  ·have hp:cm d o (k3.em (.eqs (ti.zero.map ml)) (xs++ys)).1 (.v false [.p (k3.em (.eqs (ti.zero.map ml)) (xs++ys)).2])=k':=Option.some.inj lp
   obtain⟨b,hb,fu⟩:=key (hpd hp)
   refine fin _ _ b hp ve kY hb ?_
   rw[Sj,pg,Sem.run_bind,Ko]
   simp only[Result.andThen_ok]
   rw[run_eql_struct,fu];rfl
  ·have hp:cm d o ((k3.em (.eqs (ti.zero.map ml)) (xs++ys)).1.em (.un .not) [(k3.em (.eqs (ti.zero.map ml)) (xs++ys)).2]).1 (.v false [.p ((k3.em (.eqs (ti.zero.map ml)) (xs++ys)).1.em (.un .not) [(k3.em (.eqs (ti.zero.map ml)) (xs++ys)).2]).2])=k':=Option.some.inj lp
   obtain⟨Ac,r,hr,Kp⟩:=Wk.cf (hpd hp)
   obtain⟨b,hb,fu⟩:=key Ac
   simp only[List.map_cons,List.map_nil,Lf.cb hb,Prim.ev,T.val,Option.bind_some,unV,bP]at hr
   subst hr
   refine fin _ _ (!b) hp (ve.same (Wk.bX _ _ _)) (by rw[(Wk.bX _ _ _).i];exact kY) Kp ?_
   rw[Sj,pg,Sem.run_bind,Ko]
   simp only[Result.andThen_ok]
   rw[run_neq_struct,fu];rfl
end
def Gh.stored(G:Gh)(id i off n:Nat)(mv:Mv):Gh where
 ω:=λc=>match G.ω c with
  |some (.o j p)=>if j=id then(match p with
    | []=>some (.o id [])
    |(r,k)::p=>if r=i∧off<=k∧k<off+n then none else some (.o id ((r,k)::p)))
   else(match lr mv j with
    |some q=>some (.o id ((i,off+q)::p))
    |none=>some (.o j p))
  |l=>l
 β:=G.β
 H:=λj p=>if j=id then(match p with
   | []=>G.H id []
   |(r,k)::p=>if r=i∧off<=k∧k<off+n then(match iq mv (k-off)with
     |some j2=>G.H j2 p
     |none=>.slice none 0 0)
    else G.H id ((r,k)::p))
  else G.H j p
 hs:=λj p=>by
  by_cases hj:j=id
  ·simp only[hj,if_true]
   cases p with
   |nil=>exact G.hs id []
   |cons x p=>
    obtain⟨r,k⟩:=x
    by_cases hc:r=i∧off<=k∧k<off+n
    ·simp only[if_pos hc]
     cases iq mv (k-off)with
     |none=>exact⟨_,_,_,rfl⟩
     |some j2=>exact G.hs j2 p
    ·simp only[if_neg hc];exact G.hs id _
  ·simp only[hj,if_false];exact G.hs j p
section
variable {M:Nat->Prop} {B:ft} {d:Nat} {up:Nat->Nat->Value} {ρ:List T} {G:Gh} {a:Act} {w:World} {S:Nat->aA} {P:Program}
variable {cx:Cx} {df fP oi:Nat} {s:St} {R:List bN} {ct:Ct} {k':Wk} {o:Oper} {Q:Exit->Act->World->Prop}
theorem Gh.yI{G:Gh}{id i off n:Nat}{mv:Mv}(jJ:id%4=0){c:Nat}{l:Lb}(hl:G.ω c=some l)(hq:qt l=true):
  (G.stored id i off n mv).ω c=none∨∃l',(G.stored id i off n mv).ω c=some l'∧qt l'=true:=by
 cases l with
 |o j p=>
  simp only[Gh.stored,hl]
  by_cases hj:j=id
  ·subst hj
   rw[if_pos rfl]
   cases p with
   |nil=>exact absurd hq (by rw[rX (by omega)];simp)
   |cons x p=>
    obtain⟨r,k⟩:=x
    simp only
    split
    ·exact .inl rfl
    ·exact .inr ⟨_,rfl,hq⟩
  ·rw[if_neg hj]
   cases lr mv j with
   |some q=>exact .inr ⟨_,rfl,wb (by omega) (by simp)⟩
   |none=>exact .inr ⟨_,rfl,hq⟩
 |_=>simp[qt]at hq
theorem ahe{x ix:Lf}{ms:List Bool}{wd off i:Nat}{xs:List (List T)}{ts:List T}{t:T}(hx:x.gh ρ=some (.l xs))(hi:ma ρ ix=some i)
  (h:Prim.ev (.iN ms wd off) (x.ev ρ::ix.ev ρ::ts)=some t):∃r,xs[i]?=some r∧r.length=wd∧off+ts.length<=r.length∧qE ms ts=true∧t=.l (setRow xs i off ts):=by
 obtain⟨k,hk⟩:=yp hi
 rw[Lf.cb hx,hk]at h
 simp only[Prim.ev,A1,T.rows,T.int,Option.bind_some,Int.toNat_natCast]at h
 cases hr:xs[i]? with
 |none=>simp[hr]at h
 |some r=>
  simp only[hr,Option.bind_some]at h
  split at h
  ·rename_i g1
   split at h
   ·rename_i g2
    split at h
    ·rename_i g3
     simp only[bP]at h
     exact⟨r,rfl,g1,by omega,g3,h.symm⟩
    ·cases h
   ·cases h
  ·cases h
theorem ahf(ez:eZ P cx)(h:Rel M B d up s ρ G a w)(hn:∀n,o.dst=some n->n<a.tmps.size){t:Nat}{x y:Operand}(ho:o.op=.store t x y)
  (hk:∃k1,Jt cx ⟨s.only R,[],ct,[]⟩ t (cB d (Wk.get ⟨s.only R,[],ct,[]⟩) x) (cB d (Wk.get ⟨s.only R,[],ct,[]⟩) y)=some k1∧cm d o k1 .un=k')(hd:k'.bT S ρ):b_ P M B d up ρ a w s o k'.w Q∧k'.ct.i=ct.i:=by
 have hw:=dL.start h R ct
 obtain⟨k1,cn,rfl⟩:=hk
 have f_:=dq.1 hd
 unfold Jt at cn
 split at cn
 ·rename_i id ix wd off hx
  simp only[cU]at cn
  obtain⟨ti,gn,cs,kZ,cn⟩:=cn
  cases hl:(Nat.beq cs.length ti.sz&&ti.zero.any gd&&Nat.beq (id%4) 0)with
  |false=>simp[hl]at cn
  |true=>
   simp only[hl,cond_true]at cn
   simp only[bL]at hl
   have hlen:=ew hl.1.1
   have jJ:id%4=0:=ew hl.2
   split at cn
   ·rename_i x0 DY
    simp only[cU]at cn
    obtain⟨⟨k2,xs⟩,lu,cn⟩:=cn
    simp only at cn
    split at cn
    ·rename_i x1 Sk
     simp only[bP]at cn
     subst cn
     obtain⟨hr,hm⟩:=hw.ji y
     obtain⟨xh,_⟩:=hw.ji x
     rw[hx]at xh
     obtain⟨p,b,n,cap,i,hp,hH,hi,jH,ahg⟩:=xh
     simp only[mB,bP]at hp
     subst hp
     unfold cellsOf at kZ
     split at kZ
     ·rename_i ag es0 fg
      cases kZ
      rw[fg]at hr hm
      have ta:=RC hr
      have pi:=ta.length
      have hvl:(a.eval y).cells.toList.length=ti.sz:=by rw[<-pi,hlen]
      obtain⟨a1,a2,a3,a4,mv,W1,a5,a6,a7,a8,a9⟩:=Qm hw (show lq ⟨s.only R,[],ct,[]⟩ ⟨s.only R,[],ct,[]⟩ [] from⟨rfl,λr=>by simp[St.look]⟩) (λr u h=>by cases h) ta hm lu 0
      rw[List.append_nil]at a5
      have eU:=hw.obj id
      rw[DY]at eU
      obtain⟨tt,Ab,b8⟩:=eU
      have xn:W1.look (.o id)=none:=by
       cases hl:W1.look (.o id)with
       |none=>rfl
       |some u=>
        obtain⟨_,j,_,rfl,_,_⟩:=a7 _ _ hl
        have:k2.get (.o id)=.un:=by unfold Wk.get;rw[a5.2,hl];simp
        rw[this]at Sk;cases Sk
      have Sl:∀q j,(q,j)∈mv->j≠id:=by
       intro q j hq he
       subst he
       have:=(a6 q j hq).2.2.1
       rw[xn]at this;cases this
      have axZ:lr mv id=none:=by
       cases hm:lr mv id with
       |none=>rfl
       |some q=>exact absurd rfl (Sl q id (Fg hm))
      obtain⟨ax0,t',kq,DV⟩:=Wk.cf f_
      cases b8 with
      |nil sn=>rw[hH]at sn;cases sn
      | @l _ _ rows b' E2 yz arr elem cv g1 g2 g3 g4 g5 g6 g7 g8 g9 g10 g11=>
       rw[hH]at g1
       cases g1
       simp only[List.map_cons]at kq
       obtain⟨r,oT,qI,DW,uh,rfl⟩:=ahe Ab hi kq
       have xq:=a9 mv (λ_ _=>rfl) λj t ⟨xx,hxx,ht⟩ sw=>by
        refine Bt _ _ uh j t ?_ ?_
        ·cases Kl:ti.zero[j]? with
         |none=>rw[Kl]at sw;cases sw
         |some zc=>rw[Kl]at sw;simp at sw;simp[Kl,sw]
        ·rw[List.getElem?_map,hxx];simp[Lf.cb ht]
       obtain⟨b1,b3⟩:=xq.at
       have hrw:r.length=E2:=g6 r (List.mem_of_getElem? oT)
       have qG:wd=E2:=by rw[<-qI,hrw]
       subst qG
       have qa:(xs.map (Lf.ev ρ)).length=(a.eval y).cells.toList.length:=by rw[List.length_map,b1]
       have hT:=ez.ty _ _ gn
       have hib:i<rows.length:=(List.getElem?_eq_some_iff.1 oT).1
       have lM:i*wd+off+(a.eval y).cells.toList.length<=arr.size:=by
        rw[g5]
        have:(i+1)*wd<=cap*wd:=Nat.mul_le_mul_right _ (by omega)
        rw[Nat.add_mul]at this
        omega
       have fu:=kC_ (P:=P) (t:=t) hT (b:=b) (off:=i*wd+off) (v:=a.eval y) (by rw[<-hvl];simp) g4 (by simpa using lM) (λu hu=>ta.one u hu)
       rw[<-ahg]at fu
       have jc:=E7 (P:=P) ho fu
       generalize Sm:(arr.toList.take (i*wd+off)++(a.eval y).cells.toList++arr.toList.drop (i*wd+off+(a.eval y).cells.toList.length)).toArray=lm at jc
       have Bx:lm=yC (a.eval y).cells.toList (i*wd+off) arr:=by
        rw[<-Sm]
        exact Array.ext' (by rw[E3 _ _ _ lM])
       have t_:∀k,lm[k]?=if i*wd+off<=k∧k<i*wd+off+(a.eval y).cells.toList.length then(a.eval y).cells.toList[k-(i*wd+off)]? else arr[k]?:=λk=>by rw[Bx];exact Qh _ _ _ _ lM
       have ui:M id:=(hw.rel.iP b _ g3).1
       have Fh:∀i' j' ,i'<rows.length->j'<wd->((i*wd+off<=i'*wd+j'∧i'*wd+j'<i*wd+off+(a.eval y).cells.toList.length)↔(i'=i∧off<=j'∧j'<off+(a.eval y).cells.toList.length)):=by
        intro i' j' aU qY
        rw[qa]at DW
        constructor
        ·rintro⟨h1,h2⟩
         have qV:i'=i:=by
          rcases Nat.lt_trichotomy i' i with bC|heq|RJ
          ·have:(i'+1)*wd<=i*wd:=Nat.mul_le_mul_right _ bC
           rw[Nat.add_mul]at this;omega
          ·exact heq
          ·have:(i+1)*wd<=i'*wd:=Nat.mul_le_mul_right _ RJ
           rw[Nat.add_mul]at this;omega
         subst qV
         exact⟨rfl,by omega,by omega⟩
        ·rintro⟨rfl,h1,h2⟩
         omega
       let ts:=xs.map (Lf.ev ρ)
       let G':=G.stored id i off (a.eval y).cells.toList.length mv
       have hK:dM (oQ (fW d o .un++((bN.o id,SV.ob true (k2.em (.iN (ti.zero.map λz=>!gd z) wd off) (x0::ix::xs)).2)::W1))) (λ_=>False) G w G' (w.setRow b lm):=by
        have jW:∀j p,¬oQ (fW d o .un++((bN.o id,SV.ob true (k2.em (.iN (ti.zero.map λz=>!gd z) wd off) (x0::ix::xs)).2)::W1)) (.o j p)->j≠id∧lr mv j=none:=by
         intro j p hj
         constructor
         ·intro e
          subst e
          refine hj ?_
          show St.look _ (bN.o j)≠none
          rw[mE]
          intro e
          have:=(Option.or_eq_none_iff.1 e).2
          simp[St.look,bN.beq]at this
         ·cases hm:lr mv j with
          |none=>rfl
          |some q=>
           exfalso
           refine hj ?_
           show St.look _ (bN.o j)≠none
           rw[mE]
           intro e
           have h1:=(Option.or_eq_none_iff.1 e).2
           have h2:=(a6 q j (Fg hm)).2.2.1
           simp only[St.look]at h1
           cases hb:(bN.o id).beq (.o j)with
           |true=>rw[hb]at h1;cases h1
           |false=>rw[hb]at h1;simp only[cond_false]at h1;rw[h2]at h1;cases h1
        refine⟨by rw[Ix];exact Nat.le_refl _,λc hc h0=>⟨tT h0 (λh1=>by simp[G',Gh.stored,h1]) λl hl hq=>?_,setRow_other _ _ _ _ λe=>?_⟩,λc hc h0=>by simp[G',Gh.stored,h0],λc l hc hn=>⟨?_,setRow_other _ _ _ _ λe=>?_⟩,λj _=>⟨rfl,λp hp=>?_⟩⟩
        ·exact Gh.yI (by omega) hl hq
        ·subst e;exact vZ g3 (rX (by omega)) h0
        ·cases l with
         |f=>simp[G',Gh.stored,hc]
         |x j=>simp[G',Gh.stored,hc]
         |o j p=>obtain⟨h1,h2⟩:=jW j p hn;simp[G',Gh.stored,hc,h1,h2]
        ·subst e
         rw[g3]at hc
         cases hc
         exact(jW id [] hn).1 rfl
        ·by_cases hj:j=id
         ·subst hj
          rcases hp with rfl|hp|hp
          ·simp[G',Gh.stored]
          ·omega
          ·exact absurd rfl (jW j [] (hp [])).1
         ·simp[G',Gh.stored,hj]
       refine⟨?_,by rw[nk];show k2.ct.i=ct.i;rw[a1]⟩
       simp only[b_,Oper.wp,jc,Oper.upon]
       have hWk:∀r',(cm d o ((k2.em (.iN (ti.zero.map λz=>!gd z) wd off) (x0::ix::xs)).1.set (.o id) (.ob true (k2.em (.iN (ti.zero.map λz=>!gd z) wd off) (x0::ix::xs)).2)) .un).w.look r'=
         (St.look (fW d o .un++((bN.o id,SV.ob true (k2.em (.iN (ti.zero.map λz=>!gd z) wd off) (x0::ix::xs)).2)::W1)) r').or (St.look (Wk.w ⟨s.only R,[],ct,[]⟩) r'):=by
        refine yD (W2:=(bN.o id,SV.ob true (k2.em (.iN (ti.zero.map λz=>!gd z) wd off) (x0::ix::xs)).2)::W1) (λr'=>?_)
        rw[show((k2.em (.iN (ti.zero.map λz=>!gd z) wd off) (x0::ix::xs)).1.set (.o id) (.ob true (k2.em (.iN (ti.zero.map λz=>!gd z) wd off) (x0::ix::xs)).2)).w.look r'=_ from vi r']
        rw[show(k2.em (.iN (ti.zero.map λz=>!gd z) wd off) (x0::ix::xs)).1.w.look r'=k2.w.look r' from rfl,a5.2 r',<-Option.or_assoc]
        congr 1
        simp only[St.look]
        cases(bN.o id).beq r'<;>simp
       refine⟨G',wh h hw (W2:=fW d o .un++((bN.o id,SV.ob true (k2.em (.iN (ti.zero.map λz=>!gd z) wd off) (x0::ix::xs)).2)::W1)) hWk hK (λi hi=>hi.elim) (λi hi=>hi) (λn oU=>wi oU) (J5 _ _ _) ?_,A4 _ _ _⟩
       have Bz:∀c,c≠b->(w.setRow b lm).heap[c]?=w.heap[c]?:=λc hc=>setRow_other _ _ _ _ hc
       have Sn:(w.setRow b lm).heap[b]?=some (.cells lm elem (0,0)):=setRow_heap _ _ _ _ _ _ g4
       have So:fG G' (w.setRow b lm) id true [] (.l (setRow rows i off ts)):=by
        have Kq:=λi' j'=>J0 (xs:=rows) (ts:=ts) oT DW i' j'
        have Qp:ts.length=(a.eval y).cells.toList.length:=qa
        refine .l (wd:=wd) (cv:=λi' j'=>lm.getD (i'*wd+j') undef) (by rw[DU];simpa[G',Gh.stored]using hH) ⟨by rw[DU];exact g2.1,λhe=>g2.2 (by have:=congrArg List.length he;rw[DU]at this;exact List.eq_nil_of_length_eq_zero this)⟩ (by simp[G',Gh.stored,g3]) Sn
         (by rw[Bx,Qg];exact g5) (RH g6 oT DW) ?_ ?_ (λ_ _ _ _ hf=>by cases hf) ?_ ?_
        all_goals
         intro i' j'
         have lz:∀t,eg (setRow rows i off ts) i' j'=some t->i'<rows.length∧j'<wd:=by
          intro t ht
          obtain⟨rr,_,jV,_,q1,q2⟩:=xe ht
          rw[DU]at q1
          exact⟨q1,by rw[<-RH g6 oT DW rr jV];exact q2⟩
        ·intro t ht
         obtain⟨q1,q2⟩:=lz t ht
         have bC:i'*wd+j'<lm.size:=by
          rw[Bx,Qg,g5]
          exact Nat.lt_of_lt_of_le (Bm q1 q2) (Nat.mul_le_mul_right _ g2.1)
         simp[Array.getD_eq_getD_getElem?,bC]
        ·intro v ht
         obtain⟨q1,q2⟩:=lz _ ht
         rw[Kq]at ht
         rw[Array.getD_eq_getD_getElem?,t_]
         split at ht
         ·rename_i hc
          rw[Qp]at hc
          rw[if_pos ((Fh i' j' q1 q2).2 hc)]
          obtain⟨u,hu,nF⟩:=b3 (j'-off) _ ht
          rw[show i'*wd+j'-(i*wd+off)=j'-off by rw[hc.1];omega,hu]
          rcases nF with⟨u',e1,e2,e3⟩|⟨e1,_⟩|⟨_,_,_,e1⟩
          ·cases e1;subst e2;exact⟨rfl,e3⟩
          ·cases e1
          ·cases e1
         ·rename_i hc
          rw[Qp]at hc
          rw[if_neg (λhh=>hc ((Fh i' j' q1 q2).1 hh)),g7 i' j' _ ht]
          exact g8 i' j' v ht
        ·intro ys ht _
         obtain⟨q1,q2⟩:=lz _ ht
         rw[Kq]at ht
         rw[Array.getD_eq_getD_getElem?,t_]
         split at ht
         ·rename_i hc
          rw[Qp]at hc
          rw[if_pos ((Fh i' j' q1 q2).2 hc)]
          obtain⟨u,hu,nF⟩:=b3 (j'-off) _ ht
          rw[show i'*wd+j'-(i*wd+off)=j'-off by rw[hc.1];omega,hu]
          rw[Nat.zero_add]at nF
          rcases nF with⟨u',e1,_⟩|⟨e1,e2,e3⟩|⟨i2,e1,e2,_⟩
          ·cases e1
          ·have rC:i'=i∧off<=j'∧j'<off+(a.eval y).cells.size:=by simpa using hc
           simp[G',Gh.stored,rC,e2,e3]
          ·have rC:i'=i∧off<=j'∧j'<off+(a.eval y).cells.size:=by simpa using hc
           simp[G',Gh.stored,rC,e2,e1]
         ·rename_i hc
          rw[Qp]at hc
          rw[if_neg (λhh=>hc ((Fh i' j' q1 q2).1 hh)),g7 i' j' _ ht]
          have:=g10 i' j' ys ht rfl
          simp only[List.nil_append]at this
          simp only[Option.getD_some,this,List.nil_append]
          show _=(if id=id then _ else _)
          rw[if_pos rfl]
          simp only[if_neg hc]
        ·intro ys ht _
         obtain⟨q1,q2⟩:=lz _ ht
         rw[Kq]at ht
         split at ht
         ·rename_i hc
          rw[Qp]at hc
          obtain⟨u,hu,nF⟩:=b3 (j'-off) _ ht
          rw[Nat.zero_add]at nF
          rcases nF with⟨u',e1,_⟩|⟨e1,e2,e3⟩|⟨i2,e1,e2,e3⟩
          ·cases e1
          ·cases e1
           have rC:i'=i∧off<=j'∧j'<off+(a.eval y).cells.size:=by simpa using hc
           exact .nil (by simp[G',Gh.stored,rC,e3])
          ·have n3:=(a8 _ i2 (Bu e1)).2
           have dU:=Sl _ i2 (Bu e1)
           refine e3.move rfl (λc q j1=>?_) λq=>?_
           ·simp only[List.nil_append]at j1
            refine⟨?_,Bz c λe=>?_⟩
            ·simp only[G',Gh.stored,j1,if_neg dU,n3]
             rw[hc.1,show off+(j'-off)=j' by omega]
             rfl
            ·subst e;rw[g3]at j1;cases j1;exact dU rfl
           ·simp only[G',Gh.stored,List.nil_append,List.cons_append,if_true,if_pos hc,e1]
         ·rename_i hc
          rw[Qp]at hc
          have:=g11 i' j' ys ht rfl
          simp only[List.nil_append]at this⊢
          refine this.move rfl (λc q j1=>?_) λq=>?_
          ·refine⟨?_,Bz c λe=>?_⟩
           ·simp only[List.cons_append,List.nil_append]at j1⊢
            simp only[G',Gh.stored,j1,if_true,if_neg hc]
           ·subst e;rw[g3]at j1;cases j1
          ·simp only[G',Gh.stored,List.cons_append,List.nil_append,if_true,if_neg hc]
       refine⟨λe n u he hl=>?_,λb u hl=>?_,λj u hl=>?_,λr u hl j hj=>?_,λj hj=>?_,λc l hc=>?_⟩
       ·rcases lN hl with⟨n',iA,e1,rfl⟩|hl
        ·trivial
        ·rcases j9 hl with⟨e1,_⟩|hl
         ·cases e1
         ·obtain⟨_,j,e1,_⟩:=a7 _ _ hl;cases e1
       ·rcases lN hl with⟨n',iA,e1,rfl⟩|hl
        ·cases e1
        ·rcases j9 hl with⟨e1,_⟩|hl
         ·cases e1
         ·obtain⟨_,j,e1,_⟩:=a7 _ _ hl;cases e1
       ·rcases lN hl with⟨n',iA,e1,rfl⟩|hl
        ·cases e1
        ·rcases j9 hl with⟨e1,rfl⟩|hl
         ·cases e1;exact⟨_,DV,So⟩
         ·obtain⟨_,j',e1,rfl,_⟩:=a7 _ _ hl;trivial
       ·rcases lN hl with⟨n',iA,e1,rfl⟩|hl
        ·simp[dI]at hj
        ·rcases j9 hl with⟨e1,rfl⟩|hl
         ·simp[dI]at hj
         ·obtain⟨_,j',e1,rfl,_⟩:=a7 _ _ hl;simp[dI]at hj
       ·have:∀r:bN,(r=.x j∨r=.o j)->St.look (fW d o .un++((bN.o id,SV.ob true (k2.em (.iN (ti.zero.map λz=>!gd z) wd off) (x0::ix::xs)).2)::W1)) r≠none->M j:=by
         intro r hr hl
         obtain⟨u,hu⟩:=Option.ne_none_iff_exists'.1 hl
         rcases lN hu with⟨n',iA,e1,rfl⟩|hl
         ·rcases hr with rfl|rfl<;>cases e1
         ·rcases j9 hl with⟨e1,_⟩|hl
          ·rcases hr with rfl|rfl
           ·cases e1
           ·cases e1;exact ui
          ·obtain⟨_,j',e1,_,hm,_⟩:=a7 _ _ hl
           rcases hr with rfl|rfl
           ·cases e1
           ·cases e1;exact hm
        rcases hj with hj|hj
        ·exact this _ (.inl rfl) hj
        ·exact this _ (.inr rfl) hj
       ·rw[Ix]
        cases Sp:G.ω c with
        |none=>simp[G',Gh.stored,Sp]at hc
        |some l'=>
         have kW:=hw.rel.iP c l' Sp
         refine⟨?_,kW.2⟩
         cases l' with
         |f=>simp[G',Gh.stored,Sp]at hc;subst hc;exact kW.1
         |x j=>simp[G',Gh.stored,Sp]at hc;subst hc;exact kW.1
         |o j p=>
          simp only[G',Gh.stored,Sp]at hc
          split at hc
          ·rename_i hj
           subst hj
           split at hc
           ·cases hc;exact ui
           ·split at hc
            ·cases hc
            ·cases hc;exact ui
          ·split at hc
           ·cases hc;exact ui
           ·cases hc;exact kW.1
     ·cases kZ
    ·cases cn
   ·cases cn
 ·cases cn
end
end Go.Proofs.YtjimmglpkndemaaGreatC

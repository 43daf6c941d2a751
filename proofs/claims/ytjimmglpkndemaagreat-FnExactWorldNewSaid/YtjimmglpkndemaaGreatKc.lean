/- The walk by reflection: a part of its laws, for any function. Conditions: none. -/
import Derived.Test.YtjimmglpkndemaaGreatKb
namespace Go.Proofs.YtjimmglpkndemaaGreatC
set_option linter.unusedVariables false
section
variable {M:Nat->Prop} {B:eu} {d:Nat} {up:Nat->Nat->Value} {ρ:List T} {G:Gh} {a:Act} {w:World} {S:Nat->af} {P:Program}
variable {cx:Cx} {cw eW oi:Nat} {s:St} {R:List bf} {ct:Ct} {k':Wk} {o:Oper} {Q:Exit->Act->World->Prop}
theorem P8{t:TypeId}{cs:Array Value}{off:Nat}{v:Value}(ht:(∃k,P.underlying t=some (.int k))∨P.underlying t=some .bool∨P.underlying t=some .string)(hv:cs[off]?=some v):
  (part t cs off).run P w=.ok v w:=by
 have m0:(isAgg t).run P w=.ok false w:=by
  rcases ht with⟨k,ht⟩|ht|ht<;>simp[isAgg,run_underlying ht]
 simp[part,m0,hv]
def FTy(P:Program)(t:TypeId)(k:Nat):Prop:=(k=1∧∃i,P.underlying t=some (.int i))∨(k=4∧P.underlying t=some .bool)∨(k=2∧P.underlying t=some .string)
theorem adC{d:Nat}{t:TypeId}{k:Nat}{x y:Value}{b:Bool}(ht:FTy P t k)(h:Nq k x y=some b):(Op.equalIn (d+1) t x y).run P w=.ok b w:=by
 unfold Nq at h
 split at h
 ·rename_i k a k' b'
  obtain⟨_,i,hu⟩:=ht.resolve_right (by simp)
  split at h
  ·rename_i hk;subst hk;cases h
   exact run_equalIn_int w d t _ _ _ _ hu
  ·cases h
 ·cases h
  have hu:P.underlying t=some .bool:=by rcases ht with⟨h,_⟩|⟨_,h⟩|⟨h,_⟩<;>simp_all
  exact run_equalIn_bool' w d t _ _ hu
 ·cases h
  have hu:P.underlying t=some .string:=by rcases ht with⟨h,_⟩|⟨h,_⟩|⟨_,h⟩<;>simp_all
  rw[run_equalIn_string w d t _ _ hu,<-beq_toListBytes]
 ·cases h
theorem adD{i:Nat}{z:Ce}{zs:List Ce}{f:Field}{fs:List Field}(h:qP P i (z::zs) (f::fs)=true):f.offset=i∧f.name≠"_"∧FTy P f.type (lF z)∧qP P (i+1) zs fs=true:=by
 simp only[qP,bA,decide_eq_true_eq]at h
 obtain⟨⟨⟨h1,h2⟩,h3⟩,h4⟩:=h
 refine⟨du h1,h2,?_,h4⟩
 split at h3
 ·rename_i k hu;exact .inl ⟨du h3,k,hu⟩
 ·rename_i hu;exact .inr (.inl ⟨du h3,hu⟩)
 ·rename_i hu;exact .inr (.inr ⟨du h3,hu⟩)
 ·cases h3
theorem P9{d:Nat}{xs ys:Array Value}:∀{fs:List Field} {zs:List Ce} {i:Nat} {us vs:List T} {b:Bool},qP P i zs fs=true->vB (zs.map lF) us vs=some b->
  (∀(j:Nat) (v:Value),us[j]?=some (.c v)->xs[i+j]?=some v)->(∀(j:Nat) (v:Value),vs[j]?=some (.c v)->ys[i+j]?=some v)->(Op.eqFields (d+1) xs ys fs).run P w=.ok b w
 | [],[],i,[],[],b,_,h,_,_=>by simp[vB]at h;subst h;rfl
 | [],[],i,[],_::_,b,_,h,_,_=>by simp[vB]at h
 | [],[],i,_::_,vs,b,_,h,_,_=>by simp[vB]at h
 | [],_::_,i,us,vs,b,hf,h,_,_=>by simp[qP]at hf
 |_::_,[],i,us,vs,b,hf,h,_,_=>by simp[qP]at hf
 |f::fs,z::zs,i,[],vs,b,hf,h,_,_=>by simp[vB]at h
 |f::fs,z::zs,i,.l _::us,vs,b,hf,h,_,_=>by simp[vB]at h
 |f::fs,z::zs,i,.c x::us,[],b,hf,h,_,_=>by simp[vB]at h
 |f::fs,z::zs,i,.c x::us,.l _::vs,b,hf,h,_,_=>by simp[vB]at h
 |f::fs,z::zs,i,.c x::us,.c y::vs,b,hf,h,hx,hy=>by
  obtain⟨h1,h2,h3,h4⟩:=adD hf
  simp only[List.map_cons,vB,cm,bc]at h
  obtain⟨b1,lI,b2,nh,rfl⟩:=h
  have ht:(∃k,P.underlying f.type=some (.int k))∨P.underlying f.type=some .bool∨P.underlying f.type=some .string:=by
   rcases h3 with⟨_,h⟩|⟨_,h⟩|⟨_,h⟩
   ·exact .inl h
   ·exact .inr (.inl h)
   ·exact .inr (.inr h)
  have p1:=P8 (P:=P) (w:=w) ht (show xs[f.offset]?=some x by rw[h1];exact hx 0 x rfl)
  have p2:=P8 (P:=P) (w:=w) ht (show ys[f.offset]?=some y by rw[h1];exact hy 0 y rfl)
  have ih:=P9 (d:=d) (xs:=xs) (ys:=ys) h4 nh (λj v hj=>by have:=hx (j+1) v (by simpa using hj);rw[<-this];congr 1;omega) (λj v hj=>by have:=hy (j+1) v (by simpa using hj);rw[<-this];congr 1;omega)
  simp only[Op.eqFields,h2,ne_eq,not_false_iff,if_true,Sem.run_bind]
  rw[p1]
  simp only[Result.andThen_ok]
  rw[p2]
  simp only[Result.andThen_ok,adC h3 lI]
  cases b1
  ·rfl
  ·exact ih
theorem P_{cs:List Ce}{k k1:Wk}{xs:List Lf}{G1:Gh}{vs:List Value}(h:k.iQ cs=some (k1,xs))(hd:k1.bm S ρ)(hr:aS G1 w ρ cs vs)(hk:db M B d up ρ G a w k G1):
  (xs.map (Lf.ev ρ)).length=cs.length∧∀(j:Nat) (v:Value),(xs.map (Lf.ev ρ))[j]?=some (.c v)->vs[j]?=some v:=by
 obtain⟨ts,e1,e2,_,e4⟩:=Wk.gC h hd hr hk
 refine⟨by rw[List.length_map,e4,hr.length],λj v hj=>?_⟩
 rw[e1]at hj
 have a_:j<vs.length:=by rw[<-e2.length];exact(List.getElem?_eq_some_iff.1 hj).1
 have:=(e2.get j _ vs[j] hj (List.getElem?_eq_getElem a_)).scalar
 rw[List.getElem?_eq_getElem a_,this.1]
theorem adE(dC:dU P cx)(h:Rel M B d up s ρ G a w)(hn:∀n,o.dst=some n->n<a.tmps.size){op:BinOp}{t yt:TypeId}{x y:Operand}(ho:o.op=.binOp op t x y yt)
  {es bs:List Ce}(wQ:bY d (Wk.get ⟨s.only R,[],ct,[]⟩) x=.v true es)(CU:bY d (Wk.get ⟨s.only R,[],ct,[]⟩) y=.v true bs)
  (hk:iy cx cw eW d o oi ⟨s.only R,[],ct,[]⟩=some k')(hd:k'.bm S ρ):bH P M B d up ρ a w s o k'.w Q∧k'.ct.i=ct.i:=by
 have hw:=db.start h R ct
 simp only[iy,ho,wQ,CU,cm]at hk
 obtain⟨ti,fj,hk⟩:=hk
 cases hc:(Nat.beq ti.kd 5&&Nat.beq es.length ti.sz)with
 |false=>simp[hc]at hk
 |true=>
  simp only[hc,cond_true,cm]at hk
  simp only[bA]at hc
  have hT:=dC.ty _ _ fj
  obtain⟨fs,hu,tQ,hp,hg,hef⟩:=hT.eq (du hc.1)
  have C8:=du hc.2
  obtain⟨vG,sU⟩:=hw.gX x
  obtain⟨HF,hmy⟩:=hw.gX y
  rw[wQ]at vG
  rw[CU]at HF
  obtain⟨us,P',pN⟩:=vG
  obtain⟨vs,oA,mZ⟩:=HF
  obtain⟨⟨k1,r1⟩,NF,o3⟩:=hk
  simp only[OS,cm]at NF
  obtain⟨⟨k2,xs⟩,h1,⟨k3,ys⟩,h2,NF⟩:=NF
  simp only at NF
  have kF:=Wk.gB h1
  have my:=Wk.gB h2
  have hfo:P.fieldsOf t=fs:=by simp[Program.fieldsOf,hu]
  have Ij:∀op,(eqGuard op t x y (.agg us.toArray) (.agg vs.toArray)).run P w=.ok () w:=λop=>run_eqGuard_agg w op t x y _ _ hg
  have key:(k3.em (.su (ti.zero.map lF)) (xs++ys)).1.bm S ρ->∃b,(k3.em (.su (ti.zero.map lF)) (xs++ys)).2.fq ρ=some (.c (.bool b))∧(Op.equalIn 10000 t (.agg us.toArray) (.agg vs.toArray)).run P w=.ok b w:=by
   intro yb
   obtain⟨zB,r,hr,Ik⟩:=Wk.bK yb
   obtain⟨l2,g2⟩:=P_ h2 zB mZ (hw.same kF)
   obtain⟨l1,g1⟩:=P_ h1 (Wk.kU h2 zB) pN hw
   simp only[Prim.ev,List.map_append,List.length_map]at hr
   have hz:ti.zero.length=(xs.map (Lf.ev ρ)).length:=by rw[l1,C8,hT.ze]
   rw[hz,List.take_left,List.drop_left]at hr
   obtain⟨b,hb,hr⟩:=Option.bind_eq_some_iff.1 hr
   cases hr
   refine⟨b,Ik,?_⟩
   rw[run_equalIn_struct w 9999 t _ _ (by rw[hfo];exact hu) hp,hfo]
   exact P9 (d:=9998) hef hb (λj v hj=>by simpa using g1 j v hj) (λj v hj=>by simpa using g2 j v hj)
  have fin:∀(kk:Wk) (y1:Lf) (b:Bool),bP d o kk (.v false [.p y1])=k'->db M B d up ρ G a w kk G->kk.ct.i=ct.i->y1.fq ρ=some (.c (.bool b))->
    ((do eqGuard op t x y (a.eval x) (a.eval y);binOp op t (a.eval x) (a.eval y):Sem Value)).run P w=.ok (.bool b) w->bH P M B d up ρ a w s o k'.w Q∧k'.ct.i=ct.i:=by
   intro kk y1 b hp tR hi hv hr
   subst hp
   refine⟨qQ h tR hn ?_ (CT (v:=.bool b) hv rfl) (λi hi=>by simp[cT,dt]at hi) Q,by rw[mw];exact hi⟩
   unfold execOp
   rw[ho]
   show Sem.run P (do let v <-(do eqGuard op t x y (a.eval x) (a.eval y);binOp op t (a.eval x) (a.eval y):Sem Value);pure (Next.value v)) w=_
   rw[Sem.run_bind,hr];rfl
  have tR:=((hw.same kF).same my).same (Wk.bB k3 (.su (ti.zero.map lF)) (xs++ys))
  have jV:(k3.em (.su (ti.zero.map lF)) (xs++ys)).1.ct.i=ct.i:=by rw[(Wk.bB _ _ _).i,my.i,kF.i]
  have hpd:∀{kk:Wk} {y1:Lf},bP d o kk (.v false [.p y1])=k'->kk.bm S ρ:=λhp=>by rw[<-hp]at hd;exact cF.1 hd
  cases op<;>simp only at NF<;>try cases NF
  ·have hp:bP d o (k3.em (.su (ti.zero.map lF)) (xs++ys)).1 (.v false [.p (k3.em (.su (ti.zero.map lF)) (xs++ys)).2])=k':=Option.some.inj o3
   obtain⟨b,hb,d_⟩:=key (hpd hp)
   refine fin _ _ b hp tR jV hb ?_
   rw[P',oA,Sem.run_bind,Ij]
   simp only[Result.andThen_ok]
   rw[run_eql_struct,d_];rfl
  ·have hp:bP d o ((k3.em (.su (ti.zero.map lF)) (xs++ys)).1.em (.un .not) [(k3.em (.su (ti.zero.map lF)) (xs++ys)).2]).1 (.v false [.p ((k3.em (.su (ti.zero.map lF)) (xs++ys)).1.em (.un .not) [(k3.em (.su (ti.zero.map lF)) (xs++ys)).2]).2])=k':=Option.some.inj o3
   obtain⟨yb,r,hr,Ik⟩:=Wk.bK (hpd hp)
   obtain⟨b,hb,d_⟩:=key yb
   simp only[List.map_cons,List.map_nil,Lf.bG hb,Prim.ev,T.val,Option.bind_some,unV,bc]at hr
   subst hr
   refine fin _ _ (!b) hp (tR.same (Wk.bB _ _ _)) (by rw[(Wk.bB _ _ _).i];exact jV) Ik ?_
   rw[P',oA,Sem.run_bind,Ij]
   simp only[Result.andThen_ok]
   rw[run_neq_struct,d_];rfl
end
def Gh.stored(G:Gh)(id i off n:Nat)(mv:Mv):Gh where
 ω:=λc=>match G.ω c with
  |some (.o j p)=>if j=id then(match p with
    | []=>some (.o id [])
    |(r,k)::p=>if r=i∧off<=k∧k<off+n then none else some (.o id ((r,k)::p)))
   else(match km mv j with
    |some q=>some (.o id ((i,off+q)::p))
    |none=>some (.o j p))
  |l=>l
 β:=G.β
 H:=λj p=>if j=id then(match p with
   | []=>G.H id []
   |(r,k)::p=>if r=i∧off<=k∧k<off+n then(match gD mv (k-off)with
     |some j2=>G.H j2 p
     |none=>.slice none 0 0)
    else G.H id ((r,k)::p))
  else G.H j p
 hs:=λj p=>by
  by_cases hj:j=id
  ·simp only[hj,if_true]
   cases p with
   |nil=>exact G.hs id []
   |cons x p=>
    obtain⟨r,k⟩:=x
    by_cases hc:r=i∧off<=k∧k<off+n
    ·simp only[if_pos hc]
     cases gD mv (k-off)with
     |none=>exact⟨_,_,_,rfl⟩
     |some j2=>exact G.hs j2 p
    ·simp only[if_neg hc];exact G.hs id _
  ·simp only[hj,if_false];exact G.hs j p
section
variable {M:Nat->Prop} {B:eu} {d:Nat} {up:Nat->Nat->Value} {ρ:List T} {G:Gh} {a:Act} {w:World} {S:Nat->af} {P:Program}
variable {cx:Cx} {cw eW oi:Nat} {s:St} {R:List bf} {ct:Ct} {k':Wk} {o:Oper} {Q:Exit->Act->World->Prop}
theorem Gh.w_{G:Gh}{id i off n:Nat}{mv:Mv}(jl:id%4=0){c:Nat}{l:Lb}(hl:G.ω c=some l)(hq:qt l=true):
  (G.stored id i off n mv).ω c=none∨∃l',(G.stored id i off n mv).ω c=some l'∧qt l'=true:=by
 cases l with
 |o j p=>
  simp only[Gh.stored,hl]
  by_cases hj:j=id
  ·subst hj
   rw[if_pos rfl]
   cases p with
   |nil=>exact absurd hq (by rw[CM (by omega)];simp)
   |cons x p=>
    obtain⟨r,k⟩:=x
    simp only
    split
    ·exact .inl rfl
    ·exact .inr ⟨_,rfl,hq⟩
  ·rw[if_neg hj]
   cases km mv j with
   |some q=>exact .inr ⟨_,rfl,sD (by omega) (by simp)⟩
   |none=>exact .inr ⟨_,rfl,hq⟩
 |_=>simp[qt]at hq
theorem adF{x ix:Lf}{ms:List Bool}{wd off i:Nat}{xs:List (List T)}{ts:List T}{t:T}(hx:x.fq ρ=some (.l xs))(hi:ll ρ ix=some i)
  (h:Prim.ev (.gU ms wd off) (x.ev ρ::ix.ev ρ::ts)=some t):∃r,xs[i]?=some r∧r.length=wd∧off+ts.length<=r.length∧uo ms ts=true∧t=.l (setRow xs i off ts):=by
 obtain⟨k,hk⟩:=Ns hi
 rw[Lf.bG hx,hk]at h
 simp only[Prim.ev,zb,T.rows,T.int,Option.bind_some,Int.toNat_natCast]at h
 cases hr:xs[i]? with
 |none=>simp[hr]at h
 |some r=>
  simp only[hr,Option.bind_some]at h
  split at h
  ·rename_i g1
   split at h
   ·rename_i g2
    split at h
    ·rename_i g3
     simp only[bc]at h
     exact⟨r,rfl,g1,by omega,g3,h.symm⟩
    ·cases h
   ·cases h
  ·cases h
theorem adG(dC:dU P cx)(h:Rel M B d up s ρ G a w)(hn:∀n,o.dst=some n->n<a.tmps.size){t:Nat}{x y:Operand}(ho:o.op=.store t x y)
  (hk:∃k1,Hh cx ⟨s.only R,[],ct,[]⟩ t (bY d (Wk.get ⟨s.only R,[],ct,[]⟩) x) (bY d (Wk.get ⟨s.only R,[],ct,[]⟩) y)=some k1∧bP d o k1 .un=k')(hd:k'.bm S ρ):bH P M B d up ρ a w s o k'.w Q∧k'.ct.i=ct.i:=by
 have hw:=db.start h R ct
 obtain⟨k1,cf,rfl⟩:=hk
 have fi:=cF.1 hd
 unfold Hh at cf
 split at cf
 ·rename_i id ix wd off hx
  simp only[cm]at cf
  obtain⟨ti,fj,cs,jW,cf⟩:=cf
  cases hl:(Nat.beq cs.length ti.sz&&ti.zero.any eX&&Nat.beq (id%4) 0)with
  |false=>simp[hl]at cf
  |true=>
   simp only[hl,cond_true]at cf
   simp only[bA]at hl
   have hlen:=du hl.1.1
   have jl:id%4=0:=du hl.2
   split at cf
   ·rename_i x0 wZ
    simp only[cm]at cf
    obtain⟨⟨k2,xs⟩,lT,cf⟩:=cf
    simp only at cf
    split at cf
    ·rename_i x1 Qc
     simp only[bc]at cf
     subst cf
     obtain⟨hr,hm⟩:=hw.gX y
     obtain⟨vG,_⟩:=hw.gX x
     rw[hx]at vG
     obtain⟨p,b,n,cap,i,hp,hH,hi,jI,adH⟩:=vG
     simp only[lO,bc]at hp
     subst hp
     unfold cellsOf at jW
     split at jW
     ·rename_i ag es0 dN
      cases jW
      rw[dN]at hr hm
      have rS:=Pj hr
      have m5:=rS.length
      have hvl:(a.eval y).cells.toList.length=ti.sz:=by rw[<-m5,hlen]
      obtain⟨a1,a2,a3,a4,mv,W1,a5,a6,a7,a8,a9⟩:=ND hw (show kl ⟨s.only R,[],ct,[]⟩ ⟨s.only R,[],ct,[]⟩ [] from⟨rfl,λr=>by simp[St.look]⟩) (λr u h=>by cases h) rS hm lT 0
      rw[List.append_nil]at a5
      have dJ:=hw.obj id
      rw[wZ]at dJ
      obtain⟨tt,ya,bu⟩:=dJ
      have vK:W1.look (.o id)=none:=by
       cases hl:W1.look (.o id)with
       |none=>rfl
       |some u=>
        obtain⟨_,j,_,rfl,_,_⟩:=a7 _ _ hl
        have:k2.get (.o id)=.un:=by unfold Wk.get;rw[a5.2,hl];simp
        rw[this]at Qc;cases Qc
      have Qd:∀q j,(q,j)∈mv->j≠id:=by
       intro q j hq he
       subst he
       have:=(a6 q j hq).2.2.1
       rw[vK]at this;cases this
      have at7:km mv id=none:=by
       cases hm:km mv id with
       |none=>rfl
       |some q=>exact absurd rfl (Qd q id (De hm))
      obtain⟨at8,t',kj,BF⟩:=Wk.bK fi
      cases bu with
      |nil qX=>rw[hH]at qX;cases qX
      | @l _ _ rows b' CW qT bE elem cv g1 g2 g3 g4 g5 g6 g7 g8 g9 rQ zh=>
       rw[hH]at g1
       cases g1
       simp only[List.map_cons]at kj
       obtain⟨r,nY,pY,BG,sT,rfl⟩:=adF ya hi kj
       have rX:=a9 mv (λ_ _=>rfl) λj t ⟨xx,hxx,ht⟩ q7=>by
        refine zH _ _ sT j t ?_ ?_
        ·cases Dh:ti.zero[j]? with
         |none=>rw[Dh]at q7;cases q7
         |some zc=>rw[Dh]at q7;simp at q7;simp[Dh,q7]
        ·rw[List.getElem?_map,hxx];simp[Lf.bG ht]
       obtain⟨b1,b3⟩:=rX.at
       have tV:r.length=CW:=g6 r (List.mem_of_getElem? nY)
       have mz:wd=CW:=by rw[<-pY,tV]
       subst mz
       have nj:(xs.map (Lf.ev ρ)).length=(a.eval y).cells.toList.length:=by rw[List.length_map,b1]
       have hT:=dC.ty _ _ fj
       have hib:i<rows.length:=(List.getElem?_eq_some_iff.1 nY).1
       have kQ:i*wd+off+(a.eval y).cells.toList.length<=bE.size:=by
        rw[g5]
        have:(i+1)*wd<=cap*wd:=Nat.mul_le_mul_right _ (by omega)
        rw[Nat.add_mul]at this
        omega
       have d_:=qU_ (P:=P) (t:=t) hT (b:=b) (off:=i*wd+off) (v:=a.eval y) (by rw[<-hvl];simp) g4 (by simpa using kQ) (λu hu=>rS.one u hu)
       rw[<-adH]at d_
       have gp:=C4 (P:=P) ho d_
       generalize Qf:(bE.toList.take (i*wd+off)++(a.eval y).cells.toList++bE.toList.drop (i*wd+off+(a.eval y).cells.toList.length)).toArray=iG at gp
       have zL:iG=wV (a.eval y).cells.toList (i*wd+off) bE:=by
        rw[<-Qf]
        exact Array.ext' (by rw[jy_ _ _ _ kQ])
       have sJ:∀k,iG[k]?=if i*wd+off<=k∧k<i*wd+off+(a.eval y).cells.toList.length then(a.eval y).cells.toList[k-(i*wd+off)]? else bE[k]?:=λk=>by rw[zL];exact Nv _ _ _ _ kQ
       have sV:M id:=(hw.rel.gx b _ g3).1
       have Di:∀i' j' ,i'<rows.length->j'<wd->((i*wd+off<=i'*wd+j'∧i'*wd+j'<i*wd+off+(a.eval y).cells.toList.length)↔(i'=i∧off<=j'∧j'<off+(a.eval y).cells.toList.length)):=by
        intro i' j' dM pM
        rw[nj]at BG
        constructor
        ·rintro⟨h1,h2⟩
         have qO:i'=i:=by
          rcases Nat.lt_trichotomy i' i with a_|heq|C2
          ·have:(i'+1)*wd<=i*wd:=Nat.mul_le_mul_right _ a_
           rw[Nat.add_mul]at this;omega
          ·exact heq
          ·have:(i+1)*wd<=i'*wd:=Nat.mul_le_mul_right _ C2
           rw[Nat.add_mul]at this;omega
         subst qO
         exact⟨rfl,by omega,by omega⟩
        ·rintro⟨rfl,h1,h2⟩
         omega
       let ts:=xs.map (Lf.ev ρ)
       let G':=G.stored id i off (a.eval y).cells.toList.length mv
       have hK:da (ng (eP d o .un++((bf.o id,SV.ob true (k2.em (.gU (ti.zero.map λz=>!eX z) wd off) (x0::ix::xs)).2)::W1))) (λ_=>False) G w G' (w.setRow b iG):=by
        have jf:∀j p,¬ng (eP d o .un++((bf.o id,SV.ob true (k2.em (.gU (ti.zero.map λz=>!eX z) wd off) (x0::ix::xs)).2)::W1)) (.o j p)->j≠id∧km mv j=none:=by
         intro j p hj
         constructor
         ·intro e
          subst e
          refine hj ?_
          show St.look _ (bf.o j)≠none
          rw[jX]
          intro e
          have:=(Option.or_eq_none_iff.1 e).2
          simp[St.look,bf.beq]at this
         ·cases hm:km mv j with
          |none=>rfl
          |some q=>
           exfalso
           refine hj ?_
           show St.look _ (bf.o j)≠none
           rw[jX]
           intro e
           have h1:=(Option.or_eq_none_iff.1 e).2
           have h2:=(a6 q j (De hm)).2.2.1
           simp only[St.look]at h1
           cases hb:(bf.o id).beq (.o j)with
           |true=>rw[hb]at h1;cases h1
           |false=>rw[hb]at h1;simp only[cond_false]at h1;rw[h2]at h1;cases h1
        refine⟨by rw[Ga];exact Nat.le_refl _,λc hc h0=>⟨sC h0 (λh1=>by simp[G',Gh.stored,h1]) λl hl hq=>?_,setRow_other _ _ _ _ λe=>?_⟩,λc hc h0=>by simp[G',Gh.stored,h0],λc l hc hn=>⟨?_,setRow_other _ _ _ _ λe=>?_⟩,λj _=>⟨rfl,λp hp=>?_⟩⟩
        ·exact Gh.w_ (by omega) hl hq
        ·subst e;exact sB g3 (CM (by omega)) h0
        ·cases l with
         |f=>simp[G',Gh.stored,hc]
         |x j=>simp[G',Gh.stored,hc]
         |o j p=>obtain⟨h1,h2⟩:=jf j p hn;simp[G',Gh.stored,hc,h1,h2]
        ·subst e
         rw[g3]at hc
         cases hc
         exact(jf id [] hn).1 rfl
        ·by_cases hj:j=id
         ·subst hj
          rcases hp with rfl|hp|hp
          ·simp[G',Gh.stored]
          ·omega
          ·exact absurd rfl (jf j [] (hp [])).1
         ·simp[G',Gh.stored,hj]
       refine⟨?_,by rw[mw];show k2.ct.i=ct.i;rw[a1]⟩
       simp only[bH,Oper.wp,gp,Oper.upon]
       have hWk:∀r',(bP d o ((k2.em (.gU (ti.zero.map λz=>!eX z) wd off) (x0::ix::xs)).1.set (.o id) (.ob true (k2.em (.gU (ti.zero.map λz=>!eX z) wd off) (x0::ix::xs)).2)) .un).w.look r'=
         (St.look (eP d o .un++((bf.o id,SV.ob true (k2.em (.gU (ti.zero.map λz=>!eX z) wd off) (x0::ix::xs)).2)::W1)) r').or (St.look (Wk.w ⟨s.only R,[],ct,[]⟩) r'):=by
        refine uL (W2:=(bf.o id,SV.ob true (k2.em (.gU (ti.zero.map λz=>!eX z) wd off) (x0::ix::xs)).2)::W1) (λr'=>?_)
        rw[show((k2.em (.gU (ti.zero.map λz=>!eX z) wd off) (x0::ix::xs)).1.set (.o id) (.ob true (k2.em (.gU (ti.zero.map λz=>!eX z) wd off) (x0::ix::xs)).2)).w.look r'=_ from rT r']
        rw[show(k2.em (.gU (ti.zero.map λz=>!eX z) wd off) (x0::ix::xs)).1.w.look r'=k2.w.look r' from rfl,a5.2 r',<-Option.or_assoc]
        congr 1
        simp only[St.look]
        cases(bf.o id).beq r'<;>simp
       refine⟨G',F7 h hw (W2:=eP d o .un++((bf.o id,SV.ob true (k2.em (.gU (ti.zero.map λz=>!eX z) wd off) (x0::ix::xs)).2)::W1)) hWk hK (λi hi=>hi.elim) (λi hi=>hi) (λn m4=>F8 m4) (HW _ _ _) ?_,x_ _ _ _⟩
       have zM:∀c,c≠b->(w.setRow b iG).heap[c]?=w.heap[c]?:=λc hc=>setRow_other _ _ _ _ hc
       have Qg:(w.setRow b iG).heap[b]?=some (.cells iG elem (0,0)):=setRow_heap _ _ _ _ _ _ g4
       have Qh:eg G' (w.setRow b iG) id true [] (.l (setRow rows i off ts)):=by
        have Il:=λi' j'=>HU (xs:=rows) (ts:=ts) nY BG i' j'
        have NG:ts.length=(a.eval y).cells.toList.length:=nj
        refine .l (wd:=wd) (cv:=λi' j'=>iG.getD (i'*wd+j') undef) (by rw[BE];simpa[G',Gh.stored]using hH) ⟨by rw[BE];exact g2.1,λhe=>g2.2 (by have:=congrArg List.length he;rw[BE]at this;exact List.eq_nil_of_length_eq_zero this)⟩ (by simp[G',Gh.stored,g3]) Qg
         (by rw[zL,HO];exact g5) (Po g6 nY BG) ?_ ?_ (λ_ _ _ _ hf=>by cases hf) ?_ ?_
        all_goals
         intro i' j'
         have Dj:∀t,dr (setRow rows i off ts) i' j'=some t->i'<rows.length∧j'<wd:=by
          intro t ht
          obtain⟨rr,_,ic,_,q1,q2⟩:=rO ht
          rw[BE]at q1
          exact⟨q1,by rw[<-Po g6 nY BG rr ic];exact q2⟩
        ·intro t ht
         obtain⟨q1,q2⟩:=Dj t ht
         have a_:i'*wd+j'<iG.size:=by
          rw[zL,HO,g5]
          exact Nat.lt_of_lt_of_le (zv q1 q2) (Nat.mul_le_mul_right _ g2.1)
         simp[Array.getD_eq_getD_getElem?,a_]
        ·intro v ht
         obtain⟨q1,q2⟩:=Dj _ ht
         rw[Il]at ht
         rw[Array.getD_eq_getD_getElem?,sJ]
         split at ht
         ·rename_i hc
          rw[NG]at hc
          rw[if_pos ((Di i' j' q1 q2).2 hc)]
          obtain⟨u,hu,mJ⟩:=b3 (j'-off) _ ht
          rw[show i'*wd+j'-(i*wd+off)=j'-off by rw[hc.1];omega,hu]
          rcases mJ with⟨u',e1,e2,e3⟩|⟨e1,_⟩|⟨_,_,_,e1⟩
          ·cases e1;subst e2;exact⟨rfl,e3⟩
          ·cases e1
          ·cases e1
         ·rename_i hc
          rw[NG]at hc
          rw[if_neg (λhh=>hc ((Di i' j' q1 q2).1 hh)),g7 i' j' _ ht]
          exact g8 i' j' v ht
        ·intro ys ht _
         obtain⟨q1,q2⟩:=Dj _ ht
         rw[Il]at ht
         rw[Array.getD_eq_getD_getElem?,sJ]
         split at ht
         ·rename_i hc
          rw[NG]at hc
          rw[if_pos ((Di i' j' q1 q2).2 hc)]
          obtain⟨u,hu,mJ⟩:=b3 (j'-off) _ ht
          rw[show i'*wd+j'-(i*wd+off)=j'-off by rw[hc.1];omega,hu]
          rw[Nat.zero_add]at mJ
          rcases mJ with⟨u',e1,_⟩|⟨e1,e2,e3⟩|⟨i2,e1,e2,_⟩
          ·cases e1
          ·have rY:i'=i∧off<=j'∧j'<off+(a.eval y).cells.size:=by simpa using hc
           simp[G',Gh.stored,rY,e2,e3]
          ·have rY:i'=i∧off<=j'∧j'<off+(a.eval y).cells.size:=by simpa using hc
           simp[G',Gh.stored,rY,e2,e1]
         ·rename_i hc
          rw[NG]at hc
          rw[if_neg (λhh=>hc ((Di i' j' q1 q2).1 hh)),g7 i' j' _ ht]
          have:=rQ i' j' ys ht rfl
          simp only[List.nil_append]at this
          simp only[Option.getD_some,this,List.nil_append]
          show _=(if id=id then _ else _)
          rw[if_pos rfl]
          simp only[if_neg hc]
        ·intro ys ht _
         obtain⟨q1,q2⟩:=Dj _ ht
         rw[Il]at ht
         split at ht
         ·rename_i hc
          rw[NG]at hc
          obtain⟨u,hu,mJ⟩:=b3 (j'-off) _ ht
          rw[Nat.zero_add]at mJ
          rcases mJ with⟨u',e1,_⟩|⟨e1,e2,e3⟩|⟨i2,e1,e2,e3⟩
          ·cases e1
          ·cases e1
           have rY:i'=i∧off<=j'∧j'<off+(a.eval y).cells.size:=by simpa using hc
           exact .nil (by simp[G',Gh.stored,rY,e3])
          ·have m6:=(a8 _ i2 (zI e1)).2
           have dj:=Qd _ i2 (zI e1)
           refine e3.move rfl (λc q jm=>?_) λq=>?_
           ·simp only[List.nil_append]at jm
            refine⟨?_,zM c λe=>?_⟩
            ·simp only[G',Gh.stored,jm,if_neg dj,m6]
             rw[hc.1,show off+(j'-off)=j' by omega]
             rfl
            ·subst e;rw[g3]at jm;cases jm;exact dj rfl
           ·simp only[G',Gh.stored,List.nil_append,List.cons_append,if_true,if_pos hc,e1]
         ·rename_i hc
          rw[NG]at hc
          have:=zh i' j' ys ht rfl
          simp only[List.nil_append]at this⊢
          refine this.move rfl (λc q jm=>?_) λq=>?_
          ·refine⟨?_,zM c λe=>?_⟩
           ·simp only[List.cons_append,List.nil_append]at jm⊢
            simp only[G',Gh.stored,jm,if_true,if_neg hc]
           ·subst e;rw[g3]at jm;cases jm
          ·simp only[G',Gh.stored,List.cons_append,List.nil_append,if_true,if_neg hc]
       refine⟨λe n u he hl=>?_,λb u hl=>?_,λj u hl=>?_,λr u hl j hj=>?_,λj hj=>?_,λc l hc=>?_⟩
       ·rcases jD hl with⟨n',gm,e1,rfl⟩|hl
        ·trivial
        ·rcases iH hl with⟨e1,_⟩|hl
         ·cases e1
         ·obtain⟨_,j,e1,_⟩:=a7 _ _ hl;cases e1
       ·rcases jD hl with⟨n',gm,e1,rfl⟩|hl
        ·cases e1
        ·rcases iH hl with⟨e1,_⟩|hl
         ·cases e1
         ·obtain⟨_,j,e1,_⟩:=a7 _ _ hl;cases e1
       ·rcases jD hl with⟨n',gm,e1,rfl⟩|hl
        ·cases e1
        ·rcases iH hl with⟨e1,rfl⟩|hl
         ·cases e1;exact⟨_,BF,Qh⟩
         ·obtain⟨_,j',e1,rfl,_⟩:=a7 _ _ hl;trivial
       ·rcases jD hl with⟨n',gm,e1,rfl⟩|hl
        ·simp[cT]at hj
        ·rcases iH hl with⟨e1,rfl⟩|hl
         ·simp[cT]at hj
         ·obtain⟨_,j',e1,rfl,_⟩:=a7 _ _ hl;simp[cT]at hj
       ·have:∀r:bf,(r=.x j∨r=.o j)->St.look (eP d o .un++((bf.o id,SV.ob true (k2.em (.gU (ti.zero.map λz=>!eX z) wd off) (x0::ix::xs)).2)::W1)) r≠none->M j:=by
         intro r hr hl
         obtain⟨u,hu⟩:=Option.ne_none_iff_exists'.1 hl
         rcases jD hu with⟨n',gm,e1,rfl⟩|hl
         ·rcases hr with rfl|rfl<;>cases e1
         ·rcases iH hl with⟨e1,_⟩|hl
          ·rcases hr with rfl|rfl
           ·cases e1
           ·cases e1;exact sV
          ·obtain⟨_,j',e1,_,hm,_⟩:=a7 _ _ hl
           rcases hr with rfl|rfl
           ·cases e1
           ·cases e1;exact hm
        rcases hj with hj|hj
        ·exact this _ (.inl rfl) hj
        ·exact this _ (.inr rfl) hj
       ·rw[Ga]
        cases Qj:G.ω c with
        |none=>simp[G',Gh.stored,Qj]at hc
        |some l'=>
         have jU:=hw.rel.gx c l' Qj
         refine⟨?_,jU.2⟩
         cases l' with
         |f=>simp[G',Gh.stored,Qj]at hc;subst hc;exact jU.1
         |x j=>simp[G',Gh.stored,Qj]at hc;subst hc;exact jU.1
         |o j p=>
          simp only[G',Gh.stored,Qj]at hc
          split at hc
          ·rename_i hj
           subst hj
           split at hc
           ·cases hc;exact sV
           ·split at hc
            ·cases hc
            ·cases hc;exact sV
          ·split at hc
           ·cases hc;exact sV
           ·cases hc;exact jU.1
     ·cases jW
    ·cases cf
   ·cases cf
 ·cases cf
theorem Qk{k kw:Wk}{G1 G2:Gh}{j:Nat}{W1:St}{V:SV}{val:Value}(h:Rel M B d up s ρ G a w)(hk:db M B d up ρ G a w k G1)(hn:∀n,o.dst=some n->n<a.tmps.size)(hM:¬M j)
  (K:da (ng W1) (λi=>i=j) G1 w G2 w)(PF:∀r,kw.w.look r=(W1.look r).or (k.w.look r))
  (vK:∀r u,W1.look r=some u->∃i,r=.o i∧cA G2 w ρ i u∧(M i∨i=j)∧∀x∈cT u,M x∨x=j)
  (hV:cz G2 w ρ V val)(ie:∀i∈cT V,M i∨i=j)(je:∀b l,G2.ω b=some l->(M l.id∨l.id=j)∧b<w.heap.size)
  (hx:(execOp a.eval o).run P w=.ok (.value val) w):bH P (Mn M j (j+1)) B d up ρ a w s o (bP d o kw V).w Q:=by
 have mn:∀{i:Nat},(M i∨i=j)->Mn M j (j+1) i:=λh=>h.imp_right λe=>by subst e;exact⟨Nat.le_refl _,Nat.lt_succ_self _⟩
 have K2:da (ng (eP d o V++W1)) (λi=>i=j) G1 w G2 w:=K.mono (λl hl=>by
  cases l with
  |f=>exact hl
  |x b=>
   exfalso
   obtain⟨u,hu⟩:=Option.ne_none_iff_exists'.1 hl
   obtain⟨i,e1,_⟩:=vK _ _ hu
   cases e1
  |o i p=>
   show St.look _ (bf.o i)≠none
   rw[jX]
   exactλe=>hl (Option.or_eq_none_iff.1 e).2) λ_ hi=>hi
 simp only[bH,Oper.wp,hx,Oper.upon]
 refine⟨G2,F7 h hk (W2:=eP d o V++W1) (uL (W2:=W1) PF) K2 (λi hi=>by subst hi;exact hM) (λi hi=>.inl hi) (λn m4=>F8 m4) ⟨rfl,rfl,rfl⟩ ?_,x_ _ _ _⟩
 refine⟨λe n u he hl=>?_,λb u hl=>?_,λi u hl=>?_,λr u hl i hi=>?_,λi hi=>?_,λb l hb=>⟨mn (je b l hb).1,(je b l hb).2⟩⟩
 ·rcases jD hl with⟨n',gm,e1,rfl⟩|hl
  ·cases e1
   rw[gm,Nr (hn _ gm)]
   exact hV
  ·obtain⟨i,e1,_⟩:=vK _ _ hl;cases e1
 ·rcases jD hl with⟨n',gm,e1,rfl⟩|hl
  ·cases e1
  ·obtain⟨i,e1,_⟩:=vK _ _ hl;cases e1
 ·rcases jD hl with⟨n',gm,e1,rfl⟩|hl
  ·cases e1
  ·obtain⟨i',e1,e2,_⟩:=vK _ _ hl;cases e1;exact e2
 ·rcases jD hl with⟨n',gm,e1,rfl⟩|hl
  ·exact mn (ie i hi)
  ·obtain⟨i',e1,_,_,e4⟩:=vK _ _ hl;exact mn (e4 i hi)
 ·have:∀r:bf,(r=.x i∨r=.o i)->St.look (eP d o V++W1) r≠none->Mn M j (j+1) i:=by
   intro r hr hl
   obtain⟨u,hu⟩:=Option.ne_none_iff_exists'.1 hl
   rcases jD hu with⟨n',gm,e1,rfl⟩|hl
   ·rcases hr with rfl|rfl<;>cases e1
   ·obtain⟨i',e1,_,e3,_⟩:=vK _ _ hl
    rcases hr with rfl|rfl
    ·cases e1
    ·cases e1;exact mn e3
  rcases hi with hi|hi
  ·exact this _ (.inl rfl) hi
  ·exact this _ (.inr rfl) hi
def Gh.al(G:Gh)(j:Nat)(v:Value)(hv:∃a n c,v=.slice a n c):Gh where
 ω:=G.ω
 β:=G.β
 H:=λi=>if i=j thenλ_=>v else G.H i
 hs:=λi p=>by
  by_cases h:i=j
  ·simp only[h,if_true];exact hv
  ·simp only[h,if_false];exact G.hs i p
theorem adI{j:Nat}{v:Value}{hv:∃a n c,v=.slice a n c}{I:Lb->Prop}:da I (λi=>i=j) G w (G.al j v hv) w:=
 ⟨Nat.le_refl _,λb _ hb=>⟨hb,rfl⟩,λb _ hb=>hb,λb l hl _=>⟨hl,rfl⟩,λi hi=>⟨rfl,λp _=>by simp[Gh.al,hi]⟩⟩
theorem adJ{ω:Nat->Option Lb}{H:List (Nat×Nat)->Value}{n l h sz:Nat}{ao:Option Addr}{len cap:Nat}{xs:List (List T)}(hd:eB ω w (.l xs) (.slice ao len cap))(hh:nV w H n (.slice ao len cap) xs)(uO:l<=h)(hx:h<=xs.length)(lH:xs.length<=cap)(dQ:okW sz xs=true):
  nV w H (n+l) (sliced ao l h cap sz) ((xs.take h).drop l):=by
 intro b off k c hv
 unfold sliced at hv
 by_cases he:l=h
 ·refine⟨0,λr hr=>?_,λi j ys bq=>?_⟩
  ·subst he;simp at hr
  ·subst he;simp[dr]at bq
 ·have dj:¬(cap=l):=by omega
  rw[if_neg dj]at hv
  cases hd with
  |nil=>simp at hx;omega
  | @l _ b0 zN wd0 _ cv0 g1 g2 g3 g4 g5 g6=>
   simp only[Option.map_some,Addr.add_lit]at hv
   cases hv
   obtain⟨wd,h1,h2⟩:=hh b zN _ _ rfl
   have mz:wd=sz:=by
    cases xs with
    |nil=>simp at hx;omega
    |cons r xs=>rw[<-h1 r (by simp)];exact du dQ
   subst mz
   refine⟨wd,λr hr=>h1 r (List.mem_of_mem_take (List.mem_of_mem_drop hr)),λi j ys bq=>?_⟩
   have:=h2 _ _ _ (HX bq)
   rw[Nat.add_mul]at this
   rw[show zN+l*wd+(i*wd+j)=zN+(l*wd+i*wd+j) by omega,this,Nat.add_assoc]
theorem adK{k k1:Wk}{G1:Gh}(hk:db M B d up ρ G a w k G1){x:Operand}{ls:List Lf}{f:Operand->SV}(hf:cz G1 w ρ (f x) (a.eval x))
  (h:oC k f (some x)=some (k1,ls))(hd:k1.bm S ρ):∃y t,ls=[y]∧y.fq ρ=some t∧eB (er G1.ω) w t (a.eval x):=by
 simp only[oC,cm,bc,Prod.mk.injEq]at h
 obtain⟨⟨k2,y⟩,h1,rfl,rfl⟩:=h
 obtain⟨_,_,t,e3,e4⟩:=Wk.fY hk h1 hd hf
 exact⟨y,t,rfl,e3,e4⟩
theorem adL(dC:dU P cx)(h:Rel M B d up s ρ G a w)(hn:∀n,o.dst=some n->n<a.tmps.size){t:Nat}{x:Operand}{lo hi mx:Option Operand}(ho:o.op=.slice t x lo hi mx)
  {kv:Wk×SV}(gE:(bif mx.isSome then none else yO cx ⟨s.only R,[],ct,[]⟩ t (bY d (Wk.get ⟨s.only R,[],ct,[]⟩) x) (lo.map (bY d (Wk.get ⟨s.only R,[],ct,[]⟩))) (hi.map (bY d (Wk.get ⟨s.only R,[],ct,[]⟩))))=some kv)
  (hk:bP d o kv.1 kv.2=k')(hd:k'.bm S ρ)(hM:∀i,ct.i<=i->i<k'.ct.i->¬M i):bH P (Mn M ct.i k'.ct.i) B d up ρ a w s o k'.w Q:=by
 have hw:=db.start h R ct
 cases mx with
 |some m=>simp at gE
 |none=>
  simp only[Option.isSome_none,cond_false]at gE
  have PB:=(hw.gX x).1
  have sU:=(hw.gX x).2
  unfold yO at gE
  split at gE
  ·rename_i id dN
   rw[dN]at PB sU
   split at gE
   ·rename_i tk x0 l0 y ie
    simp only[cm]at gE
    obtain⟨ti,fj,te,nZ,gE⟩:=gE
    cases hc:(Nat.beq ti.kd 3&&FZ l0)with
    |false=>simp[hc]at gE
    |true=>
     simp only[hc,cond_true,cm,bc]at gE
     simp only[bA]at hc
     obtain⟨⟨k3,ls⟩,h1,⟨k4,hs⟩,h2,xa⟩:=gE
     have nk:oC ⟨s.only R,[],ct,[]⟩ (bY d (Wk.get ⟨s.only R,[],ct,[]⟩)) lo=some (k3,ls):=by
      cases lo with
      |none=>exact h1
      |some l=>exact h1
     have uP:oC k3 (bY d (Wk.get ⟨s.only R,[],ct,[]⟩)) hi=some (k4,hs):=by
      cases hi with
      |none=>exact h2
      |some l=>exact h2
     subst xa
     have cJ:bP d o {((k4.em (.sub te.sz lo.isSome hi.isSome) (y::(ls++hs))).1.set (.o (eE k4.ct.i)) (.fz (.w tk x0 (ls.headD (.k (.int .i64 0)))) (k4.em (.sub te.sz lo.isSome hi.isSome) (y::(ls++hs))).2))with
       ct:=⟨(k4.em (.sub te.sz lo.isSome hi.isSome) (y::(ls++hs))).1.ct.a,eE k4.ct.i+1⟩} (.v false [.o (eE k4.ct.i) []])=k':=by
      rw[<-hk]
      cases lo<;>cases hi<;>rfl
     have fi:(k4.em (.sub te.sz lo.isSome hi.isSome) (y::(ls++hs))).1.bm S ρ:=by
      rw[<-cJ]at hd
      have h2:=cF.1 hd
      exact h2
     obtain⟨F5,r,hr,mZ⟩:=Wk.bK fi
     have gX:∀z,cz G w ρ (bY d (Wk.get ⟨s.only R,[],ct,[]⟩) z) (a.eval z):=λz=>(hw.gX z).1
     have Gk:∀{ka kb:Wk} {b:Option Operand} {zs:List Lf},oC ka (bY d (Wk.get ⟨s.only R,[],ct,[]⟩)) b=some (kb,zs)->ka.eO kb:=by
      intro ka kb b zs hb
      unfold oC at hb
      split at hb
      ·simp only[bc,Prod.mk.injEq]at hb;obtain⟨rfl,_⟩:=hb;exact .refl _
      ·simp only[cm,bc,Prod.mk.injEq]at hb
       obtain⟨⟨k5,y5⟩,h5,rfl,_⟩:=hb
       unfold Wk.one at h5
       split at h5
       ·exact Wk.dF h5
       ·cases h5
     have s3:=Gk nk
     have s4:=Gk uP
     obtain⟨yb,_,nh⟩:=C7 (hw.same s3) (f:=bY d (Wk.get ⟨s.only R,[],ct,[]⟩)) (λz _=>gX z) uP F5
     obtain⟨_,_,lI⟩:=C7 hw (f:=bY d (Wk.get ⟨s.only R,[],ct,[]⟩)) (λz _=>gX z) nk yb
     have dJ:=hw.obj id
     rw[ie]at dJ
     obtain⟨tz,hy,dK,zC,F,n0,zs,hF,sR,rfl,w5,sG,zl⟩:=dJ
     have wU:n0=0:=HL hc.2 sR
     subst wU
     simp only[List.map_cons,Lf.bG hy]at hr
     obtain⟨xs,hxs,dQ,hr⟩:=PA hr
     cases hxs
     obtain⟨l,hh,Gl,m5,tT⟩:=HY (F:=λl h=>if 0<=l then(if l<=h then(if h<=zs.length then some (T.l ((zs.take h.toNat).drop l.toNat))else none)else none)else none) lI nh hr
     split at Gl
     ·rename_i h0
      split at Gl
      ·rename_i uO
       split at Gl
       ·rename_i PD
        simp only[bc]at Gl
        subst Gl
        obtain⟨e,he,oJ,_⟩:=PB
        cases he
        obtain⟨p,hp,gM⟩:=oJ
        simp only[lO,bc]at hp
        subst hp
        have zr:=dK
        rw[<-gM]at zr
        obtain⟨ao,cap,rR,lH⟩:=zr.rows
        have hT:=dC.ty _ _ fj
        have hE:=dC.ty _ _ nZ
        obtain⟨i,zz,rU,nl,_⟩:=hE.info
        have qX:zs.length<=cap:=by
         by_cases hz:zs=[]
         ·subst hz;simp
         ·exact lH hz
        have n3:=Pz (P:=P) (w:=w) (hT.sl (du hc.1)) ⟨i,rU,nl⟩ (ao:=ao) qX m5 tT h0 uO PD
        rw[<-rR]at n3
        have gp:(execOp a.eval o).run P w=.ok (.value (sliced ao l.toNat hh.toNat cap te.sz)) w:=
         BC (x:=Instr.sliceAt t (a.eval x) (lo.map a.eval) (hi.map a.eval) none) (by unfold execOp;rw[ho];rfl) n3
        have hsv:∃a n c,sliced ao l.toNat hh.toNat cap te.sz=.slice a n c:=by unfold sliced;exact⟨_,_,_,rfl⟩
        rw[rR]at zr
        have jd:=zr.sub (l:=l.toNat) (h:=hh.toNat) (sz:=te.sz) (by omega) (by omega) dQ
        have jV:k4.ct.i=ct.i:=by rw[s4.i,s3.i]
        have oB:k'.ct.i=eE ct.i+1:=by rw[<-cJ,mw,<-jV]
        have jl:=yM ct.i
        rw[oB,<-cJ,<-jV]
        refine bH.mono (M:=Mn M (eE k4.ct.i) (eE k4.ct.i+1)) ?_ (λi hi=>hi.imp_right λhi=>by rw[jV]at hi⊢;exact⟨by omega,hi.2⟩)
        have sV:M id:=sU id (by simp[cT,dt])
        have zO:M tk:=hw.rel.fD (.o id) tk (by rw[<-Wk.aM,ie];simp[cT])
        have Gj:¬M (eE k4.ct.i):=hM _ (by rw[jV];exact jl) (by rw[oB,jV];omega)
        have dj:tk≠eE k4.ct.i:=λe=>Gj (e▸zO)
        refine Qk (j:=eE k4.ct.i) (G2:=G.al (eE k4.ct.i) (sliced ao l.toNat hh.toNat cap te.sz) hsv) (W1:=[(.o (eE k4.ct.i),.fz (.w tk x0 (ls.headD (.k (.int .i64 0)))) (k4.em (.sub te.sz lo.isSome hi.isSome) (y::(ls++hs))).2)])
         h (hw.same (s3.trans (s4.trans (Wk.bB k4 (.sub te.sz lo.isSome hi.isSome) (y::(ls++hs)))))) hn Gj adI (λr=>by rw[sH];exact rT (k:=(k4.em (.sub te.sz lo.isSome hi.isSome) (y::(ls++hs))).1) r▸(by rw[sH])) (λr u hl=>?_) ?_ (λi hi=>by simp[cT,dt]at hi;exact .inr hi) (λb l hb=>⟨.inl (hw.rel.gx b l hb).1,(hw.rel.gx b l hb).2⟩) gp
        ·rcases iH hl with⟨e1,e2⟩|hl
         ·subst e1 e2
          refine⟨_,rfl,⟨_,mZ,?_,zC,F,l.toNat,_,hF,?_,rfl,λi r hg=>?_,?_,λsR b off k c hv=>?_⟩,.inr rfl,λi hi=>by simp[cT]at hi;subst hi;exact .inl zO⟩
          ·simpa[Gh.al,Gh.q]using jd
          ·rcases m5 with⟨e1,rfl⟩|⟨kk,e1⟩
           ·rcases lI with⟨rfl,rfl⟩|⟨z,yy,tt,rfl,_⟩
            ·simp[ll,Lf.fq,jH]
            ·simp at e1
           ·cases lo with
            |none=>simp at e1
            |some z=>
             obtain⟨yy,tt,e5,ht,lQ⟩:=adK hw (gX z) nk yb
             subst e5
             simp only[Option.map_some,bc]at e1
             rw[e1]at lQ
             have htt:tt=.c (.int kk l):=by
              generalize hq:Value.int kk l=q at lQ
              cases lQ with
              |c _=>rfl
              |nil=>cases hq
              |l=>cases hq
             rw[htt]at ht
             simp only[List.headD_cons]
             exact Pc ht h0
          ·rw[List.getElem?_drop,List.getElem?_take]at hg
           split at hg
           ·have:=w5 _ _ hg
            rw[Nat.zero_add]at this
            exact this
           ·cases hg
          ·have h3:nV w (G.H tk) 0 (.slice ao zs.length cap) zs:=by rw[<-rR,gM];exact sG
           have h4:=adJ zr h3 (l:=l.toNat) (h:=hh.toNat) (sz:=te.sz) (by omega) (by omega) qX dQ
           rw[Nat.zero_add]at h4
           simpa[Gh.al,dj]using h4
          ·simp only[Gh.al,if_true]at hv
           have hl:l.toNat=0:=sR
           unfold sliced at hv
           rw[hl]at hv
           split at hv
           ·cases hv
            exact zl rfl b off _ _ (by rw[<-gM];exact rR)
           ·generalize rM:Value.slice ao zs.length cap=vv at zr
            cases zr with
            |nil=>
             cases rM
             rename_i aa _
             cases ao with
             |none=>simp at hv
             |some ad=>
              obtain⟨b0,zN,r0⟩:=ad
              cases r0 with
              |none=>
               simp only[Option.map_some,Addr.add_lit,Nat.zero_mul,Nat.add_zero]at hv
               cases hv
               exact zl rfl b off _ _ (by rw[<-gM];exact rR)
              |some sp=>simp[Addr.add]at hv
            | @l _ b0 zN wd0 _ cv0 g1 g2 g3 g4 g5 g6=>
             cases rM
             simp only[Option.map_some,Addr.add_lit,Nat.zero_mul,Nat.add_zero]at hv
             cases hv
             exact zl rfl b off _ _ (by rw[<-gM];exact rR)
         ·cases hl
        ·exact⟨_,rfl,⟨[],rfl,by simp[Gh.al]⟩,λz hz=>by unfold sliced at hz;cases hz⟩
       ·cases Gl
      ·cases Gl
     ·cases Gl
   ·cases gE
  ·cases gE
theorem Wk.nr:∀(zs:List Ce) (k:Wk) (y ix:Lf) (j wd off:Nat),k.eO (k.l9 y ix j wd off zs).1
 | [],k,_,_,_,_,_=>.refl k
 |z::zs,k,y,ix,j,wd,off=>by
  unfold Wk.l9
  cases eX z with
  |true=>exact(Wk.bB k _ _).trans (Wk.nr zs _ y ix j wd (off+1))
  |false=>exact(Wk.bB k _ _).trans (Wk.nr zs _ y ix j wd (off+1))
theorem Wk.mK:∀(zs:List Ce) (k:Wk) (y ix:Lf) (j wd off:Nat),(k.l9 y ix j wd off zs).1.bm S ρ->k.bm S ρ
 | [],_,_,_,_,_,_,h=>h
 |z::zs,k,y,ix,j,wd,off,h=>by
  unfold Wk.l9 at h
  cases hz:eX z with
  |true=>rw[hz]at h;exact(Wk.bK (Wk.mK zs _ y ix j wd (off+1) h)).1
  |false=>rw[hz]at h;exact(Wk.bK (Wk.mK zs _ y ix j wd (off+1) h)).1
theorem Wk.o7{y ix:Lf}{xs:List (List T)}{i wd j b base:Nat}{Hd:Nat->Value}(hx:y.fq ρ=some (.l xs))(hi:ll ρ ix=some i)
  (fP:∀r,xs[i]?=some r->r.length=wd->∀c t,r[c]?=some t->∃u,w.cell? ⟨b,base+c,none⟩=some u∧(∀v,t=.c v->u=v∧jH v=true)∧∀ys,t=.l ys->u=Hd c):
  ∀(zs:List Ce) (k:Wk) (off:Nat),(k.l9 y ix j wd off zs).1.bm S ρ->
   ∃vs:List Value,vs.length=zs.length∧(∀c v,vs[c]?=some v->w.cell? ⟨b,base+off+c,none⟩=some v)∧(∀i∈dt (k.l9 y ix j wd off zs).2.1,i=j)∧
    ((zs.filter eX).length=0->∀G1:Gh,aS G1 w ρ (k.l9 y ix j wd off zs).2.1 vs)∧
    ((zs.filter eX).length=1->∃r c0 ys,xs[i]?=some r∧r.length=wd∧r[c0]?=some (.l ys)∧(k.l9 y ix j wd off zs).2.2.fq ρ=some (.l ys)∧∀G1:Gh,G1.H j []=Hd c0->aS G1 w ρ (k.l9 y ix j wd off zs).2.1 vs)
 | [],k,off,_=>⟨[],rfl,λc v hc=>by simp at hc,λi hi=>by simp[Wk.l9,dt]at hi,λ_ _=>trivial,λh=>by simp at h⟩
 |z::zs,k,off,hd=>by
  unfold Wk.l9 at hd⊢
  cases hz:eX z with
  |true=>
   rw[hz]at hd
   simp only[cond_true]at hd⊢
   obtain⟨_,t,ht,BF⟩:=Wk.bK (Wk.mK zs _ _ _ _ _ (off+1) hd)
   obtain⟨ys,rfl,bq,r,h1,h2⟩:=CS hx hi ht
   have h3:r[off]?=some (.l ys):=by simpa[dr,h1]using bq
   obtain⟨u,h5,_,h6⟩:=fP r h1 h2 off _ h3
   obtain⟨vs,g1,g2,g3,g4,g5⟩:=Wk.o7 hx hi fP zs _ (off+1) hd
   refine⟨u::vs,by simp[g1],λc v hc=>?_,λi hi=>?_,λh0=>by simp[hz]at h0,λh1'=>⟨r,off,ys,h1,h2,h3,BF,λG1 hG=>⟨⟨[],rfl,by rw[h6 ys rfl,hG]⟩,g4 (by simpa[hz]using h1') G1⟩⟩⟩
   ·cases c with
    |zero=>simp at hc;subst hc;simpa using h5
    |succ c=>
     have:=g2 c v (by simpa using hc)
     rwa[show base+(off+1)+c=base+off+(c+1) by omega]at this
   ·simp only[dt,List.mem_cons]at hi
    rcases hi with hi|hi
    ·exact hi
    ·exact g3 i hi
  |false=>
   rw[hz]at hd
   simp only[cond_false]at hd⊢
   obtain⟨_,t,ht,BF⟩:=Wk.bK (Wk.mK zs _ _ _ _ _ (off+1) hd)
   obtain⟨r,h1,h2,h3,h4⟩:=HJ (sc:=true) hx hi ht
   obtain⟨c,rfl⟩:=uJ (h4 rfl)
   obtain⟨u,h5,h6,_⟩:=fP r h1 h2 off _ h3
   obtain⟨rfl,hs⟩:=h6 c rfl
   obtain⟨vs,g1,g2,g3,g4,g5⟩:=Wk.o7 hx hi fP zs _ (off+1) hd
   refine⟨u::vs,by simp[g1],λc v hc=>?_,λi hi=>g3 i (by simpa[dt]using hi),λh0 G1=>⟨⟨.c u,BF,.c hs⟩,g4 (by simpa[hz]using h0) G1⟩,λh1'=>?_⟩
   ·cases c with
    |zero=>simp at hc;subst hc;simpa using h5
    |succ c=>
     have:=g2 c v (by simpa using hc)
     rwa[show base+(off+1)+c=base+off+(c+1) by omega]at this
   ·obtain⟨r',c0,ys,e1,e2,e3,e4,e5⟩:=g5 (by simpa[hz]using h1')
    exact⟨r',c0,ys,e1,e2,e3,e4,λG1 hG=>⟨⟨.c u,BF,.c hs⟩,e5 G1 hG⟩⟩
theorem adN{m i r:T}(h:Prim.ev .wx [m,i]=some r):∃us kk n,m=.l us∧i=.c (.int kk n)∧0<=n∧n.toNat+1<=us.length∧qH us n.toNat 1=true∧r=.l (xX us n.toNat 1):=by
 cases m with
 |c v=>simp[Prim.ev]at h
 |l us=>
  cases i with
  |l _=>simp[Prim.ev]at h
  |c v=>
   cases v with
   |int kk n=>
    simp only[Prim.ev]at h
    split at h
    ·split at h
     ·split at h
      ·cases h
       exact⟨us,kk,n,rfl,rfl,by assumption,by assumption,by assumption,rfl⟩
      ·cases h
     ·cases h
    ·cases h
   |_=>simp[Prim.ev]at h
def Gh.jJ(G:Gh)(tk j i c0:Nat):Gh where
 ω:=λb=>match G.ω b with
  |some (.o n ((r,c)::p))=>if n=tk∧r=i∧c=c0 then some (.o j p)else some (.o n ((r,c)::p))
  |l=>l
 β:=G.β
 H:=λn=>if n=j thenλp=>G.H tk ((i,c0)::p)else G.H n
 hs:=λn p=>by
  by_cases h:n=j
  ·simp only[h,if_true];exact G.hs tk _
  ·simp only[h,if_false];exact G.hs n p
theorem adO{tk j i c0:Nat}(h4:j%4=2){I:Lb->Prop}(hI:∀p,I (.o tk p)):da I (λn=>n=j) G w (G.jJ tk j i c0) w:=by
 refine⟨Nat.le_refl _,λb _ hb=>⟨sC hb (λh0=>by simp[Gh.jJ,h0]) λl hl hq=>?_,rfl⟩,λb _ hb=>by simp[Gh.jJ,hb],λb l hl hn=>⟨?_,rfl⟩,λn hn=>⟨rfl,λp _=>by simp[Gh.jJ,hn]⟩⟩
 ·cases l with
  |o n p=>
   cases p with
   |nil=>exact .inr ⟨_,by simp[Gh.jJ,hl],hq⟩
   |cons x p=>
    obtain⟨r,c⟩:=x
    simp only[Gh.jJ,hl]
    split
    ·exact .inr ⟨_,rfl,HA h4⟩
    ·exact .inr ⟨_,rfl,hq⟩
  |_=>simp[qt]at hq
 ·cases l with
  |o n p=>
   cases p with
   |nil=>simp[Gh.jJ,hl]
   |cons x p=>
    obtain⟨r,c⟩:=x
    have:n≠tk:=λe=>hn (e▸hI _)
    simp[Gh.jJ,hl,this]
  |_=>simp[Gh.jJ,hl]
theorem adP(dC:dU P cx)(h:Rel M B d up s ρ G a w)(hn:∀n,o.dst=some n->n<a.tmps.size){x:Operand}{t:Nat}(ho:o.op=.load t x){kv:Wk×SV}
  (gE:Hj cx ⟨s.only R,[],ct,[]⟩ t (bY d (Wk.get ⟨s.only R,[],ct,[]⟩) x)=some kv)(hk:bP d o kv.1 kv.2=k')(hd:k'.bm S ρ)(hM:∀i,ct.i<=i->i<k'.ct.i->¬M i):
  bH P (Mn M ct.i k'.ct.i) B d up ρ a w s o k'.w Q:=by
 have hw:=db.start h R ct
 obtain⟨hr,hm⟩:=hw.gX x
 unfold Hj at gE
 split at gE
 ·rename_i id ix wd off dN
  rw[dN]at hr hm
  simp only[cm]at gE
  obtain⟨ti,fj,gE⟩:=gE
  split at gE
  ·rename_i tk x0 lo y ie
   split at gE
   ·rename_i y0 m zC
    cases hc:(FZ lo&&x0.beq y0&&Nat.beq (ti.zero.filter eX).length 1&&Nat.beq ti.zero.length ti.sz)with
    |false=>simp[hc]at gE
    |true=>
     simp only[hc,cond_true,bc]at gE
     simp only[bA]at hc
     obtain⟨⟨⟨c1,c2⟩,c3⟩,c4⟩:=hc
     have H_:=Lf.beq_eq c2
     subst H_
     have np:=du c3
     have pX:=du c4
     subst gE
     obtain⟨kr,hkr⟩:∃kr,(Wk.l9 ⟨s.only R,[],ct,[]⟩ y ix (mr ct.i) wd off ti.zero)=kr:=⟨_,rfl⟩
     have cJ:bP d o {(((kr.1.em .wx [m,ix]).1.set (.o tk) (.tk x0 (kr.1.em .wx [m,ix]).2)).set (.o (mr ct.i)) (.fl kr.2.2))with ct:=⟨(kr.1.em .wx [m,ix]).1.ct.a,mr ct.i+1⟩} (.v ti.ag kr.2.1)=k':=by
      rw[<-hk,<-hkr]
     have fi:(kr.1.em .wx [m,ix]).1.bm S ρ:=by
      rw[<-cJ]at hd
      have h2:=cF.1 hd
      exact h2
     obtain⟨zB,r1,nY,mZ⟩:=Wk.bK fi
     rw[<-hkr]at zB
     obtain⟨p,b,n,cap,i,e1,e2,e3,e4,e5⟩:=hr
     simp only[lO,bc]at e1
     subst e1
     have obj:=hw.obj id
     have PY:=hw.obj tk
     rw[ie]at obj
     rw[zC]at PY
     obtain⟨tt,ht,dK,adQ,F,n0,zs,hF,nk,rfl,w5,sG,_⟩:=obj
     have wU:n0=0:=HL c1 nk
     subst wU
     obtain⟨_,F',u,PZ,hu,hlen,lS⟩:=PY
     rw[hF]at PZ
     cases PZ
     rw[e2]at dK
     obtain⟨BH,w1,w2⟩:=sG b 0 n cap e2
     obtain⟨vs,g1,g2,g3,_,g5⟩:=Wk.o7 (S:=S) (w:=w) (b:=b) (base:=i*wd) (j:=mr ct.i) (Hd:=λc=>G.H tk [(i,c)]) (wd:=wd) ht e3 (λr jc hl c t' jj=>by
      obtain⟨v',hc,m4⟩:=(dK.row jc hl).2.2 c t' jj
      rw[Nat.zero_add]at hc
      refine⟨v',hc,λv he=>by subst he;exact m4.scalar,λys he=>?_⟩
      subst he
      have mz:BH=wd:=by rw[<-w1 r (List.mem_of_getElem? jc),hl]
      have bq:dr zs i c=some (.l ys):=by simp[dr,jc,jj]
      have:=w2 i c ys bq
      rw[Nat.zero_add,Nat.zero_add,mz,hc]at this
      exact Option.some.inj this) ti.zero _ off zB
     rw[hkr]at g3 g5
     obtain⟨row,c0,ys,q1,q2,q3,q4,q5⟩:=g5 np
     have hT:=dC.ty _ _ fj
     have d_:=O8 (P:=P) (w:=w) hT (b:=b) (off:=i*wd+off) (vs:=vs) (by rw[g1,pX]) g2
     have gp:(execOp a.eval o).run P w=.ok (.value (if ti.ag then .agg vs.toArray else vs.getD 0 undef)) w:=by
      refine BC (x:=Instr.loadAt t (a.eval x)) (by unfold execOp;rw[ho]) ?_
      rw[e5];exact d_
     obtain⟨kk,hix⟩:=Ns e3
     simp only[List.map_cons,List.map_nil,Lf.bG hu,hix]at nY
     obtain⟨us,kk2,n2,f1,f2,f3,f4,f5,rfl⟩:=adN nY
     cases f1
     cases f2
     have nl:((i:Int)).toNat=i:=Int.toNat_natCast i
     rw[nl]at f4 f5 mZ
     have s1:Wk.eO ⟨s.only R,[],ct,[]⟩ kr.1:=by rw[<-hkr];exact Wk.nr _ _ _ _ _ _ _
     have oB:k'.ct.i=mr ct.i+1:=by rw[<-cJ,mw]
     have hle:=OP ct.i
     rw[oB,<-cJ]
     refine bH.mono (M:=Mn M (mr ct.i) (mr ct.i+1)) ?_ (λi hi=>hi.imp_right λhi=>⟨by omega,hi.2⟩)
     have zO:M tk:=hw.rel.fD (.o id) tk (by rw[<-Wk.aM,ie];simp[cT])
     have Gj:¬M (mr ct.i):=hM _ hle (by rw[oB];omega)
     have dj:tk≠mr ct.i:=λe=>Gj (e▸zO)
     have wT:=OQ ct.i
     have free:=PW f4 f5 (i:=0) (by omega)
     obtain⟨r',adR,adS⟩:=free
     obtain⟨o1,o2⟩:=lS _ _ adR adS
     have Gm:=w5 _ _ q1
     rw[Nat.zero_add]at Gm
     rw[Nat.add_zero,Gm]at o1
     cases o1
     have bu:=o2 c0 ys q3
     rw[Nat.add_zero]at bu
     have jf:∀q,ng [(bf.o (mr ct.i),SV.fl kr.2.2),(bf.o tk,SV.tk x0 (kr.1.em .wx [m,ix]).2)] (.o tk q):=by
      intro q
      show St.look _ (bf.o tk)≠none
      simp only[St.look]
      cases(bf.o (mr ct.i)).beq (.o tk)<;>simp[(bf.beq_iff (r:=bf.o tk)).2 rfl]
     refine Qk (j:=mr ct.i) (G2:=G.jJ tk (mr ct.i) i c0) (W1:=[(.o (mr ct.i),.fl kr.2.2),(.o tk,.tk x0 (kr.1.em .wx [m,ix]).2)])
      h (hw.same (s1.trans (Wk.bB kr.1 .wx [m,ix]))) hn Gj (adO wT jf) (λr=>?_) (λr u' hl=>?_) ?_ (λi hi=>.inr (g3 i hi)) (λb l hb=>?_) gp
     ·show(((kr.1.em .wx [m,ix]).1.w.set (.o tk) _).set (.o (mr ct.i)) _).look r=_
      simp only[St.look]
      by_cases h1:bf.o (mr ct.i)=r
      ·subst h1;rw[St.be];simp[(bf.beq_iff (r:=bf.o (mr ct.i))).2 rfl]
      ·have b1:(bf.o (mr ct.i)).beq r=false:=by
        cases hb:(bf.o (mr ct.i)).beq r with
        |false=>rfl
        |true=>exact absurd (bf.beq_iff.1 hb) h1
       rw[St.cg _ _ h1,b1]
       by_cases h2:bf.o tk=r
       ·subst h2;rw[St.be];simp[(bf.beq_iff (r:=bf.o tk)).2 rfl]
       ·have b2:(bf.o tk).beq r=false:=by
         cases hb:(bf.o tk).beq r with
         |false=>rfl
         |true=>exact absurd (bf.beq_iff.1 hb) h2
        rw[St.cg _ _ h2,b2];simp
     ·rcases iH hl with⟨e1,e2⟩|hl
      ·subst e1 e2
       refine⟨_,rfl,⟨wT,_,q4,?_⟩,.inr rfl,λi hi=>by simp[cT]at hi⟩
       refine bu.move rfl (λb q hb=>⟨?_,rfl⟩) λq=>?_
       ·simp only[List.cons_append,List.nil_append]at hb⊢
        simp only[Gh.jJ,hb]
        rw[if_pos (by refine⟨?_,?_,?_⟩<;>trivial)]
       ·simp[Gh.jJ]
      ·rcases iH hl with⟨e1,e2⟩|hl
       ·subst e1 e2
        refine⟨tk,rfl,⟨adQ,F,_,hF,mZ,by rw[PU f4];exact hlen,λi' r hg Qm=>?_⟩,.inl zO,λi hi=>by simp[cT]at hi⟩
        obtain⟨g1,g2⟩:=PV f4 hg Qm
        obtain⟨g3,g4⟩:=lS i' r g1 Qm
        refine⟨g3,λc l' qs=>(g4 c l' qs).move rfl (λb q hb=>⟨?_,rfl⟩) λq=>?_⟩
        ·simp only[List.cons_append,List.nil_append]at hb⊢
         simp only[Gh.jJ,hb]
         rw[if_neg (by omega)]
        ·simp[Gh.jJ,dj]
       ·cases hl
     ·exact zg hT (q5 _ (by simp[Gh.jJ])) (by rw[g1,pX])
     ·cases hg:G.ω b with
      |none=>simp[Gh.jJ,hg]at hb
      |some l0=>
       have sR:=hw.rel.gx b l0 hg
       refine⟨?_,sR.2⟩
       cases l0 with
       |o n' p=>
        cases p with
        |nil=>simp[Gh.jJ,hg]at hb;subst hb;exact .inl sR.1
        |cons x p=>
         obtain⟨r,c⟩:=x
         simp only[Gh.jJ,hg]at hb
         split at hb
         ·cases hb;exact .inr rfl
         ·cases hb;exact .inl sR.1
       |_=>simp[Gh.jJ,hg]at hb;subst hb;exact .inl sR.1
   ·cases gE
  ·cases gE
 ·cases gE
end
def bR(G:Gh)(w:World):List Ck->List Value->List T->List (Option Nat)->Prop
 | [],[],[],[]=>True
 | .s::ks,v::vs,t::ts,x::is=>x=none∧eB G.q w t v∧eh t=true∧bR G w ks vs ts is
 | .p::ks,v::vs,t::ts,x::is=>x=none∧eB G.q w t v∧bR G w ks vs ts is
 | .o dp::ks,v::vs,t::ts,none::is=>v=.slice none 0 0∧t=.l []∧bR G w ks vs ts is
 | .o dp::ks,v::vs,t::ts,some id::is=>v=G.H id []∧eg G w id dp [] t∧bR G w ks vs ts is
 |_,_,_,_=>False
def Qo(G:Gh)(w:World)(r:Bool×List Ck)(c:Value)(ts:List T)(is:List (Option Nat)):Prop:=
 match r.1 with
 |true=>∃vs:List Value,c=.agg vs.toArray∧bR G w r.2 vs ts is
 |false=>bR G w r.2 [c] ts is∧∀x,c≠.agg x
def iI(G:Gh)(w:World):List (Bool×List Ck)->List Value->List T->List (Option Nat)->Prop
 | [],[],[],[]=>True
 |r::rs,v::vs,ts,is=>∃t1 t2 i1 i2,ts=t1++t2∧is=i1++i2∧Qo G w r v t1 i1∧iI G w rs vs t2 i2
 |_,_,_,_=>False
def Im(G:Gh)(w:World)(rs:List (Bool×List Ck))(v:Value)(ts:List T)(is:List (Option Nat)):Prop:=
 match rs with
 | []=>ts=[]∧is=[]
 | [r]=>iI G w [r] [v] ts is
 |rs=>∃vs:List Value,v=.tuple vs.toArray∧iI G w rs vs ts is
section
variable {w:World}
def gY(G:Gh)(w:World)(bl:Nat->Option Nat):Nat->List PS->List T->Prop
 |_,[],ts=>ts=[]
 |i,.v _ _::ps,ts=>gY G w bl (i+1) ps ts
 |i,.x n::ps,ts=>∃b bE elem t1 t2,bl i=some b∧G.ω b=some (.x i)∧w.heap[b]?=some (.cells bE elem (0,0))∧ts=t1++t2∧t1.length=n∧ei G.q w t1 bE.toList∧
   gY G w bl (i+1) ps t2
def xb(ω:Nat->Option Lb)(w:World)(bl:Nat->Option Nat):Nat->List PS->List Value->List T->Prop
 |_,[],args,ts=>args=[]∧ts=[]
 |i,.v ag n::ps,args,ts=>∃c eR vs t1 t2,args=c::eR∧ts=t1++t2∧t1.length=n∧(match ag with|true=>c=.agg vs.toArray|false=>vs=[c]∧∀x,c≠.agg x)∧ei ω w t1 vs∧
   xb ω w bl (i+1) ps eR t2
 |i,.x n::ps,args,ts=>∃c eR b bE elem t1 t2,args=c::eR∧c=.pointer (some ⟨b,0,none⟩)∧bl i=some b∧ω b=some (.x i)∧w.heap[b]?=some (.cells bE elem (0,0))∧ts=t1++t2∧t1.length=n∧ei ω w t1 bE.toList∧
   xb ω w bl (i+1) ps eR t2
structure vM (sg:mV) (mY:Nat->Option Lb) (bl:Nat->Option Nat) (w:World):Prop where
 gx:∀b l,mY b=some l->b<w.heap.size∧(l=.f∨∃i,l=.x i∧bl i=some b)
 bl:∀i b,bl i=some b->i<sg.ps.length∧mY b=some (.x i)
 gl:CQ mY w
structure Qp (sg:mV) (w:World) (mY:Nat->Option Lb) (bl:Nat->Option Nat) (outs:List T) (v:Value) (w':World) (G:Gh) (is:List (Option Nat)) (o1 o2:List T):Prop where
 so:iU w w'
 size:w.heap.size<=w'.heap.size
 free:∀b,b<w.heap.size->mY b=none->G.ω b=none∧w'.heap[b]?=w.heap[b]?
 Bz:∀b,mY b=some .f->G.ω b=some .f∧w'.heap[b]?=w.heap[b]?
 gx:∀b l,G.ω b=some l->b<w'.heap.size
 qq:oO sg=true->∀b,G.q b=none->G.ω b=none
 outs:outs=o1++o2
 nodup:(is.filterMap id).Nodup
 ret:Im G w' sg.rs v o1 is
 box:gY G w' bl 0 sg.ps o2
def Dk(P:Program)(sg:mV)(f:FuncId)(F:af):Prop:=
 ∀(w:World) (mY:Nat->Option Lb) (bl:Nat->Option Nat) (args:List Value) (ts outs:List T),F ts=some outs->vM sg mY bl w->xb mY w bl 0 sg.ps args ts->
  Calls P f args.toArray w λe w'=>∃v G is o1 o2,e=.returned v∧Qp sg w mY bl outs v w' G is o1 o2
structure gZ (G G':Gh):Prop where
 o:∀b,G'.ω b=G.ω b∨(G'.ω b=none∧∃i p,G.ω b=some (.o i p))
 β:G'.β=G.β
 H:G'.H=G.H
theorem gZ.refl(G:Gh):gZ G G:=⟨λ_=>.inl rfl,rfl,rfl⟩
theorem gZ.trans{G1 G2 G3:Gh}(h:gZ G1 G2)(h':gZ G2 G3):gZ G1 G3:=by
 refine⟨λb=>?_,h'.β.trans h.β,h'.H.trans h.H⟩
 rcases h'.o b with h1|⟨h1,i,p,h2⟩
 ·rcases h.o b with h3|⟨h3,h4⟩
  ·exact .inl (h1.trans h3)
  ·exact .inr ⟨h1.trans h3,h4⟩
 ·rcases h.o b with h3|⟨h3,h4⟩
  ·exact .inr ⟨h1,i,p,by rw[<-h3];exact h2⟩
  ·rw[h3]at h2;cases h2
theorem gZ.non{G G':Gh}(h:gZ G G'){b:Nat}(hb:G.ω b=none):G'.ω b=none:=by
 rcases h.o b with h1|⟨h1,_⟩
 ·rw[h1,hb]
 ·exact h1
theorem gZ.q{G G':Gh}(h:gZ G G'){b:Nat}(hb:G.q b=none):G'.q b=none:=by
 refine sC hb h.non λl hl hq=>?_
 rcases h.o b with h1|⟨h1,_⟩
 ·exact .inr ⟨l,by rw[h1,hl],hq⟩
 ·exact .inl h1
theorem gZ.x{G G':Gh}(h:gZ G G'){b:Nat}{l:Lb}(hb:G.ω b=some l)(hl:∀i p,l≠.o i p):G'.ω b=some l:=by
 rcases h.o b with h1|⟨_,i,p,h1⟩
 ·rw[h1,hb]
 ·rw[hb]at h1;cases h1;exact absurd rfl (hl i p)
theorem gZ.er{G G':Gh}(h:gZ G G'){b:Nat}(hb:er G.ω b=none):er G'.ω b=none:=by
 unfold Go.Proofs.YtjimmglpkndemaaGreatC.er at hb⊢
 cases hg:G.ω b with
 |none=>rw[h.non hg]
 |some l=>
  rw[hg]at hb
  cases l with
  |f=>cases hb
  |x i=>cases hb
  |o i p=>
   rcases h.o b with h1|⟨h1,_⟩
   ·rw[h1,hg]
   ·rw[h1]
theorem gZ.aU{G G':Gh}(h:gZ G G')(w:World):da (λl=>∃i p,l=.o i p) (λ_=>False) G w G' w:=
 ⟨Nat.le_refl _,λb _ hb=>⟨h.q hb,rfl⟩,λb _ hb=>h.non hb,λb l hb hl=>⟨h.x hb λi p e=>hl ⟨i,p,e⟩,rfl⟩,λ_ _=>⟨by rw[h.β],λ_ _=>by rw[h.H]⟩⟩
theorem Gh.nu(G:Gh)(id:Nat)(all:Bool):gZ G (G.free id all):=by
 refine⟨λb=>?_,rfl,rfl⟩
 cases hg:G.ω b with
 |none=>exact .inl (Gh.gA hg)
 |some l=>
  cases l with
  |f=>exact .inl (by simp[Gh.free,hg])
  |x i=>exact .inl (by simp[Gh.free,hg])
  |o i p=>
   simp only[Gh.free,hg]
   split
   ·exact .inr ⟨rfl,i,p,rfl⟩
   ·exact .inl rfl
variable {M:Nat->Prop} {B:eu} {d:Nat} {up:Nat->Nat->Value} {ρ:List T} {G:Gh} {a:Act} {S:Nat->af} {P:Program}
theorem db.Qq{k k':Wk}{G1:Gh}(h:db M B d up ρ G a w k G1){id:Nat}(hk:k.lE id=some k'):∃G2,db M B d up ρ G a w k' G2∧gZ G1 G2:=by
 unfold Wk.lE at hk
 split at hk
 ·rename_i dp x hx
  cases hk
  rw[Wk.aM]at hx
  refine⟨_,⟨(h.rel.lE hx).congr (F2 _ _ _ _),(h.aU.mono (λl hl=>F1 hl) λ_ hn=>hn).trans ((G1.fa id true w).mono ?_ λ_ hn=>hn)⟩,G1.nu id true⟩
  rintro l ⟨p,rfl⟩
  show(k.w.set _ _).look (.o id)≠none
  rw[St.be];simp
 ·cases hk;exact⟨G1,h,.refl _⟩
 ·cases hk
theorem db.nv:∀{cs:List Ce} {k k1:Wk} {G1:Gh},db M B d up ρ G a w k G1->k.ef cs=some k1->∃G2,db M B d up ρ G a w k1 G2∧gZ G1 G2
 | [],k,k1,G1,h,hk=>by
  simp[Wk.ef]at hk
  subst hk
  exact⟨G1,h,.refl _⟩
 |c::cs,k,k1,G1,h,hk=>by
  cases c with
  |o id q=>
   simp only[Wk.ef,cm]at hk
   obtain⟨k2,h1,h2⟩:=hk
   obtain⟨G2,g1,g2⟩:=h.Qq h1
   obtain⟨G3,f1,f2⟩:=db.nv g1 h2
   exact⟨G3,f1,g2.trans f2⟩
  |p x=>exact db.nv h (show k.ef cs=some k1 from hk)
  |n=>exact db.nv h (show k.ef cs=some k1 from hk)
  |d=>exact db.nv h (show k.ef cs=some k1 from hk)
def cO(G:Gh)(w:World)(ρ:List T):List SV->List Value->Prop
 | [],[]=>True
 |v::vs,c::cs=>cz G w ρ v c∧cO G w ρ vs cs
 |_,_=>False
theorem cO.aU{I:Lb->Prop}{G G':Gh}{w w':World}(k:da I (λ_=>False) G w G' w'):∀{vs:List SV} {cs:List Value},cO G w ρ vs cs->cO G' w' ρ vs cs
 | [],[],_=>trivial
 |_::_,_::_,h=>⟨h.1.aU k λ_ _ hf=>hf,cO.aU k h.2⟩
 | [],_::_,h=>h.elim
 |_::_,[],h=>h.elim
def sW(G:Gh)(w:World)(ρ:List T)(pl:Bool):List PS->List Value->List Lf->List (Nat×Bool×Nat)->Prop
 | [],args,xs,bs=>args=[]∧xs=[]∧bs=[]
 | .v ag n::ps,args,xs,bs=>∃c eR vs x1 x2,args=c::eR∧xs=x1++x2∧x1.length=n∧(match ag with|true=>c=.agg vs.toArray|false=>vs=[c]∧∀x,c≠.agg x)∧ei (er G.ω) w (x1.map (Lf.ev ρ)) vs∧
   (pl=true->ei G.q w (x1.map (Lf.ev ρ)) vs)∧sW G w ρ pl ps eR x2 bs
 | .x n::ps,args,xs,bs=>∃c eR bx ag wX bE elem x1 x2,args=c::eR∧bs=(bx,ag,n)::wX∧c=.pointer (some ⟨G.β bx,0,none⟩)∧G.ω (G.β bx)=some (.x bx)∧w.heap[G.β bx]?=some (.cells bE elem (0,0))∧
   xs=x1++x2∧x1.length=n∧ei G.q w (x1.map (Lf.ev ρ)) bE.toList∧sW G w ρ pl ps eR x2 wX
theorem Io{pl:Bool}:∀{ps:List PS} {vs:List SV} {cs:List Value} {k k1:Wk} {xs:List Lf} {bs:List (Nat×Bool×Nat)} {G1:Gh},db M B d up ρ G a w k G1->cO G1 w ρ vs cs->(pl=true->zo k (uq vs))->
  k.args vs ps=some (k1,xs,bs)->k1.bm S ρ->k.bm S ρ∧k1.ct.i=k.ct.i∧∃G2,db M B d up ρ G a w k1 G2∧gZ G1 G2∧
   ∀G3,gZ G2 G3->sW G3 w ρ pl ps cs xs bs
 | [],[],cs,k,k1,xs,bs,G1,hk,hr,hf,h,hd=>by
  simp only[Wk.args,bc,Prod.mk.injEq]at h
  obtain⟨rfl,rfl,rfl⟩:=h
  cases cs with
  |nil=>exact⟨hd,rfl,G1,hk,.refl _,λ_ _=>⟨rfl,rfl,rfl⟩⟩
  |cons _ _=>exact hr.elim
 | .v vC n::ps,.v ag es::vs,cs,k,k1,xs,bs,G1,hk,hr,hf,h,hd=>by
  cases cs with
  |nil=>exact hr.elim
  |cons c cs=>
   simp only[Wk.args]at h
   cases hc:((ag==vC)&&Nat.beq es.length n)with
   |false=>simp[hc]at h
   |true=>
    simp only[hc,cond_true,cm,bc,Prod.mk.injEq]at h
    simp only[bA,beq_iff_eq]at hc
    obtain⟨rfl,hn⟩:=hc
    obtain⟨⟨k2,x1⟩,h1,⟨k3,x2,bs2⟩,h2,rfl,rfl,rfl⟩:=h
    have hs:=Wk.gB h1
    obtain⟨d2,i2,G2,w2,l2,f2⟩:=Io (hk.same hs) hr.2 (λhp id ie=>by
     obtain⟨pv,x,hx⟩:=hf hp id (by simp only[uq];rw[HN];exact List.mem_append_right _ ie)
     exact⟨pv,x,by rw[hs.get];exact hx⟩) h2 hd
    have fi:=Wk.kU h1 d2
    refine⟨fi,i2.trans hs.i,G2,w2,l2,λG3 l3=>?_⟩
    have a_:=l2.trans l3
    have hlen:x1.length=n:=by
     have:=du hn
     obtain⟨sX,oA⟩:∃sX:List Value,aS G1 w ρ es sX:=by
      have h0:=hr.1
      cases ag with
      |true=>obtain⟨sX,_,h0⟩:=h0;exact⟨sX,h0⟩
      |false=>obtain⟨e,rfl,h0,_⟩:=h0;exact⟨[c],h0,trivial⟩
     obtain⟨_,_,_,_,e4⟩:=Wk.gC h1 d2 oA hk
     rw[e4,<-oA.length,this]
    have key:∀sX:List Value,aS G1 w ρ es sX->ei (er G3.ω) w (x1.map (Lf.ev ρ)) sX∧(pl=true->ei G3.q w (x1.map (Lf.ev ρ)) sX):=by
     intro sX oA
     obtain⟨ts,e1,e2,e3,e4⟩:=Wk.gC h1 d2 oA hk
     rw[e1]
     refine⟨e2.aU (Nat.le_refl _) λb _ hb=>⟨a_.er hb,rfl⟩,λhp=>(e3 λid ie=>hf hp id ?_).aU (Nat.le_refl _) λb _ hb=>⟨a_.q hb,rfl⟩⟩
     simp only[uq,Ci]
     rw[HN]
     exact List.mem_append_left _ ie
    have h0:=hr.1
    cases ag with
    |true=>
     obtain⟨sX,rfl,h0⟩:=h0
     obtain⟨q1,q2⟩:=key sX h0
     exact⟨_,cs,sX,x1,x2,rfl,rfl,hlen,rfl,q1,q2,f2 G3 l3⟩
    |false=>
     obtain⟨e,rfl,h0,h0'⟩:=h0
     obtain⟨q1,q2⟩:=key [c] ⟨h0,trivial⟩
     exact⟨c,cs,[c],x1,x2,rfl,rfl,hlen,⟨rfl,h0'⟩,q1,q2,f2 G3 l3⟩
 | .x n::ps,.pt bx 0::vs,cs,k,k1,xs,bs,G1,hk,hr,hf,h,hd=>by
  cases cs with
  |nil=>exact hr.elim
  |cons c cs=>
   simp only[Wk.args]at h
   split at h
   ·rename_i ag es tS
    cases hc:Nat.beq es.length n with
    |false=>simp[hc]at h
    |true=>
     simp only[hc,cond_true,cm,bc,Prod.mk.injEq]at h
     obtain⟨k2,h0,⟨k3,x1⟩,h1,⟨k4,x2,bs2⟩,h2,rfl,rfl,rfl⟩:=h
     obtain⟨Gt,wt,lt⟩:=hk.nv h0
     obtain⟨_,_,_,_,t4,t5,tf,t7,_⟩:=hk.ef h0
     have hs:=Wk.gB h1
     obtain⟨d2,i2,G2,w2,l2,f2⟩:=Io (wt.same hs) (hr.2.aU (lt.aU w)) (λhp id ie=>by
      obtain⟨pv,x,hx⟩:=hf hp id (by simp only[uq];rw[HN];exact List.mem_append_right _ ie)
      exact⟨pv,x,by rw[hs.get];exact t7 _ _ _ hx⟩) h2 hd
     have fi:=Wk.kU h1 d2
     have Qr:k.bm S ρ:=by unfold Wk.bm at fi⊢;rw[<-t4,<-t5];exact fi
     have o8:=hk.rel.bx bx
     rw[<-Wk.aM,tS]at o8
     obtain⟨b1,bE,elem,b2,b3⟩:=o8
     obtain⟨ts,e1,e2,e3,e4⟩:=Wk.gC h1 d2 (b3.aU (lt.aU w) λ_ _ hf=>hf) wt
     have hp:c=.pointer (some ⟨G1.β bx,0,none⟩):=hr.1
     refine⟨Qr,by rw[i2,hs.i,t4],G2,w2,lt.trans l2,λG3 l3=>?_⟩
     have q9:=(lt.trans l2).trans l3
     refine⟨c,cs,bx,ag,bs2,bE,elem,x1,x2,rfl,rfl,by rw[q9.β];exact hp,by rw[q9.β];exact q9.x b1 (λ_ _ e=>by cases e),by rw[q9.β];exact b2,rfl,?_,?_,f2 G3 l3⟩
     ·rw[e4,<-b3.length];exact du hc
     ·rw[e1];exact(e3 tf).aU (Nat.le_refl _) λb _ hb=>⟨(l2.trans l3).q hb,rfl⟩
   ·cases h
 | [],_::_,cs,k,k1,xs,bs,G1,hk,hr,hf,h,hd=>by simp[Wk.args]at h
 |_::_,[],cs,k,k1,xs,bs,G1,hk,hr,hf,h,hd=>by simp[Wk.args]at h
 | .x _::_,.pt _ (_+1)::_,cs,k,k1,xs,bs,G1,hk,hr,hf,h,hd=>by simp[Wk.args]at h
 | .v _ _::_,.un::_,cs,k,k1,xs,bs,G1,hk,hr,hf,h,hd=>by simp[Wk.args]at h
 | .v _ _::_,.pt _ _::_,cs,k,k1,xs,bs,G1,hk,hr,hf,h,hd=>by simp[Wk.args]at h
 | .v _ _::_,.ep _ _ _ _ _::_,cs,k,k1,xs,bs,G1,hk,hr,hf,h,hd=>by simp[Wk.args]at h
 | .v _ _::_,.fp _ _ _ _::_,cs,k,k1,xs,bs,G1,hk,hr,hf,h,hd=>by simp[Wk.args]at h
 | .v _ _::_,.tp _::_,cs,k,k1,xs,bs,G1,hk,hr,hf,h,hd=>by simp[Wk.args]at h
 | .v _ _::_,.cl _ _::_,cs,k,k1,xs,bs,G1,hk,hr,hf,h,hd=>by simp[Wk.args]at h
 | .v _ _::_,.ob _ _::_,cs,k,k1,xs,bs,G1,hk,hr,hf,h,hd=>by simp[Wk.args]at h
 | .v _ _::_,.fz _ _::_,cs,k,k1,xs,bs,G1,hk,hr,hf,h,hd=>by simp[Wk.args]at h
 | .v _ _::_,.tk _ _::_,cs,k,k1,xs,bs,G1,hk,hr,hf,h,hd=>by simp[Wk.args]at h
 | .v _ _::_,.fl _::_,cs,k,k1,xs,bs,G1,hk,hr,hf,h,hd=>by simp[Wk.args]at h
 | .v _ _::_,.fr _::_,cs,k,k1,xs,bs,G1,hk,hr,hf,h,hd=>by simp[Wk.args]at h
 | .x _::_,.un::_,cs,k,k1,xs,bs,G1,hk,hr,hf,h,hd=>by simp[Wk.args]at h
 | .x _::_,.v _ _::_,cs,k,k1,xs,bs,G1,hk,hr,hf,h,hd=>by simp[Wk.args]at h
 | .x _::_,.ep _ _ _ _ _::_,cs,k,k1,xs,bs,G1,hk,hr,hf,h,hd=>by simp[Wk.args]at h
 | .x _::_,.fp _ _ _ _::_,cs,k,k1,xs,bs,G1,hk,hr,hf,h,hd=>by simp[Wk.args]at h
 | .x _::_,.tp _::_,cs,k,k1,xs,bs,G1,hk,hr,hf,h,hd=>by simp[Wk.args]at h
 | .x _::_,.cl _ _::_,cs,k,k1,xs,bs,G1,hk,hr,hf,h,hd=>by simp[Wk.args]at h
 | .x _::_,.ob _ _::_,cs,k,k1,xs,bs,G1,hk,hr,hf,h,hd=>by simp[Wk.args]at h
 | .x _::_,.fz _ _::_,cs,k,k1,xs,bs,G1,hk,hr,hf,h,hd=>by simp[Wk.args]at h
 | .x _::_,.tk _ _::_,cs,k,k1,xs,bs,G1,hk,hr,hf,h,hd=>by simp[Wk.args]at h
 | .x _::_,.fl _::_,cs,k,k1,xs,bs,G1,hk,hr,hf,h,hd=>by simp[Wk.args]at h
 | .x _::_,.fr _::_,cs,k,k1,xs,bs,G1,hk,hr,hf,h,hd=>by simp[Wk.args]at h
end
theorem Dl{W:St}{r:bf}{u:SV}(h:W.look r=some u):(r,u)∈W:=by
 induction W with
 |nil=>cases h
 |cons x W ih=>
  obtain⟨r',v⟩:=x
  rcases iH h with⟨rfl,rfl⟩|h
  ·exact List.mem_cons_self
  ·exact List.mem_cons_of_mem _ (ih h)
def jZ:Nat->List Ck->List (Option Nat)->mu
 |i,.o _::ks,x::is=>(mW i,x)::jZ (mW i+1) ks is
 |i,_::ks,_::is=>jZ i ks is
 |_,_,_=>[]
theorem Ip:∀{ks:List Ck} {is:List (Option Nat)} {i j:Nat} {x:Option Nat},(j,x)∈jZ i ks is->i<=j∧x∈is
 | [],is,i,j,x,h=>by simp[jZ]at h
 |_::_,[],i,j,x,h=>by simp[jZ]at h
 | .o _::ks,y::is,i,j,x,h=>by
  simp only[jZ,List.mem_cons,Prod.mk.injEq]at h
  have Qs:=Hi i
  rcases h with⟨rfl,rfl⟩|h
  ·exact⟨Qs,by simp⟩
  ·have:=Ip h;exact⟨by omega,by simp[this.2]⟩
 | .s::ks,y::is,i,j,x,h=>by have:=Ip (show(j,x)∈jZ i ks is from h);exact⟨this.1,by simp[this.2]⟩
 | .p::ks,y::is,i,j,x,h=>by have:=Ip (show(j,x)∈jZ i ks is from h);exact⟨this.1,by simp[this.2]⟩
theorem Dm:∀{ks:List Ck} {is:List (Option Nat)} {i j:Nat} {x:Option Nat},(j,x)∈jZ i ks is->mX (jZ i ks is) j=some x
 | [],is,i,j,x,h=>by simp[jZ]at h
 |_::_,[],i,j,x,h=>by simp[jZ]at h
 | .o _::ks,y::is,i,j,x,h=>by
  simp only[jZ,List.mem_cons,Prod.mk.injEq]at h
  rcases h with⟨rfl,rfl⟩|h
  ·simp[jZ,mX]
  ·have h1:=(Ip h).1
   have:Nat.beq (mW i) j=false:=by
    cases hb:Nat.beq (mW i) j with
    |false=>rfl
    |true=>have:=du hb;omega
   simp only[jZ,mX,this,cond_false]
   exact Dm h
 | .s::ks,y::is,i,j,x,h=>Dm (ks:=ks) (is:=is) h
 | .p::ks,y::is,i,j,x,h=>Dm (ks:=ks) (is:=is) h
theorem zP:∀{ks:List Ck} {is:List (Option Nat)} {i j k:Nat},(is.filterMap id).Nodup->(j,some k)∈jZ i ks is->mE (jZ i ks is) k=some j
 | [],is,i,j,k,_,h=>by simp[jZ]at h
 |_::_,[],i,j,k,_,h=>by simp[jZ]at h
 | .o _::ks,none::is,i,j,k,hn,h=>by
  simp only[jZ,List.mem_cons,Prod.mk.injEq]at h
  rcases h with⟨_,h⟩|h
  ·cases h
  ·simp only[jZ,mE];exact zP (by simpa using hn) h
 | .o _::ks,some y::is,i,j,k,hn,h=>by
  simp only[List.filterMap_cons_some (f:=id) (a:=some y) rfl,List.nodup_cons]at hn
  simp only[jZ,List.mem_cons,Prod.mk.injEq]at h
  rcases h with⟨rfl,h⟩|h
  ·cases h;simp[jZ,mE]
  ·have dj:Nat.beq y k=false:=by
    cases hb:Nat.beq y k with
    |false=>rfl
    |true=>
     have:=du hb
     subst this
     exact absurd (show y∈is.filterMap id from List.mem_filterMap.2 ⟨some y,(Ip h).2,rfl⟩) hn.1
   simp only[jZ,mE,dj,cond_false]
   exact zP hn.2 h
 | .s::ks,y::is,i,j,k,hn,h=>by
  refine zP (ks:=ks) (is:=is) ?_ h
  cases y with
  |none=>simpa using hn
  |some y=>simp only[List.filterMap_cons_some (f:=id) (a:=some y) rfl,List.nodup_cons]at hn;exact hn.2
 | .p::ks,y::is,i,j,k,hn,h=>by
  refine zP (ks:=ks) (is:=is) ?_ h
  cases y with
  |none=>simpa using hn
  |some y=>simp only[List.filterMap_cons_some (f:=id) (a:=some y) rfl,List.nodup_cons]at hn;exact hn.2
theorem NH:∀{rn:mu} {k j:Nat},mE rn k=some j->(j,some k)∈rn
 | [],k,j,h=>by simp[mE]at h
 |(i,none)::rn,k,j,h=>List.mem_cons_of_mem _ (NH (show mE rn k=some j from h))
 |(i,some y)::rn,k,j,h=>by
  simp only[mE]at h
  cases hb:Nat.beq y k with
  |true=>simp[hb]at h;subst h;rw[du hb];exact List.mem_cons_self
  |false=>simp[hb]at h;exact List.mem_cons_of_mem _ (NH h)
theorem NI:∀{rn:mu} {j:Nat} {x:Option Nat},mX rn j=some x->(j,x)∈rn
 | [],k,j,h=>by simp[mX]at h
 |(i,y)::rn,j,x,h=>by
  simp only[mX]at h
  cases hb:Nat.beq i j with
  |true=>simp[hb]at h;subst h;rw[du hb];exact List.mem_cons_self
  |false=>simp[hb]at h;exact List.mem_cons_of_mem _ (NI h)
def kP:Ck->Bool
 | .p| .o false=>true
 |_=>false
theorem eg.o9{G G':Gh}{w:World}{id j:Nat}{t:T}(h:eg G w id false [] t)(gj:∀c,G.ω c=some (.o id [])->G'.ω c=some (.o j []))(hH:G'.H j []=G.H id [])
  (hn:∀b,G.q b=none->G'.q b=none):eg G' w j false [] t:=by
 cases h with
 |nil h=>exact .nil (by rw[hH];exact h)
 | @l _ _ xs b wd cap bE elem cv h1 h2 h3 h4 h5 h6 h7 h8 h9 lP pK=>
  exact .l (by rw[hH];exact h1) h2 (gj _ h3) h4 h5 h6 h7 h8 (λi j ys hy hd=>(h9 i j ys hy hd).aU (Nat.le_refl _) λb _ hb=>⟨hn b hb,rfl⟩) (λ_ _ _ _ hd=>by cases hd) λ_ _ _ _ hd=>by cases hd
section
variable {w':World} {ρ:List T} {G' G2:Gh}
theorem zQ{rn:mu}(hH:∀j x,mX rn j=some x->G2.H j=match x with|some id=>G'.H id|none=>λ_=>.slice none 0 0)
  (gj:∀j id,mE rn id=some j->∀c r,G'.ω c=some (.o id r)->G2.ω c=some (.o j r)):
  ∀{ks:List Ck} {us:List Value} {ts:List T} {is:List (Option Nat)} {ct:Ct},bR G' w' ks us ts is->(∀j t,ts[j]?=some t->ρ[ct.a+j]?=some t)->
   (∀k∈ks,kP k=true->∀b,G'.q b=none->G2.q b=none)->(∀j x,(j,x)∈jZ ct.i ks is->mX rn j=some x)->(∀j id,(j,some id)∈jZ ct.i ks is->mE rn id=some j)->
   aS G2 w' ρ (fo ct ks).2.1 us∧(fo ct ks).1.a=ct.a+ts.length∧ct.i<=(fo ct ks).1.i∧(∀i∈dt (fo ct ks).2.1,ct.i<=i∧i<(fo ct ks).1.i)∧
   (∀j x,(j,x)∈jZ ct.i ks is->j<(fo ct ks).1.i)∧
   ∀r u,(r,u)∈(fo ct ks).2.2->∃j,r=.o j∧ct.i<=j∧j<(fo ct ks).1.i∧cA G2 w' ρ j u∧cT u=[]
 | [],[],[],[],ct,_,_,_,_,_=>⟨trivial,rfl,Nat.le_refl _,λi hi=>by simp[fo,dt]at hi,λj x h=>by simp[jZ]at h,λr u h=>by simp[fo]at h⟩
 | .s::ks,u::us,t::ts,x::is,ct,h,mA,hp,h1,h2=>by
  obtain⟨rfl,hd,hs,h⟩:=h
  obtain⟨g1,g2,g3,g4,g5,g6⟩:=zQ hH gj (ct:=⟨ct.a+1,ct.i⟩) h (λj t' hj=>by have:=mA (j+1) t' (by simpa using hj);rw[<-this];congr 1;show ct.a+1+j=_;omega) (λk hk=>hp k (by simp[hk])) h1 h2
  have h0:ρ[ct.a]?=some t:=mA 0 t rfl
  obtain⟨v,rfl⟩:=uJ hs
  obtain⟨rfl,hv⟩:=hd.scalar
  refine⟨⟨⟨.c u,h0,.c hv⟩,g1⟩,?_,g3,?_,g5,g6⟩
  ·simp only[fo,List.length_cons];rw[g2];show ct.a+1+_=_;omega
  ·intro i hi;simp only[fo,dt]at hi;exact g4 i hi
 | .p::ks,u::us,t::ts,x::is,ct,h,mA,hp,h1,h2=>by
  obtain⟨rfl,hd,h⟩:=h
  obtain⟨g1,g2,g3,g4,g5,g6⟩:=zQ hH gj (ct:=⟨ct.a+1,ct.i⟩) h (λj t' hj=>by have:=mA (j+1) t' (by simpa using hj);rw[<-this];congr 1;show ct.a+1+j=_;omega) (λk hk=>hp k (by simp[hk])) h1 h2
  have h0:ρ[ct.a]?=some t:=mA 0 t rfl
  refine⟨⟨⟨t,h0,hd.aU (Nat.le_refl _) λb _ hb=>⟨hp .p (by simp) rfl b hb,rfl⟩⟩,g1⟩,?_,g3,?_,g5,g6⟩
  ·simp only[fo,List.length_cons];rw[g2];show ct.a+1+_=_;omega
  ·intro i hi;simp only[fo,dt]at hi;exact g4 i hi
 | .o dp::ks,u::us,t::ts,none::is,ct,h,mA,hp,h1,h2=>by
  obtain⟨rfl,rfl,h⟩:=h
  obtain⟨g1,g2,g3,g4,g5,g6⟩:=zQ hH gj (ct:=⟨ct.a+1,mW ct.i+1⟩) h (λj t' hj=>by have:=mA (j+1) t' (by simpa using hj);rw[<-this];congr 1;show ct.a+1+j=_;omega) (λk hk=>hp k (by simp[hk]))
   (λj x hj=>h1 j x (by simp[jZ,hj])) (λj id hj=>h2 j id (by simp[jZ,hj]))
  have h0:ρ[ct.a]?=some (.l []):=mA 0 _ rfl
  have hr:=hH (mW ct.i) none (h1 (mW ct.i) none (by simp[jZ]))
  simp only at hr
  have g3':mW ct.i+1<=(fo ⟨ct.a+1,mW ct.i+1⟩ ks).1.i:=g3
  have Qs:=Hi ct.i
  refine⟨⟨⟨[],rfl,by rw[hr]⟩,g1⟩,?_,by simp only[fo];omega,?_,?_,?_⟩
  ·simp only[fo,List.length_cons];rw[g2];show ct.a+1+_=_;omega
  ·intro i hi
   simp only[fo,dt,List.mem_cons]at hi⊢
   rcases hi with rfl|hi
   ·omega
   ·have:=g4 i hi
    have h3:mW ct.i+1<=i:=this.1
    omega
  ·intro j x hj
   simp only[jZ,List.mem_cons,Prod.mk.injEq]at hj
   simp only[fo]
   rcases hj with⟨rfl,_⟩|hj
   ·omega
   ·exact g5 j x hj
  ·intro r u' pN
   simp only[fo,List.mem_cons,Prod.mk.injEq]at pN⊢
   rcases pN with⟨rfl,rfl⟩|pN
   ·exact⟨mW ct.i,rfl,Qs,by omega,⟨.l [],h0,.nil (by rw[hr])⟩,rfl⟩
   ·obtain⟨j,e1,e2,e3,e4,e5⟩:=g6 r u' pN
    have e2':mW ct.i+1<=j:=e2
    exact⟨j,e1,by omega,e3,e4,e5⟩
 | .o dp::ks,u::us,t::ts,some id::is,ct,h,mA,hp,h1,h2=>by
  obtain⟨rfl,bu,h⟩:=h
  obtain⟨g1,g2,g3,g4,g5,g6⟩:=zQ hH gj (ct:=⟨ct.a+1,mW ct.i+1⟩) h (λj t' hj=>by have:=mA (j+1) t' (by simpa using hj);rw[<-this];congr 1;show ct.a+1+j=_;omega) (λk hk=>hp k (by simp[hk]))
   (λj x hj=>h1 j x (by simp[jZ,hj])) (λj id hj=>h2 j id (by simp[jZ,hj]))
  have h0:ρ[ct.a]?=some t:=mA 0 _ rfl
  have hr:=hH (mW ct.i) (some id) (h1 (mW ct.i) (some id) (by simp[jZ]))
  simp only at hr
  have ht:=gj (mW ct.i) id (h2 (mW ct.i) id (by simp[jZ]))
  have g3':mW ct.i+1<=(fo ⟨ct.a+1,mW ct.i+1⟩ ks).1.i:=g3
  have Qs:=Hi ct.i
  refine⟨⟨⟨[],rfl,by rw[hr]⟩,g1⟩,?_,by simp only[fo];omega,?_,?_,?_⟩
  ·simp only[fo,List.length_cons];rw[g2];show ct.a+1+_=_;omega
  ·intro i hi
   simp only[fo,dt,List.mem_cons]at hi⊢
   rcases hi with rfl|hi
   ·omega
   ·have:=g4 i hi
    have h3:mW ct.i+1<=i:=this.1
    omega
  ·intro j x hj
   simp only[jZ,List.mem_cons,Prod.mk.injEq]at hj
   simp only[fo]
   rcases hj with⟨rfl,_⟩|hj
   ·omega
   ·exact g5 j x hj
  ·intro r u' pN
   simp only[fo,List.mem_cons,Prod.mk.injEq]at pN⊢
   rcases pN with⟨rfl,rfl⟩|pN
   ·refine⟨mW ct.i,rfl,Qs,by omega,⟨t,h0,?_⟩,rfl⟩
    cases dp with
    |true=>exact bu.move rfl (λc r hc=>⟨ht c r hc,rfl⟩) λr=>by rw[hr]
    |false=>exact bu.o9 (λc hc=>ht c [] hc) (by rw[hr]) (hp (.o false) (by simp) rfl)
   ·obtain⟨j,e1,e2,e3,e4,e5⟩:=g6 r u' pN
    have e2':mW ct.i+1<=j:=e2
    exact⟨j,e1,by omega,e3,e4,e5⟩
 | [],_::_,_,_,ct,h,_,_,_,_=>by simp[bR]at h
 | [],[],_::_,_,ct,h,_,_,_,_=>by simp[bR]at h
 | [],[],[],_::_,ct,h,_,_,_,_=>by simp[bR]at h
 |k::_,[],_,_,ct,h,_,_,_,_=>by cases k<;>simp[bR]at h
 |k::_,_::_,[],_,ct,h,_,_,_,_=>by cases k<;>simp[bR]at h
 |k::_,_::_,_::_,[],ct,h,_,_,_,_=>by cases k<;>simp[bR]at h
theorem NJ:∀(k1 k2:List Ck) (ct:Ct),fo ct (k1++k2)=((fo (fo ct k1).1 k2).1,(fo ct k1).2.1++(fo (fo ct k1).1 k2).2.1,(fo ct k1).2.2++(fo (fo ct k1).1 k2).2.2)
 | [],k2,ct=>by simp[fo]
 | .o dp::k1,k2,ct=>by simp[fo,NJ k1 k2]
 | .s::k1,k2,ct=>by simp[fo,NJ k1 k2]
 | .p::k1,k2,ct=>by simp[fo,NJ k1 k2]
def mc:List (Bool×List Ck)->List Ck
 | []=>[]
 |r::rs=>r.2++mc rs
theorem Qv:∀(rs:List (Bool×List Ck)) (ct:Ct),(nc ct rs).1=(fo ct (mc rs)).1∧(nc ct rs).2.2=(fo ct (mc rs)).2.2
 | [],ct=>⟨rfl,rfl⟩
 |r::rs,ct=>by
  obtain⟨h1,h2⟩:=Qv rs (fo ct r.2).1
  simp only[nc,mc,NJ]
  exact⟨h1,by rw[h2]⟩
theorem aS.split{G:Gh}{w:World}:∀{c1 c2:List Ce} {v1 v2:List Value},c1.length=v1.length->aS G w ρ (c1++c2) (v1++v2)->aS G w ρ c1 v1∧aS G w ρ c2 v2
 | [],_,[],_,_,h=>⟨trivial,h⟩
 | [],_,_::_,_,h,_=>by simp at h
 |_::_,_,[],_,h,_=>by simp at h
 |c::c1,_,v::v1,_,h,hr=>by
  obtain⟨h1,h2⟩:=aS.split (by simpa using h) hr.2
  exact⟨⟨hr.1,h1⟩,h2⟩
theorem Qw:∀(ks:List Ck) (ct:Ct),(fo ct ks).2.1.length=ks.length
 | [],ct=>rfl
 | .o dp::ks,ct=>by simp[fo,Qw ks]
 | .s::ks,ct=>by simp[fo,Qw ks]
 | .p::ks,ct=>by simp[fo,Qw ks]
theorem bR.len:∀{ks:List Ck} {us:List Value} {ts:List T} {is:List (Option Nat)},bR G' w' ks us ts is->us.length=ks.length∧ts.length=ks.length∧is.length=ks.length
 | [],[],[],[],_=>⟨rfl,rfl,rfl⟩
 | .s::ks,_::us,_::ts,x::is,h=>by have:=bR.len h.2.2.2;simp[this]
 | .p::ks,_::us,_::ts,x::is,h=>by have:=bR.len h.2.2;simp[this]
 | .o _::ks,_::us,_::ts,none::is,h=>by have:=bR.len h.2.2;simp[this]
 | .o _::ks,_::us,_::ts,some _::is,h=>by have:=bR.len h.2.2;simp[this]
 | [],_::_,_,_,h=>by simp[bR]at h
 | [],[],_::_,_,h=>by simp[bR]at h
 | [],[],[],_::_,h=>by simp[bR]at h
 |k::_,[],_,_,h=>by cases k<;>simp[bR]at h
 |k::_,_::_,[],_,h=>by cases k<;>simp[bR]at h
 |k::_,_::_,_::_,[],h=>by cases k<;>simp[bR]at h
theorem bR.append:∀{k1:List Ck} {u1:List Value} {t1:List T} {i1:List (Option Nat)} {k2:List Ck} {u2:List Value} {t2:List T} {i2:List (Option Nat)},bR G' w' k1 u1 t1 i1->bR G' w' k2 u2 t2 i2->
  bR G' w' (k1++k2) (u1++u2) (t1++t2) (i1++i2)
 | [],[],[],[],_,_,_,_,_,h=>h
 | .s::ks,_::us,_::ts,x::is,_,_,_,_,h,h'=>⟨h.1,h.2.1,h.2.2.1,bR.append h.2.2.2 h'⟩
 | .p::ks,_::us,_::ts,x::is,_,_,_,_,h,h'=>⟨h.1,h.2.1,bR.append h.2.2 h'⟩
 | .o _::ks,_::us,_::ts,none::is,_,_,_,_,h,h'=>⟨h.1,h.2.1,bR.append h.2.2 h'⟩
 | .o _::ks,_::us,_::ts,some _::is,_,_,_,_,h,h'=>⟨h.1,h.2.1,bR.append h.2.2 h'⟩
 | [],_::_,_,_,_,_,_,_,h,_=>by simp[bR]at h
 | [],[],_::_,_,_,_,_,_,h,_=>by simp[bR]at h
 | [],[],[],_::_,_,_,_,_,h,_=>by simp[bR]at h
 |k::_,[],_,_,_,_,_,_,h,_=>by cases k<;>simp[bR]at h
 |k::_,_::_,[],_,_,_,_,_,h,_=>by cases k<;>simp[bR]at h
 |k::_,_::_,_::_,[],_,_,_,_,h,_=>by cases k<;>simp[bR]at h
theorem Qx:∀{rs:List (Bool×List Ck)} {vs:List Value} {ts:List T} {is:List (Option Nat)},iI G' w' rs vs ts is->
  ∃us:List Value,bR G' w' (mc rs) us ts is∧∀(G2:Gh) (w2:World) (ct:Ct),aS G2 w2 ρ (fo ct (mc rs)).2.1 us->fX G2 w2 ρ (nc ct rs).2.1 vs
 | [],[],[],[],_=>⟨[],trivial,λ_ _ _ _=>trivial⟩
 |r::rs,v::vs,ts,is,h=>by
  obtain⟨t1,t2,i1,i2,rfl,rfl,h1,h2⟩:=h
  obtain⟨us,g1,g2⟩:=Qx h2
  obtain⟨ag,ks⟩:=r
  have key:∀u1:List Value,bR G' w' ks u1 t1 i1->(∀(G2:Gh) (w2:World) (cs:List Ce),aS G2 w2 ρ cs u1->cs.length=ks.length->eZ G2 w2 ρ ag cs v)->
    ∃us:List Value,bR G' w' (mc ((ag,ks)::rs)) us (t1++t2) (i1++i2)∧∀(G2:Gh) (w2:World) (ct:Ct),aS G2 w2 ρ (fo ct (mc ((ag,ks)::rs))).2.1 us->fX G2 w2 ρ (nc ct ((ag,ks)::rs)).2.1 (v::vs):=by
   intro u1 hu hv
   refine⟨u1++us,hu.append g1,λG2 w2 ct hr=>?_⟩
   simp only[mc,NJ]at hr
   obtain⟨r1,r2⟩:=aS.split (by rw[Qw,(bR.len hu).1]) hr
   exact⟨hv G2 w2 _ r1 (Qw _ _),g2 G2 w2 _ r2⟩
  cases ag with
  |true=>
   obtain⟨u1,rfl,hu⟩:=h1
   exact key u1 hu λG2 w2 cs hr _=>⟨u1,rfl,hr⟩
  |false=>
   obtain⟨hu,CV⟩:=h1
   refine key [v] hu λG2 w2 cs hr hl=>?_
   have:=(bR.len hu).1
   rw[<-this]at hl
   match cs,hl with
   | [c],_=>exact⟨c,rfl,hr.1,CV⟩
 | [],[],_::_,_,h=>h.elim
 | [],[],[],_::_,h=>h.elim
 | [],_::_,_,_,h=>h.elim
 |_::_,[],_,_,h=>h.elim
def gF:Nat->List PS->List (Nat×Bool×Nat)->List (Nat×Nat)
 |i,.v _ _::ps,bs=>gF (i+1) ps bs
 |i,.x _::ps,b::bs=>(i,b.1)::gF (i+1) ps bs
 |_,_,_=>[]
def sY:List (Nat×Bool×Nat)->Nat
 | []=>0
 |b::bs=>b.2.2+sY bs
theorem Qy:∀(bs:List (Nat×Bool×Nat)) (a:Nat),(sw a bs).1=a+sY bs
 | [],a=>rfl
 |b::bs,a=>by obtain⟨bx,ag,n⟩:=b;simp only[sw,sY,Qy bs];omega
theorem Dn{w:World}{G:Gh}:∀{n a:Nat} {ts:List T} {vs:List Value},ts.length=n->ei G.q w ts vs->(∀j t,ts[j]?=some t->ρ[a+j]?=some t)->aS G w ρ (Bw a n) vs∧dt (Bw a n)=[]
 |0,a,[],[],_,_,_=>⟨trivial,rfl⟩
 |0,a,[],_::_,_,h,_=>h.elim
 |0,a,_::_,_,h,_,_=>by simp at h
 |n+1,a,[],_,h,_,_=>by simp at h
 |n+1,a,_::_,[],_,h,_=>h.elim
 |n+1,a,t::ts,v::vs,hl,h,mA=>by
  obtain⟨g1,g2⟩:=Dn (a:=a+1) (by simpa using hl) h.2 (λj t' hj=>by have:=mA (j+1) t' (by simpa using hj);rw[<-this];congr 1;omega)
  exact⟨⟨⟨t,mA 0 t rfl,h.1⟩,g1⟩,by simp[Bw,dt,g2]⟩
theorem Iq{bl:Nat->Option Nat}(hn:∀b,G'.q b=none->G2.q b=none){G1:Gh}{w:World}{pl:Bool}:
  ∀{ps:List PS} {args:List Value} {xs:List Lf} {bs:List (Nat×Bool×Nat)} {i a:Nat} {ts:List T},sW G1 w ρ pl ps args xs bs->gY G' w' bl i ps ts->(∀j t,ts[j]?=some t->ρ[a+j]?=some t)->
   (∀j bx,(j,bx)∈gF i ps bs->bl j=some (G2.β bx)∧G2.ω (G2.β bx)=some (.x bx))->
   ts.length=sY bs∧∀r u,(r,u)∈(sw a bs).2->∃j bx,(j,bx)∈gF i ps bs∧r=.x bx∧fC G2 w' ρ bx u∧cT u=[]
 | [],args,xs,bs,i,a,ts,hA,hB,mA,hp=>by
  obtain⟨_,_,rfl⟩:=hA
  cases hB
  exact⟨rfl,λr u h=>by simp[sw]at h⟩
 | .v ag n::ps,args,xs,bs,i,a,ts,hA,hB,mA,hp=>by
  obtain⟨c,eR,vs,x1,x2,_,_,_,_,_,_,hA⟩:=hA
  exact Iq (ps:=ps) (i:=i+1) hn hA hB mA hp
 | .x n::ps,args,xs,bs,i,a,ts,hA,hB,mA,hp=>by
  obtain⟨c,eR,bx,ag,wX,adU,QA,x1,x2,_,rfl,_,_,_,_,_,_,hA⟩:=hA
  obtain⟨b,bE,elem,t1,t2,hb,gj,hh,rfl,hl,hd,hB⟩:=hB
  obtain⟨q1,q2⟩:=hp i bx (by simp[gF])
  rw[hb]at q1
  cases q1
  obtain⟨g1,g2⟩:=Iq hn (a:=a+n) hA hB (λj t hj=>by
   have:=mA (n+j) t (by rw[List.getElem?_append_right (by omega)];rw[hl];simpa using hj)
   rw[<-this];congr 1;omega) (λj bx hj=>hp j bx (by simp[gF,hj]))
  obtain⟨g3,g4⟩:=Dn (a:=a) (G:=G2) (w:=w') hl (hd.aU (Nat.le_refl _) λb _ hb=>⟨hn b hb,rfl⟩) (λj t hj=>mA j t (by rw[List.getElem?_append_left (List.getElem?_eq_some_iff.1 hj).1];exact hj))
  refine⟨by simp[sY,hl,g1],λr u pN=>?_⟩
  simp only[sw,List.mem_cons,Prod.mk.injEq]at pN
  rcases pN with⟨rfl,rfl⟩|pN
  ·exact⟨i,bx,by simp[gF],rfl,⟨q2,bE,elem,hh,g3⟩,g4⟩
  ·obtain⟨j,vN,e1,e2⟩:=g2 r u pN
   exact⟨j,vN,by simp[gF,e1],e2⟩
end
def fZ(P:Program)(g:FuncId):Prop:=∃fn,P.funcs[g]?=some fn∧(fn.name== "runtime.NumGoroutine")=false∧fn.body.isNone=false
theorem QB{P:Program}{w:World}{g:FuncId}(h:fZ P g)(args:Array Value):(callFunc g args).run P w=.ok (.enter g args) w:=by
 obtain⟨fn,h1,h2,h3⟩:=h
 simp only[callFunc,Sem.run_bind,run_program,Result.andThen_ok,h1,h2,h3,dI,if_false,Sem.run_pure]
section
variable {M:Nat->Prop} {B:eu} {d:Nat} {up:Nat->Nat->Value} {ρ:List T} {G:Gh} {a:Act} {w:World} {S:Nat->af} {P:Program}
variable {cx:Cx} {cw eW oi:Nat} {s:St} {R:List bf} {ct:Ct} {k':Wk} {o:Oper} {Q:Exit->Act->World->Prop}
theorem Ir:∀{l:List Nat},ur l=true->l.Nodup
 | [],_=>List.nodup_nil
 |x::xs,h=>by
  simp only[ur,bA,Bool.not_eq_true']at h
  refine List.nodup_cons.2 ⟨λhm=>?_,Ir h.2⟩
  have:=h.1
  rw[List.any_eq_false]at this
  exact this x hm (by simp)
theorem zR:∀{ps:List PS} {bs:List (Nat×Bool×Nat)} {i j bx:Nat},(j,bx)∈gF i ps bs->i<=j∧j<i+ps.length
 | [],bs,i,j,bx,h=>by simp[gF]at h
 | .v _ _::ps,bs,i,j,bx,h=>by have:=zR (show(j,bx)∈gF (i+1) ps bs from h);simp only[List.length_cons];omega
 | .x _::ps,[],i,j,bx,h=>by simp[gF]at h
 | .x _::ps,b::bs,i,j,bx,h=>by
  simp only[gF,List.mem_cons,Prod.mk.injEq]at h
  simp only[List.length_cons]
  rcases h with⟨rfl,_⟩|h
  ·omega
  ·have:=zR h;omega
theorem zS:∀{ps:List PS} {bs:List (Nat×Bool×Nat)} {i j bx:Nat},(j,bx)∈gF i ps bs->bx∈bs.map (·.1)
 | [],bs,i,j,bx,h=>by simp[gF]at h
 | .v _ _::ps,bs,i,j,bx,h=>zS (show(j,bx)∈gF (i+1) ps bs from h)
 | .x _::ps,[],i,j,bx,h=>by simp[gF]at h
 | .x _::ps,b::bs,i,j,bx,h=>by
  simp only[gF,List.mem_cons,Prod.mk.injEq]at h
  rcases h with⟨_,rfl⟩|h
  ·simp
  ·have:=zS h;simp only[List.map_cons,List.mem_cons];exact .inr this
theorem Is:∀{ps:List PS} {bs:List (Nat×Bool×Nat)} {i:Nat},(bs.map (·.1)).Nodup->
  (∀j bx vN,(j,bx)∈gF i ps bs->(j,vN)∈gF i ps bs->bx=vN)∧(∀j j' bx,(j,bx)∈gF i ps bs->(j',bx)∈gF i ps bs->j=j')
 | [],bs,i,_=>⟨λ_ _ _ h=>by simp[gF]at h,λ_ _ _ h=>by simp[gF]at h⟩
 | .v _ _::ps,bs,i,hn=>Is (ps:=ps) (i:=i+1) hn
 | .x _::ps,[],i,_=>⟨λ_ _ _ h=>by simp[gF]at h,λ_ _ _ h=>by simp[gF]at h⟩
 | .x _::ps,b::bs,i,hn=>by
  simp only[List.map_cons,List.nodup_cons]at hn
  obtain⟨g1,g2⟩:=Is (ps:=ps) (i:=i+1) hn.2
  constructor
  ·intro j bx vN h h'
   simp only[gF,List.mem_cons,Prod.mk.injEq]at h h'
   rcases h with⟨rfl,rfl⟩|h<;>rcases h' with⟨h1,rfl⟩|h'
   ·rfl
   ·have:=zR h';omega
   ·have:=zR h;omega
   ·exact g1 j bx vN h h'
  ·intro j j' bx h h'
   simp only[gF,List.mem_cons,Prod.mk.injEq]at h h'
   rcases h with⟨rfl,rfl⟩|h<;>rcases h' with⟨h1,h2⟩|h'
   ·exact h1.symm
   ·exact absurd (zS h') hn.1
   ·subst h2;exact absurd (zS h) hn.1
   ·exact g2 j j' bx h h'
def sZ(β:Nat->Nat)(pr:List (Nat×Nat))(j:Nat):Option Nat:=(pr.find? λp=>p.1==j).map λp=>β p.2
def xd(pr:List (Nat×Nat))(bx:Nat):Option Nat:=(pr.find? λp=>p.2==bx).map (·.1)
theorem zU{β:Nat->Nat}{pr:List (Nat×Nat)}{j b:Nat}(h:sZ β pr j=some b):∃bx,(j,bx)∈pr∧b=β bx:=by
 unfold sZ at h
 cases hf:pr.find? (λp=>p.1==j)with
 |none=>simp[hf]at h
 |some p=>
  simp[hf]at h
  have h1:=List.mem_of_find?_eq_some hf
  have h2:=List.find?_some hf
  simp at h2
  exact⟨p.2,by rw[<-h2];exact h1,h.symm⟩
theorem adV{β:Nat->Nat}{pr:List (Nat×Nat)}{j bx:Nat}(hi:∀j bx vN,(j,bx)∈pr->(j,vN)∈pr->bx=vN)(h:(j,bx)∈pr):sZ β pr j=some (β bx):=by
 cases hf:sZ β pr j with
 |none=>
  unfold sZ at hf
  simp only[Option.map_eq_none_iff,List.find?_eq_none]at hf
  exact absurd (by simp) (hf _ h)
 |some b=>
  obtain⟨vN,h1,rfl⟩:=zU hf
  rw[hi j bx vN h h1]
theorem QC{pr:List (Nat×Nat)}{bx j:Nat}(h:xd pr bx=some j):(j,bx)∈pr:=by
 unfold xd at h
 cases hf:pr.find? (λp=>p.2==bx)with
 |none=>simp[hf]at h
 |some p=>
  simp[hf]at h
  have h1:=List.mem_of_find?_eq_some hf
  have h2:=List.find?_some hf
  simp at h2
  rw[<-h,<-h2];exact h1
theorem adW{pr:List (Nat×Nat)}{j bx:Nat}(hi:∀j j' bx,(j,bx)∈pr->(j',bx)∈pr->j=j')(h:(j,bx)∈pr):xd pr bx=some j:=by
 cases hf:xd pr bx with
 |none=>
  unfold xd at hf
  simp only[Option.map_eq_none_iff,List.find?_eq_none]at hf
  exact absurd (by simp) (hf _ h)
 |some j'=>rw[hi j j' bx h (QC hf)]
theorem qx{G:Gh}{b bx:Nat}(h:G.ω b=some (.x bx)):G.q b=some (.x bx):=y_ h rfl
def rZ(pl:Bool)(G:Gh)(pr:List (Nat×Nat))(b:Nat):Option Lb:=
 match G.q b with
 |none=>none
 |some .f=>some .f
 |some (.o _ _)=>if pl then some .f else none
 |some (.x bx)=>if b=G.β bx then(match xd pr bx with|some j=>some (.x j)|none=>some .f)else some .f
theorem adX{pl:Bool}{pr:List (Nat×Nat)}{b:Nat}(h:(if pl then G.q b else er G.ω b)=none):rZ pl G pr b=none:=by
 unfold rZ
 cases hg:G.q b with
 |none=>rfl
 |some l=>
  cases pl with
  |true=>simp[hg]at h
  |false=>
   have Pb:=Hz hg
   cases l<;>simp[er,Pb]at h⊢
theorem It{pl:Bool}{ωc:Nat->Option Lb}{bl:Nat->Option Nat}(gj:∀b,(if pl then G.q b else er G.ω b)=none->ωc b=none):
  ∀{ps:List PS} {args:List Value} {xs:List Lf} {bs:List (Nat×Bool×Nat)} {i:Nat},sW G w ρ pl ps args xs bs->(∀j bx,(j,bx)∈gF i ps bs->bl j=some (G.β bx)∧ωc (G.β bx)=some (.x j))->
   xb ωc w bl i ps args (xs.map (Lf.ev ρ))∧∀j bx,(j,bx)∈gF i ps bs->G.ω (G.β bx)=some (.x bx)
 | [],args,xs,bs,i,h,_=>by
  obtain⟨rfl,rfl,rfl⟩:=h
  exact⟨⟨rfl,rfl⟩,λj bx h=>by simp[gF]at h⟩
 | .v ag n::ps,args,xs,bs,i,h,hp=>by
  obtain⟨c,eR,vs,x1,x2,rfl,rfl,hl,m0,fi,ov,h⟩:=h
  obtain⟨g1,g2⟩:=It gj h (i:=i+1) hp
  refine⟨⟨c,eR,vs,_,_,rfl,List.map_append,by rw[List.length_map];exact hl,m0,?_,g1⟩,g2⟩
  cases pl with
  |true=>exact(ov rfl).aU (Nat.le_refl _) λb _ hb=>⟨gj b (by simpa using hb),rfl⟩
  |false=>exact fi.aU (Nat.le_refl _) λb _ hb=>⟨gj b (by simpa using hb),rfl⟩
 | .x n::ps,args,xs,bs,i,h,hp=>by
  obtain⟨c,eR,bx,ag,wX,bE,elem,x1,x2,rfl,rfl,hc,hb,hh,rfl,hl,hd,h⟩:=h
  obtain⟨g1,g2⟩:=It gj h (i:=i+1) λj bx hj=>hp j bx (by simp[gF,hj])
  obtain⟨q1,q2⟩:=hp i bx (by simp[gF])
  refine⟨⟨c,eR,G.β bx,bE,elem,_,_,rfl,hc,q1,q2,hh,List.map_append,by rw[List.length_map];exact hl,?_,g1⟩,λj vN hj=>?_⟩
  ·refine hd.aU (Nat.le_refl _) λb _ ji=>⟨gj b ?_,rfl⟩
   cases pl with
   |true=>simpa using ji
   |false=>simpa using OZ ji
  ·simp only[gF,List.mem_cons,Prod.mk.injEq]at hj
   rcases hj with⟨_,rfl⟩|hj
   ·exact hb
   ·exact g2 j vN hj
theorem Iu{pl:Bool}:∀{ps:List PS} {args:List Value} {xs:List Lf} {bs:List (Nat×Bool×Nat)} {i:Nat},sW G w ρ pl ps args xs bs->∀j bx,(j,bx)∈gF i ps bs->G.ω (G.β bx)=some (.x bx)
 | [],args,xs,bs,i,h,j,bx,hj=>by simp[gF]at hj
 | .v ag n::ps,args,xs,bs,i,h,j,bx,hj=>by
  obtain⟨c,eR,vs,x1,x2,rfl,rfl,hl,m0,fi,ov,h⟩:=h
  exact Iu (ps:=ps) (i:=i+1) h j bx hj
 | .x n::ps,args,xs,bs,i,h,j,bx,hj=>by
  obtain⟨c,eR,vN,ag,wX,bE,elem,x1,x2,rfl,rfl,hc,hb,hh,rfl,hl,hd,h⟩:=h
  simp only[gF,List.mem_cons,Prod.mk.injEq]at hj
  rcases hj with⟨_,rfl⟩|hj
  ·exact hb
  ·exact Iu (ps:=ps) (i:=i+1) h j bx hj
def Gh.call(G G':Gh)(sz:Nat)(rn:mu):Gh where
 ω:=λb=>if b<sz then G.ω b else match G'.ω b with
  |some (.o id p)=>(mE rn id).map λj=>.o j p
  |_=>none
 β:=G.β
 H:=λj=>match mX rn j with
  |some (some id)=>G'.H id
  |some none=>λ_=>.slice none 0 0
  |none=>G.H j
 hs:=λj p=>by
  rcases hr:mX rn j with _|(_|id)
  ·exact G.hs j p
  ·exact⟨_,_,_,rfl⟩
  ·exact G'.hs _ p
theorem QD{sg:mV}(h:oO sg=false):(∀k∈mc sg.rs,kP k=false)∧∀p∈sg.ps,∀n,p≠.x n:=by
 simp only[oO,Bool.or_eq_false_iff]at h
 obtain⟨h1,h2⟩:=h
 constructor
 ·generalize sg.rs=rs at h1
  induction rs with
  |nil=>intro k hk;simp[mc]at hk
  |cons r rs ih=>
   simp only[List.any_cons,Bool.or_eq_false_iff]at h1
   intro k hk
   simp only[mc,List.mem_append]at hk
   rcases hk with hk|hk
   ·have:=List.any_eq_false.1 h1.1 k hk
    cases k with
    |s=>rfl
    |p=>simp at this
    |o dp=>cases dp<;>simp at this⊢;rfl
   ·exact ih h1.2 k hk
 ·intro p hp n he
  subst he
  have:=List.any_eq_false.1 h2 _ hp
  simp at this
theorem QE{pl:Bool}:∀{ps:List PS} {args:List Value} {xs:List Lf} {bs:List (Nat×Bool×Nat)},(∀p∈ps,∀n,p≠.x n)->sW G w ρ pl ps args xs bs->bs=[]
 | [],_,_,_,_,h=>h.2.2
 | .v _ _::ps,args,xs,bs,hp,h=>by
  obtain⟨c,eR,vs,x1,x2,_,_,_,_,_,_,h⟩:=h
  exact QE (λp q_=>hp p (by simp[q_])) h
 | .x n::ps,args,xs,bs,hp,h=>absurd rfl (hp (.x n) (by simp) n)
theorem Iv{pl:Bool}{G':Gh}{w':World}{bl:Nat->Option Nat}:∀{ps:List PS} {args:List Value} {xs:List Lf} {bs:List (Nat×Bool×Nat)} {i:Nat} {ts:List T},sW G w ρ pl ps args xs bs->gY G' w' bl i ps ts->ts.length=sY bs
 | [],args,xs,bs,i,ts,hA,hB=>by
  obtain⟨_,_,rfl⟩:=hA
  cases hB
  rfl
 | .v _ _::ps,args,xs,bs,i,ts,hA,hB=>by
  obtain⟨c,eR,vs,x1,x2,_,_,_,_,_,_,hA⟩:=hA
  exact Iv (ps:=ps) (i:=i+1) hA hB
 | .x n::ps,args,xs,bs,i,ts,hA,hB=>by
  obtain⟨c,eR,bx,ag,wX,adU,QA,x1,x2,_,rfl,_,_,_,_,_,_,hA⟩:=hA
  obtain⟨b,bE,elem,t1,t2,hb,gj,hh,rfl,hl,hd,hB⟩:=hB
  have:=Iv hA hB
  simp[sY,hl,this]
theorem Dp:∀(ks:List Ck) (ct:Ct),(fo ct ks).1.a=ct.a+ks.length
 | [],ct=>rfl
 | .o dp::ks,ct=>by simp only[fo,Dp ks,List.length_cons];omega
 | .s::ks,ct=>by simp only[fo,Dp ks,List.length_cons];omega
 | .p::ks,ct=>by simp only[fo,Dp ks,List.length_cons];omega
theorem QF:∀{bs:List (Nat×Bool×Nat)} {a bx:Nat},bx∈bs.map (·.1)->(sw a bs).2.look (.x bx)≠none
 | [],a,bx,h=>by simp at h
 |b::bs,a,bx,h=>by
  obtain⟨b0,ag,n⟩:=b
  simp only[sw,St.look]
  cases hb:(bf.x b0).beq (.x bx)with
  |true=>simp
  |false=>
   simp only[List.map_cons,List.mem_cons]at h
   rcases h with rfl|h
   ·simp[bf.beq]at hb
   ·exact QF h
theorem adZ{G':Gh}{w':World}{rs:List (Bool×List Ck)}{v:Value}{ts:List T}{is:List (Option Nat)}(h:Im G' w' rs v ts is):∃vs:List Value,iI G' w' rs vs ts is∧
  ∀(G2:Gh) (w2:World) (ct:Ct),fX G2 w2 ρ (nc ct rs).2.1 vs->cz G2 w2 ρ (sx (nc ct rs).2.1) v:=by
 match rs,h with
 | [],h=>obtain⟨rfl,rfl⟩:=h;exact⟨[],trivial,λ_ _ _ _=>trivial⟩
 | [r],h=>exact⟨[v],h,λG2 w2 ct hr=>hr.1⟩
 |r::r'::rs,h=>
  obtain⟨vs,hv,h'⟩:=h
  exact⟨vs,h',λG2 w2 ct hr=>⟨vs,hv,hr⟩⟩
theorem QG:∀(rs:List (Bool×List Ck)) (ct:Ct),qM (nc ct rs).2.1=dt (fo ct (mc rs)).2.1
 | [],ct=>rfl
 |r::rs,ct=>by
  simp only[nc,mc,NJ,qM,HN]
  rw[QG rs]
theorem ad0(vs:List (Bool×List Ce)):∀i∈cT (sx vs),i∈qM vs:=by
 intro i hi
 match vs,hi with
 | [],hi=>simp[sx,cT]at hi
 | [v],hi=>simpa[sx,cT,qM]using hi
 |v::v'::vs,hi=>exact hi
theorem ad1(h:Rel M B d up s ρ G a w)(hn:∀n,o.dst=some n->n<a.tmps.size){c:Call}{g:Nat}(ho:o.op=.call c)(hc:c.callee=.value (.func g))(hg:fZ P g)
  {sg:mV}(hsg:cx.sg g=some sg)(hC:Dk P sg g (S g))(hk:iy cx cw eW d o oi ⟨s.only R,[],ct,[]⟩=some k')(hd:k'.bm S ρ)(hM:∀i,ct.i<=i->i<k'.ct.i->¬M i):
  bH P (Mn M ct.i k'.ct.i) B d up ρ a w s o k'.w Q:=by
 have hw:=db.start h R ct
 simp only[iy,ho,hc,hsg,Option.bind_some]at hk
 unfold OR at hk
 simp only[cm]at hk
 obtain⟨k1,wY,⟨k2,xs,bs⟩,eC,hk⟩:=hk
 cases BP:ur (bs.map (·.1))with
 |false=>simp[BP]at hk
 |true=>
  simp only[BP,cond_true,bc]at hk
  have ad2:=Ir BP
  have Iw:∀G1,gZ G G1->cO G1 w ρ (c.args.toList.map λx=>bY d (Wk.get ⟨s.only R,[],ct,[]⟩) x) (c.args.toList.map a.eval):=by
   intro G1 hl
   generalize c.args.toList=l
   induction l with
   |nil=>trivial
   |cons x l ih=>exact⟨(hw.gX x).1.aU (hl.aU w) λ_ _ hf=>hf,ih⟩
  obtain⟨pl,BD⟩:∃pl,pl=oO sg:=⟨_,rfl⟩
  obtain⟨G1,w1,l1,i1,rV,hD1⟩:∃G1,db M B d up ρ G a w k1 G1∧gZ G G1∧k1.ct=ct∧(pl=true->zo k1 (uq (c.args.toList.map λx=>bY d (Wk.get ⟨s.only R,[],ct,[]⟩) x)))∧k1.is=[]:=by
   cases hp:oO sg with
   |false=>
    rw[hp]at wY
    simp only[cond_false,bc]at wY
    subst wY
    exact⟨G,hw,.refl _,rfl,(λhe=>by rw[BD,hp]at he;cases he),rfl⟩
   |true=>
    rw[hp]at wY
    simp only[cond_true]at wY
    obtain⟨G1,q1,q2⟩:=hw.nv wY
    obtain⟨_,_,_,_,q3,q4,q5,_⟩:=hw.ef wY
    exact⟨G1,q1,q2,q3,λ_=>q5,q4⟩
  have Qr:bm S ρ k'.ct.a k'.is:=hd
  rw[<-hk]at Qr
  simp only at Qr
  obtain⟨n0,outs,e1,hS,bq,ov⟩:=Qr
  obtain⟨f1,f2⟩:=Qv sg.rs k2.ct
  have hma:k2.ct.a<=(nc k2.ct sg.rs).1.a:=by
   have key:∀(ks:List Ck) (ct:Ct),ct.a<=(fo ct ks).1.a:=by
    intro ks
    induction ks with
    |nil=>intro ct;exact Nat.le_refl _
    |cons k ks ih=>
     intro ct
     cases k with
     |s=>have:=ih ⟨ct.a+1,ct.i⟩;simp only[fo]at this⊢;omega
     |p=>have:=ih ⟨ct.a+1,ct.i⟩;simp only[fo]at this⊢;omega
     |o dp=>have:=ih ⟨ct.a+1,mW ct.i+1⟩;simp only[fo]at this⊢;omega
   rw[f1];exact key _ _
  have hba:=Qy bs (nc k2.ct sg.rs).1.a
  have wU:n0=k2.ct.a:=by omega
  subst wU
  have ad3:k2.bm S ρ:=ov
  obtain⟨_,i2,G2,w2,l2,hA⟩:=Io (pl:=pl) w1 (Iw G1 l1) rV eC ad3
  have hA:=hA G2 (.refl _)
  have hlG:gZ G G2:=l1.trans l2
  have uS:=Is (ps:=sg.ps) (i:=0) ad2
  have hx:=Iu (i:=0) hA
  have yf:∀j bx,(j,bx)∈gF 0 sg.ps bs->sZ G2.β (gF 0 sg.ps bs) j=some (G2.β bx)∧rZ pl G2 (gF 0 sg.ps bs) (G2.β bx)=some (.x j):=by
   intro j bx hj
   refine⟨adV uS.1 hj,?_⟩
   simp only[rZ,qx (hx j bx hj),if_true,adW uS.2 hj]
  obtain⟨jI,_⟩:=It (w:=w) (λb hb=>adX (pr:=gF 0 sg.ps bs) hb) hA yf
  have cf:vM sg (rZ pl G2 (gF 0 sg.ps bs)) (sZ G2.β (gF 0 sg.ps bs)) w:=by
   constructor
   ·intro b l hb
    cases nw:G2.q b with
    |none=>simp[rZ,nw]at hb
    |some l0=>
     refine⟨(w2.rel.gx b l0 (Hz nw)).2,?_⟩
     cases l0 with
     |f=>simp[rZ,nw]at hb;exact .inl hb.symm
     |o i p=>cases pl<;>simp[rZ,nw]at hb;exact .inl hb.symm
     |x bx=>
      simp only[rZ,nw]at hb
      split at hb
      ·rename_i yg
       split at hb
       ·rename_i j hj
        cases hb
        exact .inr ⟨j,rfl,by rw[yg];exact(yf j bx (QC hj)).1⟩
       ·cases hb;exact .inl rfl
      ·cases hb;exact .inl rfl
   ·intro i b hb
    obtain⟨bx,h1,rfl⟩:=zU hb
    exact⟨by have:=zR h1;omega,(yf i bx h1).2⟩
   ·intro x hx
    obtain⟨h1,h2,h3⟩:=w2.rel.base.abR x hx
    exact⟨h1,by simp[rZ,show G2.q x.1=none from wN h2],h3⟩
  have o_:=hC w _ _ (c.args.toList.map a.eval) _ outs hS cf jI
  have gp:(execOp a.eval o).run P w=.ok (.enter g (c.args.toList.map a.eval).toArray) w:=by
   unfold execOp
   rw[ho]
   show Sem.run P (do let d <-resolve a.eval c o.type;invoke d.target d.args) w=_
   simp only[resolve,hc,Act.eval,Deferred.ofValue,pure_bind,invoke]
   rw[QB hg]
   congr 2
   exact Array.ext' (by simp)
  simp only[bH,Oper.wp,gp,Oper.upon]
  refine o_.mono ?_
  rintro e w' ⟨v,G',is,o1,o2,rfl,gq⟩
  simp only
  let ks:=mc sg.rs
  obtain⟨rn,hrn⟩:∃rn,rn=jZ k2.ct.i ks is:=⟨_,rfl⟩
  let GG:=G2.call G' w.heap.size rn
  have hold:∀b,b<w.heap.size->GG.ω b=G2.ω b:=λb hb=>by show(if b<w.heap.size then _ else _)=_;rw[if_pos hb]
  have zV:∀b,¬b<w.heap.size->GG.ω b=match G'.ω b with|some (.o id p)=>(mE rn id).map λj=>.o j p|_=>none:=λb hb=>by show(if b<w.heap.size then _ else _)=_;rw[if_neg hb]
  have ad4:∀b,G2.q b=none->rZ pl G2 (gF 0 sg.ps bs) b=none:=λb hb=>by simp[rZ,hb]
  have o8:∀j bx,(j,bx)∈gF 0 sg.ps bs->G'.ω (G2.β bx)=some (.x j):=by
   intro j bx hj
   have key:∀{ps:List PS} {i0:Nat} {ts:List T} {wX:List (Nat×Bool×Nat)},gY G' w' (sZ G2.β (gF 0 sg.ps bs)) i0 ps ts->(j,bx)∈gF i0 ps wX->G'.ω (G2.β bx)=some (.x j):=by
    intro ps
    induction ps with
    |nil=>intro i0 ts wX _ hm;simp[gF]at hm
    |cons p ps ih=>
     intro i0 ts wX hB hm
     cases p with
     |v ag n=>exact ih (i0:=i0+1) hB hm
     |x n=>
      obtain⟨b',bE,elem,t1,t2,ji,ad5,hh',_,_,_,hB⟩:=hB
      cases wX with
      |nil=>simp[gF]at hm
      |cons b0 bs0=>
       simp only[gF,List.mem_cons,Prod.mk.injEq]at hm
       rcases hm with⟨rfl,_⟩|hm
       ·rw[(yf j bx hj).1]at ji;cases ji;exact ad5
       ·exact ih hB hm
   exact key gq.box hj
  have Ix:∀b,b<w.heap.size->∀i p,G'.ω b≠some (.o i p):=by
   intro b hb i p hi
   cases n4:rZ pl G2 (gF 0 sg.ps bs) b with
   |none=>have:=(gq.free b hb n4).1;rw[hi]at this;cases this
   |some l=>
    rcases(cf.gx b l n4).2 with rfl|⟨j,rfl,hj⟩
    ·have:=(gq.Bz b n4).1;rw[hi]at this;cases this
    ·obtain⟨bx,h1,rfl⟩:=zU hj
     rw[o8 j bx h1]at hi;cases hi
  have cQ:pl=true->∀b,G'.q b=none->GG.q b=none:=by
   intro hp b hb
   replace hb:=gq.qq (by rw[<-BD];exact hp) b hb
   by_cases a_:b<w.heap.size
   ·rw[Gh.uE (hold b a_)]
    cases n4:rZ pl G2 (gF 0 sg.ps bs) b with
    |none=>
     cases nw:G2.q b with
     |none=>rfl
     |some l=>
      exfalso
      cases l with
      |f=>simp[rZ,nw]at n4
      |o i p=>simp[rZ,nw,hp]at n4
      |x bx=>
       simp only[rZ,nw]at n4
       split at n4
       ·split at n4<;>cases n4
       ·cases n4
    |some l=>
     exfalso
     rcases(cf.gx b l n4).2 with rfl|⟨j,rfl,hj⟩
     ·have:=(gq.Bz b n4).1;rw[hb]at this;cases this
     ·obtain⟨bx,h1,rfl⟩:=zU hj
      rw[o8 j bx h1]at hb;cases hb
   ·exact wN (by rw[zV b a_,hb])
  obtain⟨vs,oA,ad6⟩:=adZ (ρ:=ρ) gq.ret
  obtain⟨us,P',htp⟩:=Qx (ρ:=ρ) oA
  have HD:=bR.len P'
  have m5:(nc k2.ct sg.rs).1.a=k2.ct.a+o1.length:=by rw[f1,Dp,HD.2.1]
  have tT:o2.length=sY bs:=Iv hA gq.box
  have hm:(sw (nc k2.ct sg.rs).1.a bs).1-k2.ct.a=o1.length+o2.length:=by omega
  have ad7:∀j t,o1[j]?=some t->ρ[k2.ct.a+j]?=some t:=by
   intro j t hj
   have a_:=(List.getElem?_eq_some_iff.1 hj).1
   rw[bq j (by omega),gq.outs,List.getD_eq_getElem?_getD,List.getElem?_append_left a_,hj]
   rfl
  have ad8:∀j t,o2[j]?=some t->ρ[(nc k2.ct sg.rs).1.a+j]?=some t:=by
   intro j t hj
   have a_:=(List.getElem?_eq_some_iff.1 hj).1
   have:=bq (o1.length+j) (by omega)
   rw[m5,Nat.add_assoc,this,gq.outs,List.getD_eq_getElem?_getD,List.getElem?_append_right (by omega),show o1.length+j-o1.length=j by omega,hj]
   rfl
  obtain⟨r1,r2,r3,r4,r5,r6⟩:=zQ (G2:=GG) (rn:=rn) (w':=w') (ρ:=ρ) (λj x hj=>by show(match mX rn j with|some (some id)=>G'.H id|some none=>_|none=>G2.H j)=_;rw[hj];cases x<;>rfl)
   (λj id hj c r hcr=>by
    have a_:¬c<w.heap.size:=λa_=>Ix c a_ _ _ hcr
    rw[zV c a_,hcr];simp only[hj,Option.map_some]) P' (ct:=k2.ct) ad7
   (λk hk hkp=>cQ (by
    rw[BD]
    cases hh:oO sg with
    |true=>rfl
    |false=>have:=(QD hh).1 k hk;rw[hkp]at this;cases this)) (λj x hj=>by rw[hrn];exact Dm hj) (λj id hj=>by rw[hrn];exact zP gq.nodup hj)
  have tS:∀r u,(r,u)∈(sw (nc k2.ct sg.rs).1.a bs).2->∃j bx,(j,bx)∈gF 0 sg.ps bs∧r=.x bx∧fC GG w' ρ bx u∧cT u=[]:=by
   cases hp:oO sg with
   |false=>
    have HS:bs=[]:=QE (QD hp).2 hA
    subst HS
    intro r u pN
    simp[sw]at pN
   |true=>
    refine(Iq (cQ (by rw[BD,hp])) hA gq.box ad8 λj bx hj=>?_).2
    have a_:=(w2.rel.gx _ _ (hx j bx hj)).2
    exact⟨(yf j bx hj).1,by show GG.ω (G2.β bx)=_;rw[hold _ a_];exact hx j bx hj⟩
  have jV:k2.ct.i=ct.i:=by rw[i2,i1]
  have hki:k'.ct.i=(fo k2.ct ks).1.i:=by rw[<-hk];show(nc k2.ct sg.rs).1.i=_;rw[f1]
  have hW:k'.w=(eP d o (sx (nc k2.ct sg.rs).2.1)++((fo k2.ct ks).2.2++(sw (nc k2.ct sg.rs).1.a bs).2))++k2.w:=by
   rw[<-hk]
   show(_++((nc k2.ct sg.rs).2.2++_))++_=_
   rw[f2];rfl
  have hN:∀i,ct.i<=i->i<k'.ct.i->¬M i:=hM
  have hK:da (ng (eP d o (sx (nc k2.ct sg.rs).2.1)++((fo k2.ct ks).2.2++(sw (nc k2.ct sg.rs).1.a bs).2))) (λi=>ct.i<=i∧i<k'.ct.i) G2 w GG w':=by
   refine⟨gq.size,λb hb h0=>⟨by rw[Gh.uE (hold b hb)];exact h0,(gq.free b hb (ad4 b h0)).2⟩,λb hb h0=>by rw[hold b hb];exact h0,λb l hb hl=>?_,λi hi=>⟨rfl,?_⟩⟩
   ·have a_:=(w2.rel.gx b l hb).2
    refine⟨by rw[hold b a_];exact hb,?_⟩
    cases n4:rZ pl G2 (gF 0 sg.ps bs) b with
    |none=>exact(gq.free b a_ n4).2
    |some l'=>
     rcases(cf.gx b l' n4).2 with rfl|⟨j,rfl,hj⟩
     ·exact(gq.Bz b n4).2
     ·exfalso
      obtain⟨bx,h1,rfl⟩:=zU hj
      rw[hx j bx h1]at hb
      cases hb
      refine hl ?_
      show St.look _ (bf.x bx)≠none
      rw[jX,jX]
      intro e
      have e1:=(Option.or_eq_none_iff.1 (Option.or_eq_none_iff.1 e).2).2
      exact QF (zS h1) e1
   ·intro p _
    refine congrFun (?_:(match mX rn i with|some (some id)=>G'.H id|some none=>λ_=>.slice none 0 0|none=>G2.H i)=G2.H i) p
    cases ra:mX rn i with
    |none=>rfl
    |some x=>
     have ic:=NI ra
     rw[hrn]at ic
     exact absurd ⟨by rw[<-jV];exact(Ip ic).1,by rw[hki];exact r5 i x ic⟩ hi
  rw[hW]
  refine⟨GG,F7 h w2 (λr=>jX _ _ r) hK (λi hi=>hN i hi.1 hi.2) (λi hi=>.inl hi) (λn m4=>F8 m4) gq.so ?_,x_ _ _ _⟩
  have bu:∀r u,(r,u)∈(fo k2.ct ks).2.2->∃j,r=.o j∧ct.i<=j∧j<k'.ct.i∧cA GG w' ρ j u∧cT u=[]:=by
   intro r u pN
   obtain⟨j,g1,g2,g3,g4⟩:=r6 r u pN
   exact⟨j,g1,by rw[<-jV];exact g2,by rw[hki];exact g3,g4⟩
  have hmb:∀j bx,(j,bx)∈gF 0 sg.ps bs->M bx:=λj bx hj=>(w2.rel.gx _ _ (hx j bx hj)).1
  have pc:∀r u,St.look ((fo k2.ct ks).2.2++(sw (nc k2.ct sg.rs).1.a bs).2) r=some u->(r,u)∈(fo k2.ct ks).2.2∨(r,u)∈(sw (nc k2.ct sg.rs).1.a bs).2:=
   λr u hl=>List.mem_append.1 (Dl hl)
  refine⟨λe n u he hl=>?_,λb u hl=>?_,λi u hl=>?_,λr u hl i hi=>?_,λi hi=>?_,λb l hb=>?_⟩
  ·rcases jD hl with⟨n',gm,e1,rfl⟩|hl
   ·cases e1
    rw[gm,Nr (hn _ gm)]
    exact ad6 GG w' k2.ct (htp GG w' k2.ct r1)
   ·rcases pc _ _ hl with hm|hm
    ·obtain⟨j,e1,_⟩:=bu _ _ hm;cases e1
    ·obtain⟨j,bx,_,e1,_⟩:=tS _ _ hm;cases e1
  ·rcases jD hl with⟨n',gm,e1,rfl⟩|hl
   ·cases e1
   ·rcases pc _ _ hl with hm|hm
    ·obtain⟨j,e1,_⟩:=bu _ _ hm;cases e1
    ·obtain⟨j,bx,_,e1,e2,_⟩:=tS _ _ hm;cases e1;exact e2
  ·rcases jD hl with⟨n',gm,e1,rfl⟩|hl
   ·cases e1
   ·rcases pc _ _ hl with hm|hm
    ·obtain⟨j,e1,_,_,e2,_⟩:=bu _ _ hm;cases e1;exact e2
    ·obtain⟨j,bx,_,e1,_⟩:=tS _ _ hm;cases e1
  ·rcases jD hl with⟨n',gm,e1,rfl⟩|hl
   ·have:=ad0 _ i hi
    rw[QG]at this
    have:=r4 i this
    exact .inr ⟨by omega,by rw[hki];exact this.2⟩
   ·rcases pc _ _ hl with hm|hm
    ·obtain⟨j,_,_,_,_,e2⟩:=bu _ _ hm;rw[e2]at hi;cases hi
    ·obtain⟨j,bx,_,_,_,e2⟩:=tS _ _ hm;rw[e2]at hi;cases hi
  ·have:∀r:bf,(r=.x i∨r=.o i)->St.look (eP d o (sx (nc k2.ct sg.rs).2.1)++((fo k2.ct ks).2.2++(sw (nc k2.ct sg.rs).1.a bs).2)) r≠none->Mn M ct.i k'.ct.i i:=by
    intro r hr hl
    obtain⟨u,hu⟩:=Option.ne_none_iff_exists'.1 hl
    rcases jD hu with⟨n',gm,e1,rfl⟩|hl
    ·rcases hr with rfl|rfl<;>cases e1
    ·rcases pc _ _ hl with hm|hm
     ·obtain⟨j,e1,g1,g2,_⟩:=bu _ _ hm
      rcases hr with rfl|rfl
      ·cases e1
      ·cases e1;exact .inr ⟨g1,g2⟩
     ·obtain⟨j,bx,hj,e1,_⟩:=tS _ _ hm
      rcases hr with rfl|rfl
      ·cases e1;exact .inl (hmb j _ hj)
      ·cases e1
   rcases hi with hi|hi
   ·exact this _ (.inl rfl) hi
   ·exact this _ (.inr rfl) hi
  ·by_cases a_:b<w.heap.size
   ·rw[hold b a_]at hb
    have:=w2.rel.gx b l hb
    exact⟨.inl this.1,by have:=gq.size;omega⟩
   ·rw[zV b a_]at hb
    cases nw:G'.ω b with
    |none=>rw[nw]at hb;cases hb
    |some l'=>
     rw[nw]at hb
     cases l' with
     |f=>cases hb
     |x i=>cases hb
     |o i p=>
      simp only[Option.map_eq_some_iff]at hb
      obtain⟨j,hj,rfl⟩:=hb
      have ic:=NH hj
      rw[hrn]at ic
      exact⟨.inr ⟨by rw[<-jV];exact(Ip ic).1,by rw[hki];exact r5 j _ ic⟩,gq.gx b _ nw⟩
structure Env (P:Program) (cx:Cx) (S:Nat->af):Prop where
 dC:dU P cx
 fns:∀g sg,cx.sg g=some sg->fZ P g∧Dk P sg g (S g)
 cP:∀g fn,cx.fn g=some fn->P.funcs[g]?=some fn∧fZ P g
theorem bH.quiet{W:St}(h:bH P M B d up ρ a w s o W Q∧k'.ct.i=ct.i):bH P (Mn M ct.i k'.ct.i) B d up ρ a w s o W Q:=h.1.mono λi hi=>.inl hi
theorem ad9(E:Env P cx S)(h:Rel M B d up s ρ G a w)(hn:∀n,o.dst=some n->n<a.tmps.size)
  (hk:iy cx cw eW d o oi ⟨s.only R,[],ct,[]⟩=some k')(hd:k'.bm S ρ)(hM:∀i,ct.i<=i->i<k'.ct.i->¬M i):bH P (Mn M ct.i k'.ct.i) B d up ρ a w s o k'.w Q:=by
 have hw:=db.start h R ct
 cases dN:o.op with
 |move x=>exact bH.quiet (O3 h hn (.inl dN) hk)
 |assign x=>exact bH.quiet (O3 h hn (.inr dN) hk)
 |alloc t=>exact acy E.dC h hn dN hk hM
 |box t x=>exact acz E.dC h hn dN hk hM
 |build t ps=>exact bH.quiet (acu E.dC h hn dN hk)
 |buildSlice t n ps=>exact adB E.dC h hn dN hk hd hM
 |makeSlice t x y=>exact acX E.dC h hn dN hk hd hM
 |load t x=>
  simp only[iy,dN,cm,bc]at hk
  obtain⟨⟨k1,v⟩,hv,hk⟩:=hk
  split at hv
  ·rename_i r hT
   cases rV:cx.fz cw eW oi with
   |false=>rw[rV]at hT;cases hT
   |true=>rw[rV]at hT;cases hv;exact adP E.dC h hn dN hT hk hd hM
  ·exact bH.quiet (ack E.dC h hn dN ⟨k1,v,hv,hk⟩ hd)
 |store t x y=>
  simp only[iy,dN,cm,bc]at hk
  obtain⟨k1,cf,hk⟩:=hk
  split at cf
  ·rename_i k2 hD
   cases cf
   cases rV:cx.fz cw eW oi with
   |true=>rw[rV]at hD;cases hD
   |false=>rw[rV]at hD;exact bH.quiet (adG E.dC h hn dN ⟨k1,hD,hk⟩ hd)
  ·exact bH.quiet (acN E.dC h hn dN ⟨k1,cf,hk⟩ hd)
 |nilCheck x=>exact bH.quiet (acf h hn dN hk)
 |binOp op t x y yt=>
  have QH:=hk
  simp only[iy,dN]at hk
  split at hk
  ·rename_i c e wQ CU;exact bH.quiet (ab4 E.dC h hn dN wQ CU QH hd)
  ·rename_i es bs wQ CU;exact bH.quiet (adE E.dC h hn dN wQ CU QH hd)
  ·cases hk
 |unOp op t x=>exact bH.quiet (ab7 h hn dN hk hd)
 |slice t x lo hi mx=>
  cases hT:(bif mx.isSome then none else yO cx ⟨s.only R,[],ct,[]⟩ t (bY d (Wk.get ⟨s.only R,[],ct,[]⟩) x) (lo.map (bY d (Wk.get ⟨s.only R,[],ct,[]⟩))) (hi.map (bY d (Wk.get ⟨s.only R,[],ct,[]⟩))))with
  |none=>exact bH.quiet (acQ E.dC h hn dN hT hk hd)
  |some kv=>
   refine adL E.dC h hn dN hT ?_ hd hM
   simp only[iy,dN]at hk
   rw[hT]at hk
   exact Option.some.inj hk
 |fieldAddr t x f=>exact bH.quiet (ach E.dC h hn dN hk)
 |indexAddr t x y=>exact bH.quiet (acr E.dC h hn dN hk hd)
 |index t x y=>
  simp only[iy,dN,cm]at hk
  obtain⟨ti,fj,⟨k1,y1⟩,h1,⟨k2,y2⟩,h2,hk⟩:=hk
  cases hc:Nat.beq ti.kd 2 with
  |false=>simp[hc]at hk
  |true=>
   simp only[hc,cond_true,bc]at hk
   have cJ:bP d o (k2.em .idx [y1,y2]).1 (.v false [.p (k2.em .idx [y1,y2]).2])=k':=hk
   subst cJ
   exact bH.quiet (ace h hn dN E.dC fj (du hc) hw h1 h2 hd)
 |extract x i=>exact bH.quiet (acg h hn dN hk)
 |makeFunc f first wE=>exact bH.quiet (acA h hn dN hk)
 |call c=>
  have QH:=hk
  simp only[iy,dN]at hk
  split at hk
  ·rename_i x hc eC
   simp only[cm]at hk
   obtain⟨ti,fj,⟨k1,y⟩,h1,hk⟩:=hk
   cases h3:Nat.beq ti.kd 3 with
   |true=>
    simp only[h3,cond_true,bc]at hk
    have cJ:bP d o (k1.em .len [y]).1 (.v false [.p (k1.em .len [y]).2])=k':=hk
    subst cJ
    exact bH.quiet (acb h hn E.dC dN hc eC (Option.bind_eq_some_iff.2 fj) (du h3) hw h1 hd)
   |false=>
    simp only[h3,cond_false]at hk
    cases h2:Nat.beq ti.kd 2 with
    |false=>simp[h2]at hk
    |true=>
     simp only[h2,cond_true,bc]at hk
     have cJ:bP d o (k1.em .lens [y]).1 (.v false [.p (k1.em .lens [y]).2])=k':=hk
     subst cJ
     exact bH.quiet (acd h hn E.dC dN hc eC (Option.bind_eq_some_iff.2 fj) (du h2) hw h1 hd)
  ·rename_i x y hc eC
   simp only[cm,bc]at hk
   obtain⟨⟨k1,y1⟩,h1,⟨k2,y2⟩,h2,hk⟩:=hk
   have cJ:bP d o (k2.em .mx [y1,y2]).1 (.v false [.p (k2.em .mx [y1,y2]).2])=k':=hk
   subst cJ
   exact bH.quiet (O7 h hn dN eC (.inl ⟨hc,rfl⟩) hw h1 h2 hd)
  ·rename_i x y hc eC
   simp only[cm,bc]at hk
   obtain⟨⟨k1,y1⟩,h1,⟨k2,y2⟩,h2,hk⟩:=hk
   have cJ:bP d o (k2.em .mn [y1,y2]).1 (.v false [.p (k2.em .mn [y1,y2]).2])=k':=hk
   subst cJ
   exact bH.quiet (O7 h hn dN eC (.inr ⟨hc,rfl⟩) hw h1 h2 hd)
  ·rename_i x y hc eC
   exact adq E.dC h hn dN hc eC QH hd hM
  ·rename_i x0 xs0 g hc
   simp only[cm]at hk
   obtain⟨sg,hsg,_⟩:=hk
   obtain⟨q1,q2⟩:=E.fns g sg hsg
   exact ad1 h hn dN hc q1 hsg q2 QH hd hM
  ·cases hk
 |convert t1 t2 x=>exact bH.quiet (ab' E.dC h hn dN hk hd)
 |_=>simp[iy,dN]at hk
end
theorem Lf.gK{ρ e:List T}{x:Lf}{t:T}(h:x.fq ρ=some t):x.fq (ρ++e)=some t:=by
 cases x with
 |k v=>exact h
 |a n=>simp only[Lf.fq]at h⊢;rw[List.getElem?_append_left (List.getElem?_eq_some_iff.1 h).1];exact h
 |e=>exact h
theorem Dq{ρ e:List T}{x:Lf}{i:Nat}(h:ll ρ x=some i):ll (ρ++e) x=some i:=by
 unfold ll at h⊢
 cases hx:x.fq ρ with
 |none=>simp[hx]at h
 |some t=>rw[Lf.gK hx];rw[hx]at h;exact h
theorem QI{ρ e:List T}:∀{q:mq} {p:List (Nat×Nat)},fW ρ q=some p->fW (ρ++e) q=some p
 | [],p,h=>h
 |(x,w,j)::q,p,h=>by
  simp only[fW,cm,bc]at h⊢
  obtain⟨i,h1,p',h2,rfl⟩:=h
  exact⟨i,Dq h1,p',QI h2,rfl⟩
theorem QJ{ρ e:List T}{id:Nat}{q:mq}{p:List (Nat×Nat)}(h:ki ρ id q=some p):ki (ρ++e) id q=some p:=by
 cases q with
 |nil=>exact h
 |cons x q=>
  simp only[ki]at h⊢
  split at h
  ·rename_i hi;rw[if_pos hi];exact QI h
  ·cases h
section
variable {G:Gh} {w:World} {ρ e:List T}
theorem fH.ext{c:Ce}{v:Value}(h:fH G w ρ c v):fH G w (ρ++e) c v:=by
 cases c with
 |p x=>obtain⟨t,h1,h2⟩:=h;exact⟨t,Lf.gK h1,h2⟩
 |o id q=>obtain⟨p,h1,h2⟩:=h;exact⟨p,QJ h1,h2⟩
 |n=>exact h
 |d=>exact h
theorem aS.ext:∀{cs:List Ce} {vs:List Value},aS G w ρ cs vs->aS G w (ρ++e) cs vs
 | [],[],_=>trivial
 |_::_,_::_,h=>⟨h.1.ext,aS.ext h.2⟩
 | [],_::_,h=>h.elim
 |_::_,[],h=>h.elim
theorem eZ.ext{ag:Bool}{cs:List Ce}{c:Value}(h:eZ G w ρ ag cs c):eZ G w (ρ++e) ag cs c:=by
 cases ag with
 |true=>obtain⟨vs,h1,h2⟩:=h;exact⟨vs,h1,h2.ext⟩
 |false=>obtain⟨x,rfl,h2,h3⟩:=h;exact⟨x,rfl,h2.ext,h3⟩
theorem fX.ext:∀{cs:List (Bool×List Ce)} {vs:List Value},fX G w ρ cs vs->fX G w (ρ++e) cs vs
 | [],[],_=>trivial
 |_::_,_::_,h=>⟨h.1.ext,fX.ext h.2⟩
 | [],_::_,h=>h.elim
 |_::_,[],h=>h.elim
theorem cz.ext{v:SV}{c:Value}(h:cz G w ρ v c):cz G w (ρ++e) v c:=by
 cases v with
 |un=>trivial
 |v ag cs=>exact eZ.ext h
 |pt b off=>exact h
 |ep id q ix wd off=>obtain⟨p,b,n,cap,i,h1,h2,h3,h4⟩:=h;exact⟨p,b,n,cap,i,QJ h1,h2,Dq h3,h4⟩
 |fp s ix wd off=>obtain⟨xs,i,r,b,base,h1,h2,h3⟩:=h;exact⟨xs,i,r,b,base,Lf.gK h1,Dq h2,h3⟩
 |tp vs=>obtain⟨us,h1,h2⟩:=h;exact⟨us,h1,h2.ext⟩
 |cl f bs=>exact h
 |ob dp x=>exact h
 |fz pv x=>exact h
 |tk x m=>exact h
 |fl x=>exact h
 |fr x=>exact h
theorem fC.ext{b:Nat}{v:SV}(h:fC G w ρ b v):fC G w (ρ++e) b v:=by
 cases v with
 |v ag cs=>obtain⟨h1,bE,elem,h2,h3⟩:=h;exact⟨h1,bE,elem,h2,h3.ext⟩
 |_=>exact h
theorem cA.ext{b:Nat}{v:SV}(h:cA G w ρ b v):cA G w (ρ++e) b v:=by
 cases v with
 |ob dp x=>obtain⟨t,h1,h2⟩:=h;exact⟨t,Lf.gK h1,h2⟩
 |fz pv x=>
  obtain⟨t,h1,h2,h3⟩:=h
  refine⟨t,Lf.gK h1,h2,?_⟩
  cases pv with
  |z=>trivial
  |w tk x0 lo=>obtain⟨g0,F,n,zs,g1,g2,g3⟩:=h3;exact⟨g0,F,n,zs,Lf.gK g1,Dq g2,g3⟩
 |tk x m=>obtain⟨h0,F,u,h1,h2,h3⟩:=h;exact⟨h0,F,u,Lf.gK h1,Lf.gK h2,h3⟩
 |fl x=>obtain⟨h0,t,h1,h2⟩:=h;exact⟨h0,t,Lf.gK h1,h2⟩
 |fr x=>obtain⟨h0,t,h1,h2⟩:=h;exact⟨h0,t,Lf.gK h1,h2⟩
 |_=>exact h
theorem Rel.ext{M:Nat->Prop}{B:eu}{d:Nat}{up:Nat->Nat->Value}{s:St}{a:Act}(h:Rel M B d up s ρ G a w):Rel M B d up s (ρ++e) G a w:=
 ⟨λx n hx=>(h.tm x n hx).ext,λb=>(h.bx b).ext,λi=>(h.ob i).ext,h.fD,h.key,h.gx,h.dn,h.base,h.bt⟩
end
theorem Lf.rb{ρ e:List T}{x:Lf}(h:x.iO ρ.length=true):x.ev (ρ++e)=x.ev ρ:=by
 cases x with
 |k v=>rfl
 |a n=>
  have a_:n<ρ.length:=Nat.lt_of_succ_le (by simpa[Lf.iO,Nat.blt]using h)
  simp only[Lf.ev,List.getD_eq_getElem?_getD]
  rw[List.getElem?_append_left a_]
 |e=>rfl
theorem QK{ρ e:List T}{xs:List Lf}(h:xs.all (Lf.iO ρ.length)=true):xs.map (Lf.ev (ρ++e))=xs.map (Lf.ev ρ):=
 List.map_congr_left λx hx=>Lf.rb (List.all_eq_true.1 h x hx)
theorem Iy(ts:List T):∀(m i:Nat),(ia ts i m).length=m
 |0,_=>rfl
 |m+1,i=>by simp[ia,Iy ts m]
theorem QL(ts:List T):∀(m i j:Nat),j<m->(ia ts i m)[j]?=some (ts.getD (i+j) T.cC)
 |0,_,j,h=>by omega
 |m+1,i,0,_=>by simp[ia]
 |m+1,i,j+1,h=>by
  simp only[ia,List.getElem?_cons_succ]
  rw[QL ts m (i+1) j (by omega)]
  congr 2;omega
section
variable {S:Nat->af} {R:Nat} {K:List af} {out:List T}
theorem Dr:∀{is:List Ch} {p:PL} {ρ:List T},qJ (ρ.length+pJ is) is=true->(wrap is p).den S R K ρ=some out->
  ∃ts,ts.length=pJ is∧p.den S R K (ρ++ts)=some out∧∀e,bm S (ρ++ts++e) (ρ.length+pJ is) is
 | [],p,ρ,_,h=>⟨[],rfl,by rw[List.append_nil];exact h,λ_=>trivial⟩
 | .pr q xs::is,p,ρ,dQ,h=>by
  simp only[qJ,pJ,bA]at dQ
  have e0:ρ.length+(pJ is+1)-1=ρ.length+pJ is:=by omega
  rw[e0]at dQ
  obtain⟨ts,h1,h2,h3⟩:=Dr (is:=is) dQ.2 (show(wrap is (.ins (.pr q xs) p)).den S R K ρ=some out from h)
  simp only[PL.den,cm]at h2
  obtain⟨t,h4,h5⟩:=h2
  have hl:(ρ++ts).length=ρ.length+pJ is:=by simp[h1]
  refine⟨ts++[t],by simp[pJ,h1],by simpa using h5,λe=>⟨ρ.length+pJ is,t,rfl,?_,?_,?_⟩⟩
  ·have:=QK (ρ:=ρ++ts) (e:=t::e) (xs:=xs) (by rw[hl];exact dQ.1.2)
   simp only[List.append_assoc,List.cons_append,List.nil_append]at this⊢
   rw[this]
   simpa using h4
  ·rw[<-hl];simp
  ·have:=h3 (t::e)
   simpa using this
 | .cl g xs m::is,p,ρ,dQ,h=>by
  simp only[qJ,pJ,bA]at dQ
  have e0:ρ.length+(pJ is+m)-m=ρ.length+pJ is:=by omega
  rw[e0]at dQ
  obtain⟨ts,h1,h2,h3⟩:=Dr (is:=is) dQ.2 (show(wrap is (.ins (.cl g xs m) p)).den S R K ρ=some out from h)
  simp only[PL.den,cm]at h2
  obtain⟨us,h4,h5⟩:=h2
  have hl:(ρ++ts).length=ρ.length+pJ is:=by simp[h1]
  refine⟨ts++ia us 0 m,by simp[pJ,h1,Iy],by simpa using h5,λe=>⟨ρ.length+pJ is,us,by simp only[pJ];omega,?_,λi hi=>?_,?_⟩⟩
  ·have:=QK (ρ:=ρ++ts) (e:=ia us 0 m++e) (xs:=xs) (by rw[hl];exact dQ.1.2)
   simp only[List.append_assoc]at this⊢
   rw[this]
   simpa using h4
  ·rw[<-hl,List.append_assoc,List.append_assoc,<-List.append_assoc ρ ts,List.getElem?_append_right (by omega),show(ρ++ts).length+i-(ρ++ts).length=i by omega,
    List.getElem?_append_left (by rw[Iy];exact hi),QL _ _ _ _ hi]
   simp
  ·have:=h3 (ia us 0 m++e)
   simpa using this
end
def c8(fs:jt)(ρ:List T):Prop:=∀n b,fact fs n=some b->ρ[n]?=some (.c (.bool b))
theorem c8.ext{fs:jt}{ρ e:List T}(h:c8 fs ρ):c8 fs (ρ++e):=λn b hn=>by
 have:=h n b hn
 rw[List.getElem?_append_left (List.getElem?_eq_some_iff.1 this).1];exact this
theorem c8.cons{fs:jt}{ρ:List T}{n:Nat}{b:Bool}(h:c8 fs ρ)(hn:ρ[n]?=some (.c (.bool b))):c8 ((n,b)::fs) ρ:=by
 intro m c hm
 simp only[fact]at hm
 cases hb:Nat.beq n m with
 |true=>simp[hb]at hm;subst hm;rw[<-du hb];exact hn
 |false=>simp[hb]at hm;exact h m c hm
section
variable {G:Gh} {w:World} {ρ:List T} {fs:jt}
theorem Ds{sv:SV}{c:Value}{b:Bool}(h:pW fs sv=.is b)(hr:cz G w ρ sv c)(hf:c8 fs ρ):c=.bool b:=by
 unfold pW at h
 split at h
 ·cases h
 ·split at h
  ·rename_i b' hb
   cases h
   unfold Hp at hb
   split at hb
   ·cases hb
    obtain⟨e,he,oJ,_⟩:=hr
    cases he
    obtain⟨t,h1,h2⟩:=oJ
    simp only[Lf.fq,jH,cond_true,bc]at h1
    subst h1
    exact h2.scalar.1
   ·cases hb
  ·rename_i n hb
   unfold Hp at hb
   split at hb
   ·cases hb
    split at h
    ·rename_i b' QM
     cases h
     obtain⟨e,he,oJ,_⟩:=hr
     cases he
     obtain⟨t,h1,h2⟩:=oJ
     have:=hf n b QM
     simp only[Lf.fq]at h1
     rw[this]at h1
     cases h1
     exact h2.scalar.1
    ·cases h
   ·cases hb
  ·cases h
theorem ad_{sv:SV}{c:Value}(h:pW fs sv=.nil)(hr:cz G w ρ sv c):∃us,c=.tuple us:=by
 unfold pW at h
 split at h
 ·obtain⟨us,h1,_⟩:=hr;exact⟨_,h1⟩
 ·split at h
  ·cases h
  ·split at h<;>cases h
  ·cases h
end
section
variable {M:Nat->Prop} {B:eu} {d:Nat} {up:Nat->Nat->Value} {ρ:List T} {G:Gh} {a:Act} {w:World} {S:Nat->af} {P:Program}
variable {cx:Cx} {cw eW oi:Nat} {s:St} {R:Nat} {ct:Ct} {k':Wk} {o:Oper} {Q:Exit->Act->World->Prop} {ops:Array Oper} {nt:Nat} {fs:jt}
def gw(d:Nat)(ops:Array Oper)(o:Oper)(fs:jt)(s:St):Option Bool:=
 match o.guard with
 |none=>some true
 |some (j,ju)=>match(ops[j]?).bind (·.dst)with
  |none=>none
  |some g=>match pW fs (s.get (.t d g))with
   | .nil=>some false
   | .is b=>some (b==ju)
   |_=>none
theorem Iz{s':St}(h:∀r∈xY d ops o,s'.get r=s.get r):gw d ops o fs s'=gw d ops o fs s:=by
 unfold gw xY at*
 cases hg:o.guard with
 |none=>rfl
 |some jw=>
  obtain⟨j,ju⟩:=jw
  simp only[hg]at h
  cases hb:(ops[j]?).bind (·.dst)with
  |none=>simp only[hb]
  |some g=>
   simp only[hb]at h⊢
   simp only[h (.t d g) (by simp)]
theorem Dt{x:Bool}(h:gw d ops o fs s=some x)(hr:Rel M B d up s ρ G a w)(hf:c8 fs ρ):Region.wanted o (yielded ops a.tmps)=x:=by
 unfold gw at h
 unfold Region.wanted
 cases hg:o.guard with
 |none=>simp[hg]at h;simp[h]
 |some jw=>
  obtain⟨j,ju⟩:=jw
  simp only[hg]at h
  cases hb:(ops[j]?).bind (·.dst)with
  |none=>simp[hb]at h
  |some g=>
   simp only[hb]at h
   have ht:=hr.tm d g (Nat.le_refl _)
   simp only[nW,if_true]at ht
   cases hd:pW fs (s.get (.t d g))with
   |nil=>
    simp only[hd,bc]at h
    subst h
    obtain⟨us,hu⟩:=ad_ hd ht
    simp only[yielded,hb,Option.bind_some]
    rw[Array.getD_eq_getD_getElem?]at hu
    cases hx:a.tmps[g]? with
    |none=>simp
    |some v=>rw[hx]at hu;simp only[Option.getD_some]at hu;subst hu;simp
   |is b=>
    simp only[hd,bc]at h
    have hu:=Ds hd ht hf
    simp only[yielded,hb,Option.bind_some]
    rw[Array.getD_eq_getD_getElem?]at hu
    cases hx:a.tmps[g]? with
    |none=>rw[hx]at hu;simp[undef]at hu
    |some v=>
     rw[hx]at hu;simp only[Option.getD_some]at hu;subst hu
     rw[<-h]
     cases b<;>cases ju<;>rfl
   |ask n=>simp[hd]at h
   |no=>simp[hd]at h
theorem Du{sv:SV}{n:Nat}{b:Bool}(h:pW fs sv=.ask n):pW ((n,b)::fs) sv=.is b:=by
 unfold pW at h⊢
 split at h
 ·cases h
 ·split at h
  ·cases h
  ·rename_i m hm
   split at h
   ·cases h
   ·cases h
    simp only[fact]
    simp
  ·cases h
def s5(P:Program)(ops:Array Oper)(Q:Exit->Act->World->Prop)(B:eu)(d:Nat)(up:Nat->Nat->Value)(nt:Nat)(ρ:List T)(i:Nat)(rd:List bf)(wr:St)(lo hi:Nat)(sI:St):Prop:=
 ∀(M:Nat->Prop) (s:St) (G:Gh) (a:Act) (w:World) (Kn:Act->World->Prop),(∀r∈rd,s.get r=sI.get r)->Rel M B d up s ρ G a w->a.tmps.size=nt->(∀j,lo<=j->j<hi->¬M j)->
  (∀G' a' w',Rel (Mn M lo hi) B d up (s.eY wr) ρ G' a' w'->a'.tmps.size=nt->Kn a' w')->wpOp P ops Q i Kn a w
theorem QN{s':St}:∀{R:List bf},(∀r∈R,s'.get r=s.get r)->s'.only R=s.only R
 | [],_=>rfl
 |r::R,h=>by simp only[St.only];rw[h r (by simp),QN λr hr=>h r (by simp[hr])]
theorem ad'{i:Nat}{R:List bf}(E:Env P cx S)(ho:ops[i]?=some o)(hn:∀n,o.dst=some n->n<nt)(hg:gw d ops o fs s=some true)(hf:c8 fs ρ)
  (hk:iy cx cw eW d o oi ⟨s.only R,[],ct,[]⟩=some k')(hd:k'.bm S ρ):s5 P ops Q B d up nt ρ i (xY d ops o++R) k'.w ct.i k'.ct.i s:=by
 intro M s' G a w Kn m0 hr kV hM hK
 have QO:=Iz (fs:=fs) (o:=o) (ops:=ops) (d:=d) (s:=s) (s':=s') λr hr=>m0 r (List.mem_append_left _ hr)
 have hw:=Dt (QO.trans hg) hr hf
 have lp:iy cx cw eW d o oi ⟨s'.only R,[],ct,[]⟩=some k':=by rw[QN λr hr=>m0 r (List.mem_append_right _ hr)];exact hk
 have:=ad9 (Q:=Q) E hr (λn h=>by rw[kV];exact hn n h) lp hd hM
 unfold wpOp
 simp only[ho,hw,if_true]
 exact .inl (Oper.wp_mono (λa' w' ⟨G',h1,h2⟩=>hK G' a' w' h1 (h2.trans kV)) this)
theorem QP(s:St)(r:bf)(v:SV):s.eY [(r,v)]=s.set r v:=rfl
theorem aea{i lo:Nat}(ho:ops[i]?=some o)(hn:∀n,o.dst=some n->n<nt)(hg:gw d ops o fs s=some false)(hf:c8 fs ρ):
  s5 P ops Q B d up nt ρ i (xY d ops o) (eP d o (.tp [])) lo lo s:=by
 intro M s' G a w Kn m0 hr kV hM hK
 have QO:=Iz (fs:=fs) (o:=o) (ops:=ops) (d:=d) (s:=s) (s':=s') m0
 have hw:=Dt (QO.trans hg) hr hf
 unfold wpOp
 simp only[ho,hw,dI,if_false]
 have yh:∀i,M i->Mn M lo lo i:=λi h=>.inl h
 cases hd:o.dst with
 |none=>
  refine hK G _ w ?_ (by simpa[Act.put]using kV)
  simp only[eP,hd,Act.put]
  exact hr.mono yh
 |some n=>
  refine hK G _ w ?_ (by rw[x_];exact kV)
  simp only[eP,hd,QP]
  exact(hr.CR (x:=.tp []) (v:=undef) (by rw[kV];exact hn n hd) ⟨[],rfl,trivial⟩ (λi hi=>by simp[cT,qM]at hi)).mono yh
theorem aeb{x:Operand}{t:Tmp}(h:x∈o.op.operands)(hx:x=.tmp t):t∈uv o:=by
 subst hx
 exact List.mem_filterMap.2 ⟨.tmp t,by simpa using h,rfl⟩
theorem IA{s':St}{x:Operand}(hx:x∈o.op.operands)(h:∀r∈(uv o).map (bf.t d),s'.get r=s.get r):bY d s'.get x=bY d s.get x:=by
 cases x with
 |tmp t=>exact h _ (List.mem_map.2 ⟨t,aeb hx rfl,rfl⟩)
 |_=>rfl
theorem aec{i lo n:Nat}{b:Bool}{va vb:SV}(ho:ops[i]?=some o)(aed:o.dst=some n)(hn:n<nt)(hg:gw d ops o fs s=some true)(hf:c8 fs ρ)(hp:uw d s o fs=some (.is b,va,vb)):
  s5 P ops Q B d up nt ρ i (xY d ops o++(uv o).map (bf.t d)) [(.t d n,bif b then va else vb)] lo lo s:=by
 intro M s' G a w Kn m0 hr kV hM hK
 have QO:=Iz (fs:=fs) (o:=o) (ops:=ops) (d:=d) (s:=s) (s':=s') λr hr=>m0 r (List.mem_append_left _ hr)
 have hw:=Dt (QO.trans hg) hr hf
 have yh:∀i,M i->Mn M lo lo i:=λi h=>.inl h
 unfold uw at hp
 split at hp
 ·rename_i c x y dN
  simp only[bc,Prod.mk.injEq]at hp
  obtain⟨h1,rfl,rfl⟩:=hp
  have hT:∀r∈(uv o).map (bf.t d),s'.get r=s.get r:=λr hr=>m0 r (List.mem_append_right _ hr)
  have oc:=IA (s':=s') (s:=s) (d:=d) (o:=o) (x:=c) (by rw[dN];simp[Op.operands]) hT
  have ox:=IA (s':=s') (s:=s) (d:=d) (o:=o) (x:=x) (by rw[dN];simp[Op.operands]) hT
  have oy:=IA (s':=s') (s:=s) (d:=d) (o:=o) (x:=y) (by rw[dN];simp[Op.operands]) hT
  have hc:=Ds (by rw[oc];exact h1) (BA hr c).1 hf
  unfold wpOp
  simp only[ho,hw,if_true]
  left
  have gp:(execOp a.eval o).run P w=.ok (.value (if b then a.eval x else a.eval y)) w:=by
   unfold execOp
   simp only[dN,hc,asBool,pure_bind]
   cases b<;>rfl
  simp only[Oper.wp,gp,Oper.upon,aed]
  refine hK G _ w ?_ (by rw[x_];exact kV)
  rw[QP]
  refine(hr.CR (by rw[kV];exact hn) ?_ ?_).mono yh
  ·cases b
   ·simp only[cond_false,dI,if_false];rw[<-oy];exact(BA hr y).1
   ·simp only[cond_true,if_true];rw[<-ox];exact(BA hr x).1
  ·cases b
   ·simp only[cond_false];rw[<-oy];exact(BA hr y).2
   ·simp only[cond_true];rw[<-ox];exact(BA hr x).2
 ·cases hp
end
section
variable {B:eu} {d:Nat} {up:Nat->Nat->Value} {S:Nat->af} {P:Program} {cx:Cx} {cP:mD} {cw eW:Nat} {R:Nat} {o:Oper} {Q:Exit->Act->World->Prop} {ops:Array Oper} {nt:Nat} {draw:Bool}
variable {K:List af} {out:List T} {i:Nat} {rc:Rec}
def zW(P:Program)(S:Nat->af)(R:Nat)(K:List af)(out:List T)(ops:Array Oper)(Q:Exit->Act->World->Prop)(B:eu)(d:Nat)(up:Nat->Nat->Value)(nt:Nat)(i:Nat)(rc:Rec)
  (tr:List Tr)(lv:Nat)(s:St)(ct:Ct)(ρ:List T):Prop:=
 ∃rd wr gv e iR p',(∀e',s5 P ops Q B d up nt (ρ++e++e') i rd wr ct.i gv.i s)∧ct.i<=gv.i∧rc (tr++[⟨rd,wr.map (·.1)⟩]) lv (s.eY wr) gv iR=some p'∧p'.den S R K (ρ++e)=some out∧
  (ρ++e).length=gv.a∧c8 iR (ρ++e)
def IB(S:Nat->af)(R:Nat)(K:List af)(out:List T)(cx:Cx)(cP:mD)(ops:Array Oper)(d:Nat)(o:Oper)(rc:Rec)(tr:List Tr)(lv:Nat)(s:St)(ct:Ct)(ρ:List T):Prop:=
 ∃g vs iR p',gw d ops o iR s=some true∧Cq cx d s o=some (g,vs)∧c8 iR ρ∧cP (d+1) g vs lv s ct iR (Cs d o rc tr)=some p'∧p'.den S R K ρ=some out
theorem IC{n:Nat}{x y:PL}{ρ:List T}(h:(PL.ite n x y).den S R K ρ=some out):∃b,ρ[n]?=some (.c (.bool b))∧(bif b then x.den S R K ρ else y.den S R K ρ)=some out:=by
 simp only[PL.den]at h
 cases hn:ρ[n]? with
 |none=>rw[List.getD_eq_getElem?_getD,hn]at h;simp[T.cC]at h
 |some t=>
  rw[List.getD_eq_getElem?_getD,hn]at h
  simp only[Option.getD_some]at h
  split at h
  ·exact⟨_,rfl,h⟩
  ·cases h
theorem QQ{tr:List Tr}{lv:Nat}{s:St}{ct:Ct}{fs:jt}{ρ:List T}{p:PL}(ho:ops[i]?=some o)(hn:∀n,o.dst=some n->n<nt)(hg:gw d ops o fs s=some false)
  (h:Cr d ops o rc tr lv s ct fs=some p)(hp:p.den S R K ρ=some out)(hl:ρ.length=ct.a)(hf:c8 fs ρ):zW P S R K out ops Q B d up nt i rc tr lv s ct ρ:=by
 refine⟨xY d ops o,eP d o (.tp []),ct,[],fs,p,λe'=>aea ho hn hg (by rw[List.append_nil];exact hf.ext),Nat.le_refl _,?_,by rw[List.append_nil];exact hp,by rw[List.append_nil];exact hl,by rw[List.append_nil];exact hf⟩
 unfold Cr at h
 unfold eP
 cases hd:o.dst with
 |none=>rw[hd]at h;exact h
 |some n=>rw[hd]at h;exact h
theorem Dv{tr:List Tr}{lv:Nat}{s:St}{ct:Ct}{fs:jt}{ρ:List T}{p:PL}{b:Bool}{va vb:SV}(ho:ops[i]?=some o)(hn:∀n,o.dst=some n->n<nt)(hg:gw d ops o fs s=some true)
  (uT:uw d s o fs=some (.is b,va,vb))(h:wG d ops o rc tr lv s ct fs (bif b then va else vb)=some p)(hp:p.den S R K ρ=some out)(hl:ρ.length=ct.a)(hf:c8 fs ρ):zW P S R K out ops Q B d up nt i rc tr lv s ct ρ:=by
 unfold wG at h
 cases hd:o.dst with
 |none=>rw[hd]at h;cases h
 |some n=>
  rw[hd]at h
  exact⟨xY d ops o++(uv o).map (bf.t d),[(.t d n,bif b then va else vb)],ct,[],fs,p,λe'=>aec ho hd (hn n hd) hg (by rw[List.append_nil];exact hf.ext) uT,Nat.le_refl _,h,
   by rw[List.append_nil];exact hp,by rw[List.append_nil];exact hl,by rw[List.append_nil];exact hf⟩
theorem QR{fs:jt}{s:St}{x:Bool}{m:Nat}{b:Bool}(h:gw d ops o fs s=some x)(hm:fact fs m=none):gw d ops o ((m,b)::fs) s=some x:=by
 unfold gw at h⊢
 cases hg:o.guard with
 |none=>rw[hg]at h;exact h
 |some jw=>
  obtain⟨j,ju⟩:=jw
  simp only[hg]at h⊢
  cases hb:(ops[j]?).bind (·.dst)with
  |none=>simp only[hb]at h;cases h
  |some g=>
   simp only[hb]at h⊢
   have key:∀dc,pW fs (s.get (.t d g))=dc->(∀n,dc≠.ask n)->dc≠.no->pW ((m,b)::fs) (s.get (.t d g))=dc:=by
    intro dc tW h1 h2
    unfold pW at tW⊢
    split at tW
    ·exact tW
    ·split at tW
     ·exact tW
     ·rename_i n hn
      split at tW
      ·rename_i b' ji
       have dj:Nat.beq m n=false:=by
        cases hbq:Nat.beq m n with
        |false=>rfl
        |true=>rw[du hbq,ji]at hm;cases hm
       simp only[fact,dj,cond_false,ji]
       exact tW
      ·exact absurd tW.symm (h1 _)
     ·exact absurd tW.symm h2
   cases tW:pW fs (s.get (.t d g))with
   |nil=>rw[key _ tW (by simp) (by simp)];rw[tW]at h;exact h
   |is b'=>rw[key _ tW (by simp) (by simp)];rw[tW]at h;exact h
   |ask n=>rw[tW]at h;cases h
   |no=>rw[tW]at h;cases h
theorem aee{sv:SV}{fs:jt}{n:Nat}(h:pW fs sv=.ask n):fact fs n=none:=by
 unfold pW at h
 split at h
 ·cases h
 ·split at h
  ·cases h
  ·split at h
   ·cases h
   ·rename_i hn;cases h;exact hn
  ·cases h
theorem QS{tr:List Tr}{lv:Nat}{s:St}{ct:Ct}{fs:jt}{ρ:List T}{p:PL}(E:Env P cx S)(ho:ops[i]?=some o)(hn:∀n,o.dst=some n->n<nt)(hg:gw d ops o fs s=some true)
  (h:doO cx cP cw eW d ops draw o i rc tr lv s ct fs=some p)(hp:p.den S R K ρ=some out)(hl:ρ.length=ct.a)(hf:c8 fs ρ):
  zW P S R K out ops Q B d up nt i rc tr lv s ct ρ∨(draw=false∧IB S R K out cx cP ops d o rc tr lv s ct ρ):=by
 unfold doO at h
 split at h
 ·rename_i dc va vb uT
  left
  split at h
  ·exact Dv (b:=true) ho hn hg uT h hp hl hf
  ·exact Dv (b:=false) ho hn hg uT h hp hl hf
  ·rename_i n
   simp only[cm,bc]at h
   obtain⟨x,hx,y,hy,rfl⟩:=h
   obtain⟨b,hb,hp⟩:=IC hp
   have QT:∀b,uw d s o ((n,b)::fs)=some (.is b,va,vb):=by
    intro b
    unfold uw at uT⊢
    split at uT
    ·simp only[bc,Prod.mk.injEq]at uT⊢
     exact⟨Du uT.1,uT.2⟩
    ·cases uT
   have cQ:fact fs n=none:=by
    unfold uw at uT
    split at uT
    ·simp only[bc,Prod.mk.injEq]at uT;exact aee uT.1
    ·cases uT
   cases b with
   |true=>exact Dv (b:=true) ho hn (QR hg cQ) (QT true) hx hp hl (hf.cons hb)
   |false=>exact Dv (b:=false) ho hn (QR hg cQ) (QT false) hy hp hl (hf.cons hb)
  ·cases h;cases hp
  ·cases h;cases hp
 ·split at h
  ·rename_i g vs hi
   cases hd:draw with
   |true=>rw[hd]at h;simp only[cond_true,bc]at h;subst h;cases hp
   |false=>
    rw[hd]at h
    simp only[cond_false]at h
    exact .inr ⟨rfl,g,vs,fs,p,hg,hi,hf,h,hp⟩
  ·left
   split at h
   ·cases h;cases hp
   ·rename_i k hk
    cases hc:(Nat.beq k.ct.a (ct.a+pJ k.is)&&Nat.ble ct.i k.ct.i&&qJ k.ct.a k.is)with
    |false=>rw[hc]at h;cases h
    |true=>
     rw[hc]at h
     simp only[cond_true,cm,bc]at h
     obtain⟨p',q_,rfl⟩:=h
     simp only[bA]at hc
     obtain⟨⟨c1,c2⟩,c3⟩:=hc
     have c1:=du c1
     obtain⟨ts,w1,w2,w3⟩:=Dr (S:=S) (R:=R) (K:=K) (out:=out) (ρ:=ρ) (by rw[hl,<-c1];exact c3) hp
     refine⟨xY d ops o++Cm d s o,k.w,k.ct,ts,fs,p',λe'=>ad' E ho hn hg (by rw[List.append_assoc];exact hf.ext) hk ?_,Nat.le_of_ble_eq_true c2,q_,w2,by rw[List.length_append,w1,hl,c1],hf.ext⟩
     show bm S (ρ++ts++e') k.ct.a k.is
     rw[c1,<-hl]
     exact w3 e'
theorem QU{tr:List Tr}{lv:Nat}{s:St}{ct:Ct}{fs:jt}{ρ:List T}{p:PL}(E:Env P cx S)(ho:ops[i]?=some o)(hn:∀n,o.dst=some n->n<nt)
  (h:yQ cx cP cw eW d ops draw o i rc tr lv s ct fs=some p)(hp:p.den S R K ρ=some out)(hl:ρ.length=ct.a)(hf:c8 fs ρ):
  zW P S R K out ops Q B d up nt i rc tr lv s ct ρ∨(draw=false∧IB S R K out cx cP ops d o rc tr lv s ct ρ):=by
 unfold yQ at h
 simp only at h
 cases Ij:o.guard with
 |none=>
  rw[Ij]at h
  exact QS E ho hn (by unfold gw;rw[Ij]) h hp hl hf
 |some jw=>
  obtain⟨j,ju⟩:=jw
  rw[Ij]at h
  simp only at h
  cases hb:(ops[j]?).bind (·.dst)with
  |none=>rw[hb]at h;cases h
  |some g=>
   rw[hb]at h
   simp only at h
   have hgw:∀fs x,(match pW fs (s.get (.t d g))with| .nil=>some false| .is b=>some (b==ju)|_=>none)=some x->gw d ops o fs s=some x:=by
    intro fs x hx
    unfold gw
    simp only[Ij,hb]
    exact hx
   have both:∀(fs:jt) (b:Bool) (p:PL),pW fs (s.get (.t d g))=.is b->(bif b==ju then doO cx cP cw eW d ops draw o i rc tr lv s ct fs else Cr d ops o rc tr lv s ct fs)=some p->p.den S R K ρ=some out->c8 fs ρ->
     zW P S R K out ops Q B d up nt i rc tr lv s ct ρ∨(draw=false∧IB S R K out cx cP ops d o rc tr lv s ct ρ):=by
    intro fs b p hd h hp hf
    have hg:=hgw fs (b==ju) (by rw[hd])
    cases hbw:(b==ju)with
    |true=>rw[hbw]at h hg;exact QS E ho hn hg h hp hl hf
    |false=>rw[hbw]at h hg;exact .inl (QQ ho hn hg h hp hl hf)
   cases hd:pW fs (s.get (.t d g))with
   |nil=>
    rw[hd]at h
    exact .inl (QQ ho hn (hgw fs false (by rw[hd])) h hp hl hf)
   |is b=>rw[hd]at h;exact both fs b p hd h hp hf
   |ask n=>
    rw[hd]at h
    simp only[cm,bc]at h
    obtain⟨x,hx,y,hy,rfl⟩:=h
    obtain⟨b,ji,hp⟩:=IC hp
    cases b with
    |true=>exact both _ true x (Du hd) hx hp (hf.cons ji)
    |false=>exact both _ false y (Du hd) hy hp (hf.cons ji)
   |no=>rw[hd]at h;cases h;cases hp
end
structure Fr where
 d:Nat
 up:Nat->Nat->Value
 nt:Nat
structure Zb where
 K:List af
 ρ:List T
def At(S:Nat->af)(R:Nat)(out:List T)(B:eu)(f:Fr)(K0:Zb)(X:Gh->World->List T->Prop)(p:PL)(lv:Nat)(s:St)(ct:Ct)(fs:jt)(a:Act)(w:World):Prop:=
 ∃K ρ G,p.den S R K ρ=some out∧K.length=lv∧(∃pre,K=pre++K0.K)∧(∃e,ρ=K0.ρ++e)∧ρ.length=ct.a∧c8 fs ρ∧Rel (λi=>i<ct.i) B f.d f.up s ρ G a w∧a.tmps.size=f.nt∧X G w ρ
def XT:Gh->World->List T->Prop:=λ_ _ _=>True
def xe(S:Nat->af)(R:Nat)(out:List T)(B:eu)(f:Fr)(K0:Zb)(k:KP)(Ψ:Act->World->Prop):Prop:=
 ∀lv s ct fs p a w,k lv s ct fs=some p->At S R out B f K0 XT p lv s ct fs a w->Ψ a w
def mL(us:List Value):Value:=if h:us.length=1 then us[0]else .tuple us.toArray
def zX(P:Program)(S:Nat->af)(R:Nat)(out:List T)(B:eu)(cP:mD):Prop:=
 ∀(f:Fr) (g:Nat) (vs:List SV) (lv:Nat) (s:St) (ct:Ct) (fs:jt) (kk:List SV->KP) (p:PL) (K0:Zb) (a:Act) (w:World) (args:List Value) (Ψ:Value->World->Prop),
  cP (f.d+1) g vs lv s ct fs kk=some p->At S R out B f K0 (λG w ρ=>cO G w ρ vs args∧∀v∈vs,∀i∈cT v,i<ct.i) p lv s ct fs a w->
   (∀rs pO s' gv iR p' w' us,kk rs pO s' gv iR=some p'->At S R out B f K0 (λG w ρ=>cO G w ρ rs us∧∀v∈rs,∀i∈cT v,i<gv.i) p' pO s' gv iR a w'->Ψ (mL us) w')->
   fZ P g∧Calls P g args.toArray w λe w'=>∃v,e=.returned v∧Ψ v w'
section
variable {B:eu} {f:Fr} {S:Nat->af} {P:Program} {cx:Cx} {cP:mD} {cw eW:Nat} {R:Nat} {Q:Exit->Act->World->Prop} {ops:Array Oper} {out:List T} {K0:Zb}
theorem aef{lo hi:Nat}(h:lo<=hi)(i:Nat)(hm:Mn (λi=>i<lo) lo hi i):i<hi:=by
 rcases hm with h1|h1
 ·omega
 ·exact h1.2
theorem cO.length{G:Gh}{w:World}{ρ:List T}:∀{vs:List SV} {us:List Value},cO G w ρ vs us->vs.length=us.length
 | [],[],_=>rfl
 |_::_,_::_,h=>by simp[cO.length h.2]
 | [],_::_,h=>h.elim
 |_::_,[],h=>h.elim
theorem QV{G:Gh}{w:World}{ρ:List T}:∀{rs:List SV} {vs:List (Bool×List Ce)} {us:List Value},tO rs=some vs->cO G w ρ rs us->fX G w ρ vs us∧qM vs=rs.flatMap cT
 | [],vs,us,h,hr=>by
  simp[tO]at h
  subst h
  cases us with
  |nil=>exact⟨trivial,rfl⟩
  |cons _ _=>exact hr.elim
 | .v ag cs::rs,vs,us,h,hr=>by
  simp only[tO,cm,bc]at h
  obtain⟨l,hl,rfl⟩:=h
  cases us with
  |nil=>exact hr.elim
  |cons u us=>
   obtain⟨g1,g2⟩:=QV hl hr.2
   exact⟨⟨hr.1,g1⟩,by simp[qM,cT,g2]⟩
 | .un::rs,vs,us,h,hr=>by simp[tO]at h
 | .pt _ _::rs,vs,us,h,hr=>by simp[tO]at h
 | .ep _ _ _ _ _::rs,vs,us,h,hr=>by simp[tO]at h
 | .fp _ _ _ _::rs,vs,us,h,hr=>by simp[tO]at h
 | .tp _::rs,vs,us,h,hr=>by simp[tO]at h
 | .cl _ _::rs,vs,us,h,hr=>by simp[tO]at h
 | .ob _ _::rs,vs,us,h,hr=>by simp[tO]at h
 | .fz _ _::rs,vs,us,h,hr=>by simp[tO]at h
 | .tk _ _::rs,vs,us,h,hr=>by simp[tO]at h
 | .fl _::rs,vs,us,h,hr=>by simp[tO]at h
 | .fr _::rs,vs,us,h,hr=>by simp[tO]at h
theorem aeg{o:Oper}{rc:Rec}{tr:List Tr}{rs:List SV}{lv:Nat}{s:St}{ct:Ct}{fs:jt}{p:PL}{a:Act}{w:World}{us:List Value}{Ψ:Act->World->Prop}(hn:∀n,o.dst=some n->n<f.nt)
  (h:Cs f.d o rc tr rs lv s ct fs=some p)(bq:At S R out B f K0 (λG w ρ=>cO G w ρ rs us∧∀v∈rs,∀i∈cT v,i<ct.i) p lv s ct fs a w)
  (qs:∀tr lv s ct fs p a w,rc tr lv s ct fs=some p->At S R out B f K0 XT p lv s ct fs a w->Ψ a w):Ψ (a.put o.dst (mL us)) w:=by
 obtain⟨K,ρ,G,h1,h2,h3,h0,h4,h5,h6,h7,h8,h9⟩:=bq
 unfold Cs at h
 have key:∀(n:Nat) (v:SV),o.dst=some n->rc tr lv (s.set (.t f.d n) v) ct fs=some p->cz G w ρ v (mL us)->(∀i∈cT v,i<ct.i)->Ψ (a.put o.dst (mL us)) w:=by
  intro n v hd hk hr hm
  rw[hd]
  exact qs tr lv _ ct fs p _ w hk ⟨K,ρ,G,h1,h2,h3,h0,h4,h5,h6.CR (by rw[h7];exact hn n hd) hr hm,by rw[x_];exact h7,trivial⟩
 have hlen:=h8.length
 split at h
 ·rename_i hd
  rw[hd]
  exact qs tr lv s ct fs p _ w h ⟨K,ρ,G,h1,h2,h3,h0,h4,h5,by simpa[Act.put]using h6,by simpa[Act.put]using h7,trivial⟩
 ·rename_i n v hd
  match us,h8 with
  | [u],h8=>exact key n v hd h h8.1 (h9 v (by simp))
 ·rename_i n hd
  exact key n .un hd h trivial (λi hi=>by simp[cT]at hi)
 ·rename_i rs' _ _ n hd ID P6
  simp only[cm]at h
  obtain⟨vs,oA,h⟩:=h
  obtain⟨g1,g2⟩:=QV oA h8
  refine key n (.tp vs) hd h ⟨us,?_,g1⟩ λi hi=>?_
  ·unfold mL
   rw[dif_neg]
   intro he
   rw[<-hlen]at he
   match rs',ID,he with
   | [v],ID,_=>exact ID v rfl
  ·rw[show cT (.tp vs)=qM vs from rfl,g2]at hi
   obtain⟨v,hv,hi⟩:=List.mem_flatMap.1 hi
   exact h9 v hv i hi
theorem aeh{d:Nat}{up:Nat->Nat->Value}{M:Nat->Prop}{s:St}{ρ:List T}{G:Gh}{a:Act}{w:World}{o:Oper}{g:Nat}{vs:List SV}(hr:Rel M B d up s ρ G a w)(hi:Cq cx d s o=some (g,vs)):
  ∃args:List Value,(fZ P g->(execOp a.eval o).run P w=.ok (.enter g args.toArray) w)∧cO G w ρ vs args∧∀v∈vs,∀i∈cT v,M i:=by
 unfold Cq at hi
 split at hi
 ·rename_i c dN
  split at hi
  ·rename_i x aei
   split at hi
   ·rename_i g' bs hx
    split at hi
    ·cases hi
    ·simp only[bc,Prod.mk.injEq]at hi
     obtain⟨rfl,rfl⟩:=hi
     obtain⟨h1,h2⟩:=BA hr x
     rw[hx]at h1 h2
     have hv:a.eval x=.func (.func g') #[] (bs.map λb=>Value.pointer (some ⟨G.β b,0,none⟩)).toArray:=h1
     refine⟨c.args.toList.map a.eval++bs.map λb=>Value.pointer (some ⟨G.β b,0,none⟩),?_,?_,?_⟩
     ·intro hg
      unfold execOp
      rw[dN]
      show Sem.run P (do let d <-resolve a.eval c o.type;invoke d.target d.args) w=_
      simp only[resolve,aei,hv,Deferred.ofValue,pure_bind,invoke]
      rw[QB hg]
      congr 2
      exact Array.ext' (by simp)
     ·have k1:∀l:List Operand,cO G w ρ (l.map (bY d s.get)++bs.map λb=>SV.pt b 0) (l.map a.eval++bs.map λb=>Value.pointer (some ⟨G.β b,0,none⟩)):=by
       intro l
       induction l with
       |nil=>
        clear hx h1 h2 hv
        induction bs with
        |nil=>trivial
        |cons b bs ih=>exact⟨rfl,ih⟩
       |cons y l ih=>exact⟨(BA hr y).1,ih⟩
      exact k1 _
     ·intro v hv i hi
      rcases List.mem_append.1 hv with hv|hv
      ·obtain⟨y,_,rfl⟩:=List.mem_map.1 hv
       exact(BA hr y).2 i hi
      ·obtain⟨b,hb,rfl⟩:=List.mem_map.1 hv
       simp[cT]at hi
       subst hi
       exact h2 _ (by simpa[cT]using hb)
   ·cases hi
  ·cases hi
 ·cases hi
theorem IE(E:Env P cx S)(hI:zX P S R out B cP)(hn:∀o∈ops.toList,∀n,o.dst=some n->n<f.nt){fin:List Tr->KP}(o3:∀tr,xe S R out B f K0 (fin tr) (Q .normal)):
  ∀(os:List Oper) (i:Nat) (tr:List Tr) (lv:Nat) (s:St) (ct:Ct) (fs:jt) (p:PL) (a:Act) (w:World),ops.toList.drop i=os->Cu cx cP cw eW f.d ops false fin os i tr lv s ct fs=some p->
   At S R out B f K0 XT p lv s ct fs a w->wpOps P ops Q (List.range' i os.length) a w
 | [],i,tr,lv,s,ct,fs,p,a,w,_,h,bq=>o3 tr lv s ct fs p a w h bq
 |o::os,i,tr,lv,s,ct,fs,p,a,w,Dw,h,bq=>by
  have ho:ops[i]?=some o:=by
   rw[<-Array.getElem?_toList]
   have:=congrArg (·[0]?) Dw
   simpa using this
  have gm:=hn o (List.mem_of_mem_drop (i:=i) (by rw[Dw];simp))
  have Dx:ops.toList.drop (i+1)=os:=by
   rw[<-List.drop_drop,Dw];rfl
  have ih:=IE E hI hn o3 os (i+1)
  obtain⟨K,ρ,G,h1,h2,h3,⟨e0,h0⟩,h4,h5,h6,h7,_⟩:=bq
  rw[List.length_cons,List.range'_succ,wpOps_cons]
  rcases QU (P:=P) (Q:=Q) (B:=B) (up:=f.up) (nt:=f.nt) (R:=R) (K:=K) (out:=out) E ho gm (show yQ cx cP cw eW f.d ops false o i (Cu cx cP cw eW f.d ops false fin os (i+1)) tr lv s ct fs=some p from h) h1 h4 h5 with
   ⟨rd,wr,gv,e,iR,p',s6,hle,qs,q_,jU,NK⟩|⟨_,g,vs,iR,p',hg,hi,NK,jI,q_⟩
  ·have QW:=s6 []
   rw[List.append_nil]at QW
   refine QW (λi=>i<ct.i) s G a w _ (λr hr=>rfl) h6.ext h7 (λj h1 h2=>by omega) λG' a' w' jc C3=>?_
   exact ih _ lv _ gv iR p' a' w' Dx qs ⟨K,ρ++e,G',q_,h2,h3,⟨e0++e,by rw[h0,List.append_assoc]⟩,jU,NK,jc.mono (aef hle),C3,trivial⟩
  ·have hQ:=λ(args:List Value) hr=>hI f g vs lv s ct iR _ p' K0 a w args (λv w'=>wpOps P ops Q (List.range' (i+1) os.length) (a.put o.dst v) w') jI ⟨K,ρ,G,q_,h2,h3,⟨e0,h0⟩,h4,NK,h6,h7,hr⟩ λrs pO s' gv fs2 p2 w' us hk kW=>
    aeg (Ψ:=λa w'=>wpOps P ops Q (List.range' (i+1) os.length) a w') gm hk kW λtr lv s ct fs p a w hk uU=>ih tr lv s ct fs p a w Dx hk uU
   obtain⟨args,hx,hr,hm⟩:=aeh (P:=P) h6 hi
   have hw:=Dt hg h6 NK
   unfold wpOp
   simp only[ho,hw,if_true]
   left
   simp only[Oper.wp]
   obtain⟨hg0,o_⟩:=hQ args ⟨hr,hm⟩
   rw[hx hg0]
   refine o_.mono ?_
   rintro e w' ⟨v,rfl,hv⟩
   exact hv
end
structure Item where
 rd:List bf
 wr:St
 lo:Nat
 hi:Nat
def Item.tr(it:Item):Tr:=⟨it.rd,it.wr.map (·.1)⟩
inductive gu (Ok:Nat->Item->St->Prop):Nat->St->Nat->List Item->St->Nat->Prop
 |nil {i:Nat} {s:St} {c:Nat}:gu Ok i s c [] s c
 |cons {i:Nat} {s s':St} {c c':Nat} {it:Item} {its:List Item} (h:Ok i it s) (hl:it.lo=c) (hh:c<=it.hi) (ht:gu Ok (i+1) (s.eY it.wr) it.hi its s' c'):gu Ok i s c (it::its) s' c'
def ko(D:Nat->Bool):Nat->St->List Item->St
 |_,s,[]=>s
 |i,s,it::its=>ko D (i+1) (bif D i then s.eY it.wr else s) its
theorem gu.mono{Ok Ok':Nat->Item->St->Prop}(h:∀i it s,Ok i it s->Ok' i it s){i:Nat}{s s':St}{c c':Nat}{its:List Item}(hc:gu Ok i s c its s' c'):gu Ok' i s c its s' c':=by
 induction hc with
 |nil=>exact .nil
 |cons h1 h2 h3 _ ih=>exact .cons (h _ _ _ h1) h2 h3 ih
theorem gu.le{Ok:Nat->Item->St->Prop}{i:Nat}{s s':St}{c c':Nat}{its:List Item}(hc:gu Ok i s c its s' c'):c<=c':=by
 induction hc with
 |nil=>exact Nat.le_refl _
 |cons _ _ h3 _ ih=>exact Nat.le_trans h3 ih
theorem gu.get{Ok:Nat->Item->St->Prop}{i:Nat}{s s':St}{c c':Nat}{its:List Item}(hc:gu Ok i s c its s' c'):∀(m:Nat) (it:Item),its[m]?=some it->
  Ok (i+m) it (ko (λ_=>true) i s (its.take m))∧c<=it.lo∧it.lo<=it.hi∧it.hi<=c':=by
 induction hc with
 |nil=>intro m it h;simp at h
 | @cons i s s' c c' NL its h1 h2 h3 h4 ih=>
  intro m it hm
  cases m with
  |zero=>
   simp at hm
   subst hm
   exact⟨h1,by omega,by omega,h4.le⟩
  |succ m=>
   obtain⟨g1,g2,g3,g4⟩:=ih m it (by simpa using hm)
   refine⟨?_,by omega,g3,g4⟩
   rw[show i+(m+1)=i+1+m by omega]
   simpa[ko]using g1
theorem gu.apart{Ok:Nat->Item->St->Prop}{i:Nat}{s s':St}{c c':Nat}{its:List Item}(hc:gu Ok i s c its s' c'):∀(m m':Nat) (it fb:Item),its[m]?=some it->its[m']?=some fb->m<m'->it.hi<=fb.lo:=by
 induction hc with
 |nil=>intro m m' it fb h;simp at h
 | @cons i s s' c c' NL its h1 h2 h3 h4 ih=>
  intro m m' it fb hm oT a_
  cases m' with
  |zero=>omega
  |succ m'=>
   cases m with
   |zero=>
    simp at hm
    subst hm
    exact(h4.get m' fb (by simpa using oT)).2.1
   |succ m=>exact ih m m' it fb (by simpa using hm) (by simpa using oT) (by omega)
theorem gu.last{Ok:Nat->Item->St->Prop}{i:Nat}{s s':St}{c c':Nat}{its:List Item}(hc:gu Ok i s c its s' c'){D:Nat->Bool}:(∀m,m<its.length->D (i+m)=true)->ko D i s its=s':=by
 induction hc with
 |nil=>intro _;rfl
 | @cons i s s' c c' NL its h1 h2 h3 h4 ih=>
  intro h
  simp only[ko]
  rw[show D i=true from h 0 (by simp)]
  exact ih λm hm=>by rw[show i+1+m=i+(m+1) by omega];exact h (m+1) (by simpa using hm)
theorem IF{D:Nat->Bool}:∀{its:List Item} {i:Nat} {s:St},(∀m,m<its.length->D (i+m)=false)->ko D i s its=s
 | [],i,s,_=>rfl
 |it::its,i,s,h=>by
  simp only[ko]
  rw[show D i=false from h 0 (by simp)]
  exact IF λm hm=>by rw[show i+1+m=i+(m+1) by omega];exact h (m+1) (by simpa using hm)
theorem QX{D:Nat->Bool}:∀{its:List Item} {i:Nat} {s s2:St},(∀r,s.get r=s2.get r)->∀r,(ko D i s its).get r=(ko D i s2 its).get r
 | [],i,s,s2,h,r=>h r
 |it::its,i,s,s2,h,r=>by
  simp only[ko]
  refine QX (λr=>?_) r
  cases D i with
  |true=>simp only[cond_true];rw[St.aM,St.aM,h]
  |false=>exact h r
theorem QY{D D':Nat->Bool}:∀{its:List Item} {i:Nat} {s:St},(∀m,m<its.length->D (i+m)=D' (i+m))->ko D i s its=ko D' i s its
 | [],i,s,_=>rfl
 |it::its,i,s,h=>by
  simp only[ko]
  rw[show D i=D' i from h 0 (by simp)]
  exact QY λm hm=>by rw[show i+1+m=i+(m+1) by omega];exact h (m+1) (by simpa using hm)
theorem QZ{D:Nat->Bool}{r:bf}:∀{its:List Item} {i:Nat} {s:St},(∀m it,its[m]?=some it->D (i+m)=true->it.wr.look r=none)->(ko D i s its).get r=s.get r
 | [],i,s,_=>rfl
 |it::its,i,s,h=>by
  simp only[ko]
  rw[QZ λm fb hm hd=>h (m+1) fb (by simpa using hm) (by rw[show i+(m+1)=i+1+m by omega];exact hd)]
  cases hD:D i with
  |false=>rfl
  |true=>
   simp only[cond_true]
   rw[St.aM,h 0 it rfl (by simpa using hD)]
   rfl
theorem Q0{D:Nat->Bool}{W:St}:∀{its:List Item} {i:Nat} {s:St},(∀m it,its[m]?=some it->D (i+m)=true->∀r,it.wr.look r=none∨W.look r=none)->
  ∀r,((ko D i s its).eY W).get r=(ko D i (s.eY W) its).get r
 | [],i,s,_,r=>rfl
 |it::its,i,s,h,r=>by
  simp only[ko]
  rw[Q0 λm fb hm hd=>h (m+1) fb (by simpa using hm) (by rw[show i+(m+1)=i+1+m by omega];exact hd)]
  refine QX (λr=>?_) r
  cases hD:D i with
  |false=>rfl
  |true=>
   simp only[cond_true]
   rw[St.aM,St.aM,St.aM,St.aM]
   rcases h 0 it rfl (by simpa using hD) r with h1|h1
   ·rw[h1];rfl
   ·rw[h1];rfl
def kq(D:Nat->Bool)(k:Nat):Nat->Bool:=λj=>if j=k then true else D j
theorem IG{D:Nat->Bool}:∀{its:List Item} {i m:Nat} {s:St} {it:Item},its[m]?=some it->D (i+m)=false->
  (∀m' fb,its[m']?=some fb->m<m'->D (i+m')=true->∀r,fb.wr.look r=none∨it.wr.look r=none)->∀r,((ko D i s its).eY it.wr).get r=(ko (kq D (i+m)) i s its).get r
 | [],i,m,s,it,h,_,_,r=>by simp at h
 |NL::its,i,0,s,it,h,hd,hc,r=>by
  simp at h
  subst h
  simp only[ko,Nat.add_zero]at hd⊢
  rw[hd,show kq D i i=true by simp[kq]]
  simp only[cond_false,cond_true]
  rw[Q0 λm fb hm jk=>hc (m+1) fb (by simpa using hm) (by omega) (by rw[show i+(m+1)=i+1+m by omega];exact jk)]
  exact congrArg (λx=>St.get x r) (QY λm hm=>by
   have:¬(i+1+m=i):=by omega
   simp[kq,this])
 |NL::its,i,m+1,s,it,h,hd,hc,r=>by
  simp only[ko]
  have e:kq D (i+(m+1)) i=D i:=by
   have:¬(i=i+(m+1)):=by omega
   simp[kq]
  rw[e,show i+(m+1)=i+1+m by omega]
  exact IG (by simpa using h) (by rw[show i+1+m=i+(m+1) by omega];exact hd) (λm' fb hm a_ jk=>hc (m'+1) fb (by simpa using hm) (by omega) (by rw[show i+(m'+1)=i+1+m' by omega];exact jk)) r
theorem IH{D:Nat->Bool}{r:bf}:∀{its:List Item} {i m:Nat} {s s2:St},s.get r=s2.get r->m<=its.length->(∀m' fb,its[m']?=some fb->m'<m->D (i+m')=false->fb.wr.look r=none)->
  (∀m' fb,its[m']?=some fb->m<=m'->D (i+m')=true->fb.wr.look r=none)->(ko D i s its).get r=(ko (λ_=>true) i s2 (its.take m)).get r
 |its,i,0,s,s2,h,_,h1,h2=>by
  rw[List.take_zero]
  show _=s2.get r
  rw[QZ λm it hm hd=>h2 m it hm (by omega) hd,h]
 | [],i,m+1,s,s2,h,hl,_,_=>by simp at hl
 |NL::its,i,m+1,s,s2,h,hl,h1,h2=>by
  simp only[ko,List.take_succ_cons,cond_true]
  refine IH ?_ (by simpa using hl) (λm' fb hm a_ hd=>h1 (m'+1) fb (by simpa using hm) (by omega) (by rw[show i+(m'+1)=i+1+m' by omega];exact hd))
   (λm' fb hm a_ hd=>h2 (m'+1) fb (by simpa using hm) (by omega) (by rw[show i+(m'+1)=i+1+m' by omega];exact hd))
  cases hD:D i with
  |true=>simp only[cond_true];rw[St.aM,St.aM,h]
  |false=>
   simp only[cond_false]
   rw[St.aM,h1 0 NL rfl (by omega) (by simpa using hD)]
   exact h
theorem II{xs ys:List bf}(h:Cn xs ys=false):∀r,r∈xs->r∈ys->False:=by
 intro r h1 h2
 have h3:ys.any r.beq=false:=by have:=List.any_eq_false.1 h r h1;rw[Bool.not_eq_true]at this;exact this
 have:=List.any_eq_false.1 h3 r h2
 exact this (bf.beq_iff.2 rfl)
theorem Dy{W:St}{r:bf}(h:r∉W.map (·.1)):W.look r=none:=by
 cases hl:W.look r with
 |none=>rfl
 |some u=>exact absurd (List.mem_map.2 ⟨(r,u),Dl hl,rfl⟩) h
theorem NM{a b:Item}(h:Co a.tr b.tr=true):(∀r∈b.rd,a.wr.look r=none)∧(∀r,a.wr.look r=none∨b.wr.look r=none)∧(∀r∈a.rd,b.wr.look r=none):=by
 simp only[Co,bA,Bool.not_eq_true']at h
 obtain⟨⟨h1,h2⟩,h3⟩:=h
 refine⟨λr hr=>Dy λhm=>II h1 r hm hr,λr=>?_,λr hr=>Dy λhm=>II h3 r hr hm⟩
 by_cases hm:r∈a.wr.map (·.1)
 ·exact .inr (Dy λoT=>II h2 r hm oT)
 ·exact .inl (Dy hm)
theorem Q1{bj:Nat}{t:Tr}:∀{us:List Tr} {i:Nat},Cp bj t i us=true->∀j u,us[j]?=some u->Nat.testBit bj (i+j)=true∨Co u t=true
 | [],i,_,j,u,h=>by simp at h
 |v::us,i,h,j,u,hj=>by
  simp only[Cp,bA,Bool.or_eq_true]at h
  cases j with
  |zero=>simp at hj;subst hj;exact h.1
  |succ j=>
   have:=Q1 h.2 j u (by simpa using hj)
   rw[show i+1+j=i+(j+1) by omega]at this
   exact this
theorem zY:∀{ts:List Tr} {bs:List Nat} {done:List Tr},yP done ts bs=true->∀(m u:Nat) (t tu:Tr) (b:Nat),ts[m]?=some t->bs[m]?=some b->u<done.length+m->(done++ts)[u]?=some tu->
  Nat.testBit b u=true∨Co tu t=true
 | [],bs,done,_,m,u,t,tu,b,h,_,_,_=>by simp at h
 |_::_,[],done,_,m,u,t,tu,b,_,h,_,_=>by simp at h
 |t0::ts,b0::bs,done,h,m,u,t,tu,b,hm,hb,hu,hg=>by
  simp only[yP,bA]at h
  cases m with
  |zero=>
   simp at hm hb
   subst hm hb
   have:=Q1 h.1 u tu (by rw[List.getElem?_append_left (by omega)]at hg;exact hg)
   simpa using this
  |succ m=>
   exact zY h.2 m u t tu b (by simpa using hm) (by simpa using hb) (by simp;omega) (by simpa using hg)
def uV(n:Nat)(e:Edge):Bool:=Region.binds .any e&&Nat.blt e.on n
theorem Q2(acc:List Nat)(n:Nat):∀(es:List Edge) (s u:Nat),Nat.testBit (es.foldl (λs e=>bif uV n e then s|||(2^e.on)|||(acc.getD e.on 0)else s) s) u=true->
  Nat.testBit s u=true∨∃e∈es,uV n e=true∧(u=e.on∨Nat.testBit (acc.getD e.on 0) u=true)
 | [],s,u,h=>.inl h
 |e::es,s,u,h=>by
  rw[List.foldl_cons]at h
  rcases Q2 acc n es _ u h with h1|⟨e',he',h1⟩
  ·cases hc:uV n e with
   |false=>rw[hc]at h1;exact .inl h1
   |true=>
    rw[hc]at h1
    simp only[cond_true,Nat.testBit_or,Bool.or_eq_true]at h1
    rcases h1 with(h1|h1)|h1
    ·exact .inl h1
    ·rw[Nat.testBit_two_pow]at h1
     simp at h1
     exact .inr ⟨e,by simp,hc,.inl h1.symm⟩
    ·exact .inr ⟨e,by simp,hc,.inr h1⟩
  ·exact .inr ⟨e',by simp[he'],h1⟩
theorem IJ:∀(os:List Oper) (acc:List Nat) (j:Nat),j<acc.length->(lN acc os)[j]?=acc[j]?
 | [],acc,j,_=>rfl
 |o::os,acc,j,h=>by
  simp only[lN]
  rw[IJ os _ j (by simp;omega),List.getElem?_append_left h]
theorem k9_:∀(os:List Oper) (acc:List Nat),(lN acc os).length=acc.length+os.length
 | [],acc=>rfl
 |o::os,acc=>by simp only[lN];rw[k9_];simp;omega
theorem IK:∀(os:List Oper) (acc:List Nat) (k b:Nat),acc.length<=k->(lN acc os)[k]?=some b->∃o,os[k-acc.length]?=some o∧
  ∀u,Nat.testBit b u=true->∃e∈o.after.toList,uV k e=true∧(u=e.on∨Nat.testBit ((lN acc os).getD e.on 0) u=true)
 | [],acc,k,b,hk,h=>by
  simp only[lN]at h
  have:=(List.getElem?_eq_some_iff.1 h).1
  omega
 |o::os,acc,k,b,hk,h=>by
  simp only[lN]at h⊢
  by_cases he:k=acc.length
  ·subst he
   rw[IJ os _ _ (by simp),List.getElem?_append_right (Nat.le_refl _)]at h
   simp only[Nat.sub_self,List.getElem?_cons_zero,bc]at h
   refine⟨o,by simp,λu hu=>?_⟩
   rw[<-h]at hu
   rcases Q2 acc acc.length o.after.toList 0 u hu with h1|⟨e,he,h1,h2⟩
   ·simp at h1
   ·refine⟨e,he,h1,h2.imp_right λh2=>?_⟩
    have a_:e.on<acc.length:=by
     simp only[uV,bA]at h1
     exact Nat.lt_of_succ_le (by simpa[Nat.blt]using h1.2)
    rw[List.getD_eq_getElem?_getD,IJ os _ _ (by simp;omega),List.getElem?_append_left a_,<-List.getD_eq_getElem?_getD]
    exact h2
  ·obtain⟨o',h1,h2⟩:=IK os _ k b (by simp;omega) h
   refine⟨o',?_,h2⟩
   rw[<-h1,show k-acc.length=(k-(acc.length+1))+1 by omega]
   simp
theorem zZ:∀{os:List Oper} {i:Nat},wF i os=true->∀m o,os[m]?=some o->∀e∈o.after.toList,Region.binds .any e=true->e.on<i+m
 | [],i,_,m,o,h,_,_,_=>by simp at h
 |o0::os,i,h,m,o,hm,e,he,hb=>by
  simp only[wF,bA]at h
  cases m with
  |zero=>
   simp at hm
   subst hm
   have:=List.all_eq_true.1 h.1 e he
   simp only[hb,Bool.not_true,Bool.false_or]at this
   exact Nat.lt_of_succ_le (by simpa[Nat.blt]using this)
  |succ m=>
   have:=zZ h.2 m o (by simpa using hm) e he hb
   omega
def s7(ops:Array Oper)(D:Nat->Bool):Prop:=∀(j:Nat) (o:Oper),D j=true->ops[j]?=some o->∀e∈o.after.toList,Region.binds .any e=true->D e.on=true
theorem IL{ops:Array Oper}{D:Nat->Bool}(hc:s7 ops D):∀(j b u:Nat),D j=true->(lN [] ops.toList)[j]?=some b->Nat.testBit b u=true->D u=true:=by
 intro j
 induction j using Nat.strongRecOn with
 |_ j ih=>
  intro b u hj hb hu
  obtain⟨o,ho,h⟩:=IK ops.toList [] j b (by simp) hb
  obtain⟨e,he,h1,h2⟩:=h u hu
  simp only[uV,bA]at h1
  have a_:e.on<j:=Nat.lt_of_succ_le (by simpa[Nat.blt]using h1.2)
  have hd:=hc j o hj (by simpa using ho) e he h1.1
  rcases h2 with rfl|h2
  ·exact hd
  ·have hlen:e.on<(lN [] ops.toList).length:=by
    have:=(List.getElem?_eq_some_iff.1 hb).1
    omega
   rw[List.getD_eq_getElem?_getD,List.getElem?_eq_getElem hlen]at h2
   exact ih e.on a_ _ u hd (List.getElem?_eq_getElem hlen) h2
theorem Dz{ops:Array Oper}{D:Nat->Bool}(hc:s7 ops D){k b u:Nat}{o:Oper}(ho:ops[k]?=some o)(hr:∀e∈o.after.toList,Region.binds .any e=true->D e.on=true)
  (hb:(lN [] ops.toList)[k]?=some b)(hu:Nat.testBit b u=true):D u=true:=by
 obtain⟨o',Gg,h⟩:=IK ops.toList [] k b (by simp) hb
 simp only[List.length_nil,Nat.sub_zero,Array.getElem?_toList,ho,bc]at Gg
 subst Gg
 obtain⟨e,he,h1,h2⟩:=h u hu
 simp only[uV,bA]at h1
 have hd:=hr e he h1.1
 have a_:e.on<k:=Nat.lt_of_succ_le (by simpa[Nat.blt]using h1.2)
 rcases h2 with rfl|h2
 ·exact hd
 ·have hlen:e.on<(lN [] ops.toList).length:=by
   have:=(List.getElem?_eq_some_iff.1 hb).1
   omega
  rw[List.getD_eq_getElem?_getD,List.getElem?_eq_getElem hlen]at h2
  exact IL hc e.on _ u hd (List.getElem?_eq_getElem hlen) h2
def tX:List Bool->Nat
 | []=>0
 |true::l=>tX l
 |false::l=>tX l+1
theorem Q3:∀(l:List Bool) (i:Nat),l[i]?=some false->tX (l.set i true)+1=tX l
 | [],i,h=>by simp at h
 |b::l,0,h=>by simp at h;subst h;simp[tX]
 |true::l,i+1,h=>by simp only[List.set_cons_succ,tX];exact Q3 l i (by simpa using h)
 |false::l,i+1,h=>by simp only[List.set_cons_succ,tX];rw[<-Q3 l i (by simpa using h)]
theorem IM:∀(l:List Bool),tX l=0->∀i,i<l.length->l[i]?=some true
 | [],_,i,h=>by simp at h
 |true::l,h,0,_=>rfl
 |true::l,h,i+1,hi=>by simpa using IM l h i (by simpa using hi)
 |false::l,h,_,_=>by simp[tX]at h
theorem DA:∀n,tX (List.replicate n false)=n
 |0=>rfl
 |n+1=>by simp[List.replicate_succ,tX,DA n]
section
variable {B:eu} {d:Nat} {up:Nat->Nat->Value} {S:Nat->af} {P:Program} {cx:Cx} {cP:mD} {cw eW:Nat} {R:Nat} {Q:Exit->Act->World->Prop} {ops:Array Oper} {nt:Nat} {ρ:List T}
variable {its:List Item} {s0 s1:St} {c0 c1:Nat}
def MD(c0:Nat)(its:List Item)(D:Nat->Bool)(j:Nat):Prop:=j<c0∨∃m it,its[m]?=some it∧D m=true∧it.lo<=j∧j<it.hi
def fw(aF:Array Bool)(j:Nat):Bool:=aF.getD j false
theorem DB{aF:Array Bool}{i:Nat}(h:i<aF.size):fw (aF.setIfInBounds i true)=kq (fw aF) i:=by
 funext j
 unfold fw kq
 by_cases hj:j=i
 ·subst hj
  simp[Array.getD_eq_getD_getElem?,h]
 ·rw[if_neg hj,getD_set_ne _ (Ne.symm hj)]
theorem aek(hc:gu (λi it s=>s5 P ops Q B d up nt ρ i it.rd it.wr it.lo it.hi s) 0 s0 c0 its s1 c1)(hlen:its.length=ops.size)(dQ:yP [] (its.map Item.tr) (lN [] ops.toList)=true)(vO:wF 0 ops.toList=true)
  (hQ:∀G a w,Rel (λi=>i<c1) B d up s1 ρ G a w->a.tmps.size=nt->Q .normal a w):
  ∀(z0:Nat) (aF:Array Bool) (a:Act) (w:World),aF.size=ops.size->tX aF.toList<=z0->s7 ops (fw aF)->
   (∃G,Rel (MD c0 its (fw aF)) B d up (ko (fw aF) 0 s0 its) ρ G a w)->a.tmps.size=nt->wpAny P .any ops Q z0 aF a w:=by
 have Q4:(lN [] ops.toList).length=ops.size:=by rw[k9_];simp
 have gone:∀(aF:Array Bool),aF.size=ops.size->Region.ready .any ops aF=[]->∀j,j<ops.size->fw aF j=true:=by
  intro aF hs hr j
  induction j using Nat.strongRecOn with
  |_ j ih=>
   intro hj
   cases hd:fw aF j with
   |true=>rfl
   |false=>
    exfalso
    have ho:ops[j]?=some ops[j]:=Array.getElem?_eq_getElem hj
    have:j∈Region.ready .any ops aF:=by
     rw[mem_ready]
     refine⟨?_,ops[j],ho,λe he hb=>?_⟩
     ·unfold fw at hd
      rw[Array.getD_eq_getD_getElem?]at hd⊢
      rw[Array.getElem?_eq_getElem (by omega)]at hd⊢
      simpa using hd
     ·have a_:=zZ vO j ops[j] (by simp) e (by simpa using he) hb
      have a_:e.on<j:=by omega
      exact ih e.on a_ (by omega)
    rw[hr]at this
    cases this
 have fin:∀(aF:Array Bool) (a:Act) (w:World),aF.size=ops.size->Region.ready .any ops aF=[]->(∃G,Rel (MD c0 its (fw aF)) B d up (ko (fw aF) 0 s0 its) ρ G a w)->a.tmps.size=nt->Q .normal a w:=by
  rintro aF a w hs hr ⟨G,jg⟩ kV
  have q9:=gone aF hs hr
  rw[hc.last λm hm=>by rw[Nat.zero_add];exact q9 m (by omega)]at jg
  refine hQ G a w (jg.mono λj hj=>?_) kV
  rcases hj with h1|⟨m,it,hm,_,_,h3⟩
  ·exact Nat.lt_of_lt_of_le h1 hc.le
  ·exact Nat.lt_of_lt_of_le h3 (hc.get m it hm).2.2.2
 intro z0
 induction z0 with
 |zero=>
  intro aF a w hs hf _ hr kV
  have h0:∀j,j<ops.size->fw aF j=true:=by
   intro j hj
   have:=IM aF.toList (by omega) j (by simp;omega)
   unfold fw
   rw[Array.getD_eq_getD_getElem?,<-Array.getElem?_toList,this]
   rfl
  have NN:Region.ready .any ops aF=[]:=by
   cases hl:Region.ready .any ops aF with
   |nil=>rfl
   |cons j l=>
    exfalso
    have hm:j∈Region.ready .any ops aF:=by rw[hl];simp
    obtain⟨h1,o,ho,_⟩:=mem_ready.1 hm
    have hj:j<ops.size:=(Array.getElem?_eq_some_iff.1 ho).1
    have:=h0 j hj
    unfold fw at this
    rw[Array.getD_eq_getD_getElem?]at this h1
    rw[Array.getElem?_eq_getElem (by omega)]at this h1
    simp at this h1
    rw[this]at h1
    cases h1
  exact⟨NN,fin aF a w hs NN hr kV⟩
 |succ z0 ih=>
  intro aF a w hs hf mI hr kV
  refine⟨λNN=>fin aF a w hs NN hr kV,λk hk=>?_⟩
  obtain⟨fI,o,ho,NO⟩:=mem_ready.1 hk
  obtain⟨G,jg⟩:=hr
  have DC:k<ops.size:=(Array.getElem?_eq_some_iff.1 ho).1
  have DD:k<aF.size:=by omega
  have oz:fw aF k=false:=by
   unfold fw
   rw[Array.getD_eq_getD_getElem?]at fI⊢
   rw[Array.getElem?_eq_getElem DD]at fI⊢
   simpa using fI
  obtain⟨it,s6⟩:∃it,its[k]?=some it:=⟨its[k]'(by omega),List.getElem?_eq_getElem (by omega)⟩
  obtain⟨b,hb⟩:∃b,(lN [] ops.toList)[k]?=some b:=⟨_,List.getElem?_eq_getElem (by omega)⟩
  obtain⟨g1,g2,g3,g4⟩:=hc.get k it s6
  have z5:(its.map Item.tr)[k]?=some it.tr:=by rw[List.getElem?_map,s6];rfl
  have z6:∀e∈o.after.toList,Region.binds .any e=true->fw aF e.on=true:=λe he BQ=>NO e (by simpa using he) BQ
  have before:∀m' fb,its[m']?=some fb->m'<k->fw aF m'=false->Co fb.tr it.tr=true:=by
   intro m' fb hm a_ hd
   rcases zY dQ k m' it.tr fb.tr b z5 hb (by simpa using a_) (by rw[List.nil_append,List.getElem?_map,hm];rfl)with h1|h1
   ·rw[Dz mI ho z6 hb h1]at hd;cases hd
   ·exact h1
  have behind:∀m' fb,its[m']?=some fb->k<m'->fw aF m'=true->Co it.tr fb.tr=true:=by
   intro m' fb hm a_ hd
   have hml:m'<ops.size:=by rw[<-hlen];exact(List.getElem?_eq_some_iff.1 hm).1
   obtain⟨b',ji⟩:∃b',(lN [] ops.toList)[m']?=some b':=⟨_,List.getElem?_eq_getElem (by omega)⟩
   rcases zY dQ m' k fb.tr it.tr b' (by rw[List.getElem?_map,hm];rfl) ji (by simpa using a_) (by rw[List.nil_append];exact z5)with h1|h1
   ·rw[IL mI m' b' k hd ji h1]at oz;cases oz
   ·exact h1
  have pd:∀r∈it.rd,(ko (fw aF) 0 s0 its).get r=(ko (λ_=>true) 0 s0 (its.take k)).get r:=by
   intro r hr
   refine IH rfl (by omega) (λm' fb hm a_ hd=>?_) (λm' fb hm hle hd=>?_)
   ·rw[Nat.zero_add]at hd;exact(NM (before m' fb hm a_ hd)).1 r hr
   ·rw[Nat.zero_add]at hd
    by_cases he:m'=k
    ·subst he;rw[oz]at hd;cases hd
    ·exact(NM (behind m' fb hm (by omega) hd)).2.2 r hr
  have uW:∀j,it.lo<=j->j<it.hi->¬MD c0 its (fw aF) j:=by
   rintro j h1 h2 (h3|⟨m,fb,hm,hd,h3,h4⟩)
   ·omega
   ·rcases Nat.lt_trichotomy m k with a_|heq|C2
    ·have:=hc.apart m k fb it hm s6 a_;omega
    ·subst heq;rw[oz]at hd;cases hd
    ·have:=hc.apart k m it fb s6 hm C2;omega
  rw[Nat.zero_add]at g1
  refine g1 (MD c0 its (fw aF)) (ko (fw aF) 0 s0 its) G a w _ pd jg kV uW λG' a' w' jc C3=>?_
  have nx:=DB (i:=k) DD
  refine ih (aF.setIfInBounds k true) a' w' (by simp[hs]) ?_ ?_ ?_ C3
  ·have:=Q3 aF.toList k (by
    unfold fw at oz
    rw[Array.getD_eq_getD_getElem?,<-Array.getElem?_toList]at oz
    rw[List.getElem?_eq_getElem (by simpa using DD)]at oz⊢
    simpa using oz)
   rw[Array.toList_setIfInBounds]
   omega
  ·rw[nx]
   intro j oj hj IP e he BQ
   unfold kq at hj⊢
   by_cases Q5:j=k
   ·subst Q5
    rw[ho]at IP
    cases IP
    by_cases vP:e.on=j
    ·simp[vP]
    ·rw[if_neg vP];exact z6 e he BQ
   ·rw[if_neg Q5]at hj
    by_cases vP:e.on=k
    ·simp[vP]
    ·rw[if_neg vP];exact mI j oj hj IP e he BQ
  ·refine⟨G',?_⟩
   rw[nx]
   refine(jc.mono ?_).congr λr=>?_
   ·rintro j (h1|⟨h1,h2⟩)
    ·rcases h1 with h1|⟨m,fb,hm,hd,h3⟩
     ·exact .inl h1
     ·exact .inr ⟨m,fb,hm,by unfold kq;split<;>simp_all,h3⟩
    ·exact .inr ⟨k,it,s6,by simp[kq],h1,h2⟩
   ·have:=IG (D:=fw aF) (i:=0) s6 (by rw[Nat.zero_add];exact oz) (s:=s0) (λm' fb hm a_ hd r=>by
     rw[Nat.zero_add]at hd
     rcases(NM (behind m' fb hm a_ hd)).2.1 r with h1|h1
     ·exact .inr h1
     ·exact .inl h1) r
    rw[Nat.zero_add]at this
    exact this.symm
end
section
variable {B:eu} {f:Fr} {S:Nat->af} {P:Program} {cx:Cx} {cP:mD} {cw eW:Nat} {R:Nat} {Q:Exit->Act->World->Prop} {ops:Array Oper} {out:List T} {K0:Zb}
theorem IQ(E:Env P cx S)(hn:∀o∈ops.toList,∀n,o.dst=some n->n<f.nt){fin:List Tr->KP}{K:List af}:
  ∀(os:List Oper) (i:Nat) (tr:List Tr) (lv:Nat) (s:St) (ct:Ct) (fs:jt) (p:PL) (ρ:List T),os <+:ops.toList.drop i->Cu cx cP cw eW f.d ops true fin os i tr lv s ct fs=some p->
   p.den S R K ρ=some out->ρ.length=ct.a->c8 fs ρ->∃its gv e s' iR p',its.length=os.length∧
    (∀e',gu (λi it s=>s5 P ops Q B f.d f.up f.nt (ρ++e++e') i it.rd it.wr it.lo it.hi s) i s ct.i its s' gv.i)∧
    fin (tr++its.map Item.tr) lv s' gv iR=some p'∧p'.den S R K (ρ++e)=some out∧(ρ++e).length=gv.a∧c8 iR (ρ++e)
 | [],i,tr,lv,s,ct,fs,p,ρ,_,h,hp,hl,hf=>by
  refine⟨[],ct,[],s,fs,p,rfl,λe'=>.nil,?_,by rw[List.append_nil];exact hp,by rw[List.append_nil];exact hl,by rw[List.append_nil];exact hf⟩
  rw[List.map_nil,List.append_nil];exact h
 |o::os,i,tr,lv,s,ct,fs,p,ρ,Dw,h,hp,hl,hf=>by
  obtain⟨te,nZ⟩:=Dw
  have ho:ops[i]?=some o:=by
   rw[<-Array.getElem?_toList]
   have:=congrArg (·[0]?) nZ.symm
   simpa using this
  have gm:=hn o (List.mem_of_mem_drop (i:=i) (by rw[<-nZ];simp))
  have Dx:os <+:ops.toList.drop (i+1):=⟨te,by rw[<-List.drop_drop,<-nZ];rfl⟩
  rcases QU (P:=P) (Q:=Q) (B:=B) (up:=f.up) (nt:=f.nt) (R:=R) (K:=K) (out:=out) E ho gm (show yQ cx cP cw eW f.d ops true o i (Cu cx cP cw eW f.d ops true fin os (i+1)) tr lv s ct fs=some p from h) hp hl hf with
   ⟨rd,wr,gv,e,iR,p',s6,hle,qs,q_,jU,NK⟩|⟨hd,_⟩
  ·obtain⟨its,ct2,e2,s2,fs2,p2,q1,q2,q3,q4,q5,q6⟩:=IQ E hn os (i+1) _ lv _ gv iR p' (ρ++e) Dx qs q_ jU NK
   refine⟨⟨rd,wr,ct.i,gv.i⟩::its,ct2,e++e2,s2,fs2,p2,by simp[q1],λe'=>.cons ?_ rfl hle ?_,?_,by rw[<-List.append_assoc];exact q4,by rw[<-List.append_assoc];exact q5,by rw[<-List.append_assoc];exact q6⟩
   ·have:=s6 (e2++e')
    simp only[List.append_assoc]at this⊢
    exact this
   ·have:=q2 e'
    simp only[List.append_assoc]at this⊢
    exact this
   ·simp only[List.map_cons,Item.tr]
    rw[List.append_assoc]at q3
    exact q3
  ·cases hd
theorem Rel.drew{M:Nat->Prop}{d:Nat}{up:Nat->Nat->Value}{s:St}{ρ:List T}{G:Gh}{a:Act}{w:World}(h:Rel M B d up s ρ G a w):Rel M B d up s ρ G a {w with drawn:=w.drawn+1}:=by
 have k:da (λ_=>False) (λ_=>False) G w G {w with drawn:=w.drawn+1}:=⟨Nat.le_refl _,λ_ _ h=>⟨h,rfl⟩,λ_ _ h=>h,λ_ _ h _=>⟨h,rfl⟩,λ_ _=>⟨rfl,λ_ _=>rfl⟩⟩
 exact⟨λe n he=>(h.tm e n he).aU k λ_ _ hf=>hf,λb=>(h.bx b).aU k (λhf=>hf) (λhf=>hf) λ_ _ hf=>hf,λi=>(h.ob i).aU k (λ_ hf=>hf) (λhf=>hf) λ_ _ hf=>hf,h.fD,h.key,h.gx,h.dn,
  ⟨h.base.os,h.base.tape,h.base.output,h.base.size,h.base.free,h.base.Bz,h.base.gl⟩,h.bt⟩
theorem ael(E:Env P cx S)(hI:zX P S R out B cP)(sU:P.follows .mixedOrders=true)(hn:∀o∈ops.toList,∀n,o.dst=some n->n<f.nt){id:Nat}{draw:Bool}{k:KP}(hk:xe S R out B f K0 k (Q .normal))
  {lv:Nat}{s:St}{ct:Ct}{fs:jt}{p:PL}{a:Act}{w:World}
  (h:Cu cx cP cw eW f.d ops draw (λtr lv s ct fs=>bif draw then bif yP [] tr (lN [] ops.toList)&&wF 0 ops.toList then k lv s ct fs else some (.qk (cw*100000000+100000+id) [])else k lv s ct fs) ops.toList 0 [] lv s ct fs=some p)
  (bq:At S R out B f K0 XT p lv s ct fs a w):(Code.region id ops draw).wp P Q a w:=by
 cases draw with
 |false=>
  refine wp_region ?_
  rw[List.range_eq_range',<-Array.length_toList]
  exact IE E hI hn (fin:=λtr lv s ct fs=>k lv s ct fs) (λtr=>hk) ops.toList 0 [] lv s ct fs p a w rfl h bq
 |true=>
  refine wp_region_any sU ?_
  obtain⟨K,ρ,G,h1,h2,h3,⟨e0,h0⟩,h4,h5,h6,h7,_⟩:=bq
  obtain⟨its,gv,e,s',iR,p',q1,q2,q3,q4,q5,q6⟩:=IQ (Q:=Q) (B:=B) E hn ops.toList 0 [] lv s ct fs p ρ (List.prefix_refl _) h h1 h4 h5
  simp only[List.nil_append,cond_true]at q3
  cases hc:(yP [] (its.map Item.tr) (lN [] ops.toList)&&wF 0 ops.toList)with
  |false=>
   rw[hc]at q3
   simp only[cond_false,bc]at q3
   subst q3
   cases q4
  |true=>
   rw[hc]at q3
   simp only[cond_true]at q3
   simp only[bA]at hc
   have NP:=q2 []
   rw[List.append_nil]at NP
   have cQ:∀j,fw (Array.replicate ops.size false) j=false:=by
    intro j
    unfold fw
    rw[Array.getD_eq_getD_getElem?,Array.getElem?_replicate]
    split<;>rfl
   refine aek (B:=B) NP (by rw[q1];simp) hc.1 hc.2 (λG a w hr hs=>hk lv s' gv iR p' a w q3 ⟨K,ρ++e,G,q4,h2,h3,⟨e0++e,by rw[h0,List.append_assoc]⟩,q5,q6,hr,hs,trivial⟩) ops.size _ a _ (by simp)
    (by rw[Array.toList_replicate,DA];exact Nat.le_refl _) (λj o hj=>by rw[cQ j]at hj;cases hj) ⟨G,?_⟩ h7
   rw[IF λm _=>cQ _]
   exact(h6.ext.drew).mono λi hi=>.inl hi
end
def Gn(Q:Exit->Act->World->Prop):Exit->Act->World->Prop:=λe=>match e with| .normal=>Q .normal|_=>λ_ _=>False
theorem z7{n i:Nat}(h:i<=n):(uB n i).size=n:=by
 unfold uB;simp;omega
theorem DE{n i:Nat}(h:i<=n)(j:Nat):fw (uB n i) j=decide (j<i):=by
 unfold fw uB
 rw[Array.getD_eq_getD_getElem?]
 simp only[List.getElem?_toArray]
 by_cases h1:j<i
 ·rw[List.getElem?_append_left (by simpa using h1)]
  simp[h1]
 ·rw[List.getElem?_append_right (by simp;omega)]
  simp only[List.length_replicate,List.getElem?_replicate]
  by_cases h2:j-i<n-i
  ·simp[h1,h2]
  ·simp[h1,h2]
theorem aem{n i:Nat}(h:i<n):(uB n i).setIfInBounds i true=uB n (i+1):=by
 apply Array.ext
 ·rw[Array.size_setIfInBounds,z7 (by omega),z7 (by omega)]
 ·intro j h1 h2
  have e1:=DE (n:=n) (i:=i) (by omega) j
  have e2:=DE (n:=n) (i:=i+1) (by omega) j
  rw[Array.size_setIfInBounds]at h1
  rw[Array.getElem_setIfInBounds h1]
  unfold fw at e1 e2
  rw[Array.getD_eq_getD_getElem?,Array.getElem?_eq_getElem h1,Option.getD_some]at e1
  rw[Array.getD_eq_getD_getElem?,Array.getElem?_eq_getElem h2,Option.getD_some]at e2
  rw[e1,e2]
  split
  ·simp;omega
  ·by_cases h3:j<i
   ·simp[h3];omega
   ·simp[h3];omega
theorem Q6{l:Array Bool}{j:Nat}(h:j<l.size):l.getD j true=fw l j:=by
 unfold fw
 rw[Array.getD_eq_getD_getElem?,Array.getD_eq_getD_getElem?,Array.getElem?_eq_getElem h]
 rfl
theorem NQ{ops:Array Oper}{l:Array Bool}(hs:l.size=ops.size){j:Nat}:j∈Region.ready .any ops l↔fw l j=false∧∃o,ops[j]?=some o∧∀e∈o.after.toList,Region.binds .any e=true->fw l e.on=true:=by
 rw[mem_ready]
 constructor
 ·rintro⟨h1,o,ho,h2⟩
  have hj:j<ops.size:=(Array.getElem?_eq_some_iff.1 ho).1
  exact⟨by rw[<-Q6 (by omega)];exact h1,o,ho,λe he hb=>h2 e (by simpa using he) hb⟩
 ·rintro⟨h1,o,ho,h2⟩
  have hj:j<ops.size:=(Array.getElem?_eq_some_iff.1 ho).1
  exact⟨by rw[Q6 (by omega)];exact h1,o,ho,λe he hb=>h2 e (by simpa using he) hb⟩
theorem aen{ops:Array Oper}(vO:wF 0 ops.toList=true){i:Nat}(hi:i<=ops.size):s7 ops (fw (uB ops.size i)):=by
 intro j o hj ho e he hb
 rw[DE hi]at hj⊢
 have:=zZ vO j o (by simpa using ho) e he hb
 simp only[decide_eq_true_eq]at hj⊢
 omega
structure DF (ops:Array Oper) (c:Nat) (h:Bool):Prop where
 lt:c<ops.size
 bits:∀j,c<=j->j<ops.size->∀u,u<j->(h=true∧u=0)∨Nat.testBit ((lN [] ops.toList).getD j 0) u=true
 Q7:h=true->Hu ops=true
 pos:h=true->0<c
theorem aeo{ops:Array Oper}{c:Nat}{h:Bool}(hc:CD ops c h=true):DF ops c h:=by
 unfold CD at hc
 simp only[bA,List.all_eq_true,Bool.or_eq_true,Bool.not_eq_true']at hc
 obtain⟨⟨h1,h2⟩,h3⟩:=hc
 have h1:c<ops.size:=Nat.lt_of_succ_le (by simpa[Nat.blt]using h1)
 refine⟨h1,λj hj hn u hu=>?_,λhh=>?_,λhh=>?_⟩
 ·have:=h2 j (by rw[List.mem_range'_1];omega) u (by simpa using hu)
  rcases this with h|h
  ·exact .inl ⟨h.1,du h.2⟩
  ·exact .inr h
 ·rcases h3 with h3|h3
  ·rw[hh]at h3;cases h3
  ·exact h3.1
 ·rcases h3 with h3|h3
  ·rw[hh]at h3;cases h3
  ·exact Nat.lt_of_succ_le (by simpa[Nat.blt]using h3.2)
section
variable {B:eu} {f:Fr} {S:Nat->af} {P:Program} {cx:Cx} {cP:mD} {cw eW:Nat} {R:Nat} {Q:Exit->Act->World->Prop} {ops:Array Oper} {out:List T} {K0:Zb}
theorem Q8{j:Nat}(hj:j<ops.size):(lN [] ops.toList)[j]?=some ((lN [] ops.toList).getD j 0):=by
 have hl:(lN [] ops.toList).length=ops.size:=by rw[k9_];simp
 rw[List.getD_eq_getElem?_getD,List.getElem?_eq_getElem (by omega)]
 rfl
theorem aep{c:Nat}{h:Bool}(hc:DF ops c h)(vO:wF 0 ops.toList=true){i:Nat}(hi:c<=i)(hn:i<ops.size):Region.ready .any ops (uB ops.size i)=[i]:=by
 have hs:=z7 (n:=ops.size) (i:=i) (by omega)
 have ic:∀j,j∈Region.ready .any ops (uB ops.size i)↔j=i:=by
  intro j
  rw[NQ hs]
  constructor
  ·rintro⟨h1,o,ho,h2⟩
   have hj:j<ops.size:=(Array.getElem?_eq_some_iff.1 ho).1
   rw[DE (by omega)]at h1
   simp only[decide_eq_false_iff_not]at h1
   refine Classical.byContradiction λdj=>?_
   rcases hc.bits j (by omega) hj i (by omega)with⟨hh,h0⟩|hb
   ·have:=hc.pos hh;omega
   ·have:=Dz (aen vO (by omega)) ho h2 (Q8 hj) hb
    rw[DE (by omega)]at this
    simp at this
  ·rintro rfl
   refine⟨by rw[DE (by omega)];simp,ops[j],Array.getElem?_eq_getElem hn,λe he hb=>?_⟩
   rw[DE (by omega)]
   have:=zZ vO j ops[j] (by simp) e he hb
   simp;omega
 have BP:(Region.ready .any ops (uB ops.size i)).Nodup:=by
  unfold Region.ready
  exact List.Nodup.sublist List.filter_sublist List.nodup_range
 generalize Region.ready .any ops (uB ops.size i)=l at ic BP
 match l,ic,BP with
 | [],hm,_=>have:=(hm i).2 rfl;cases this
 | [x],hm,_=>rw[(hm x).1 (by simp)]
 |x::y::l,hm,hd=>
  have h1:=(hm x).1 (by simp)
  have h2:=(hm y).1 (by simp)
  rw[h1,h2]at hd
  simp at hd
theorem Q9{c:Nat}{h:Bool}(hc:DF ops c h)(vO:wF 0 ops.toList=true):∀(d i:Nat) (a:Act) (w:World),c<=i->i+d=ops.size->wpOps P ops Q (List.range' i d) a w->wpAny P .any ops Q d (uB ops.size i) a w
 |0,i,a,w,hi,hd,hw=>by
  refine wpAny_done ?_ hw 0
  refine List.eq_nil_iff_forall_not_mem.2 λj hj=>?_
  rw[NQ (z7 (by omega))]at hj
  obtain⟨h1,o,ho,_⟩:=hj
  have:=(Array.getElem?_eq_some_iff.1 ho).1
  rw[DE (by omega)]at h1
  simp at h1
  omega
 |d+1,i,a,w,hi,hd,hw=>by
  refine wpAny_all (aep hc vO hi (by omega)) (by simp) λk hk=>?_
  rw[List.mem_singleton]at hk
  subst hk
  rw[List.range'_succ,wpOps_cons]at hw
  rw[aem (by omega)]
  exact wpOp_mono (λa w h=>Q9 hc vO d (k+1) a w (by omega) (by omega) h) hw
theorem Q_:∀{l:List Bool},(∀i,i<l.length->l[i]?=some true)->tX l=0
 | [],_=>rfl
 |b::l,h=>by
  have h0:=h 0 (by simp)
  simp at h0
  subst h0
  have:=Q_ (l:=l) λi hi=>by have:=h (i+1) (by simp;omega);simpa using this
  simpa[tX]using this
theorem Q'{d:Nat}{up:Nat->Nat->Value}{nt:Nat}{ρ:List T}{its:List Item}{s0 s1:St}{c0 c1 c:Nat}(hc:gu (λi it s=>s5 P ops Q B d up nt ρ i it.rd it.wr it.lo it.hi s) 0 s0 c0 its s1 c1)(hlen:its.length=c)(hcn:c<=ops.size)
  (dQ:yP [] (its.map Item.tr) (lN [] ops.toList)=true){aF:Array Bool}{a:Act}{w:World}{k:Nat}(hs:aF.size=ops.size)(mI:s7 ops (fw aF))
  (hr:∃G,Rel (MD c0 its (fw aF)) B d up (ko (fw aF) 0 s0 its) ρ G a w)(kV:a.tmps.size=nt)(hk:k∈Region.ready .any ops aF)(hkc:k<c){K:Act->World->Prop}
  (hK:∀a' w',s7 ops (fw (aF.setIfInBounds k true))->(∃G,Rel (MD c0 its (fw (aF.setIfInBounds k true))) B d up (ko (fw (aF.setIfInBounds k true)) 0 s0 its) ρ G a' w')->a'.tmps.size=nt->K a' w'):wpOp P ops Q k K a w:=by
 have Q4:(lN [] ops.toList).length=ops.size:=by rw[k9_];simp
 obtain⟨oz,o,ho,z6⟩:=(NQ hs).1 hk
 obtain⟨G,jg⟩:=hr
 have DC:k<ops.size:=(Array.getElem?_eq_some_iff.1 ho).1
 have DD:k<aF.size:=by omega
 obtain⟨it,s6⟩:∃it,its[k]?=some it:=⟨its[k]'(by omega),List.getElem?_eq_getElem (by omega)⟩
 obtain⟨b,hb⟩:∃b,(lN [] ops.toList)[k]?=some b:=⟨_,List.getElem?_eq_getElem (by omega)⟩
 obtain⟨g1,g2,g3,g4⟩:=hc.get k it s6
 have z5:(its.map Item.tr)[k]?=some it.tr:=by rw[List.getElem?_map,s6];rfl
 have before:∀m' fb,its[m']?=some fb->m'<k->fw aF m'=false->Co fb.tr it.tr=true:=by
  intro m' fb hm a_ hd
  rcases zY dQ k m' it.tr fb.tr b z5 hb (by simpa using a_) (by rw[List.nil_append,List.getElem?_map,hm];rfl)with h1|h1
  ·rw[Dz mI ho z6 hb h1]at hd;cases hd
  ·exact h1
 have behind:∀m' fb,its[m']?=some fb->k<m'->fw aF m'=true->Co it.tr fb.tr=true:=by
  intro m' fb hm a_ hd
  have hml:m'<ops.size:=by have:=(List.getElem?_eq_some_iff.1 hm).1;omega
  obtain⟨b',ji⟩:∃b',(lN [] ops.toList)[m']?=some b':=⟨_,List.getElem?_eq_getElem (by omega)⟩
  rcases zY dQ m' k fb.tr it.tr b' (by rw[List.getElem?_map,hm];rfl) ji (by simpa using a_) (by rw[List.nil_append];exact z5)with h1|h1
  ·rw[IL mI m' b' k hd ji h1]at oz;cases oz
  ·exact h1
 have pd:∀r∈it.rd,(ko (fw aF) 0 s0 its).get r=(ko (λ_=>true) 0 s0 (its.take k)).get r:=by
  intro r hr
  refine IH rfl (by omega) (λm' fb hm a_ hd=>?_) (λm' fb hm hle hd=>?_)
  ·rw[Nat.zero_add]at hd;exact(NM (before m' fb hm a_ hd)).1 r hr
  ·rw[Nat.zero_add]at hd
   by_cases he:m'=k
   ·subst he;rw[oz]at hd;cases hd
   ·exact(NM (behind m' fb hm (by omega) hd)).2.2 r hr
 have uW:∀j,it.lo<=j->j<it.hi->¬MD c0 its (fw aF) j:=by
  rintro j h1 h2 (h3|⟨m,fb,hm,hd,h3,h4⟩)
  ·omega
  ·rcases Nat.lt_trichotomy m k with a_|heq|C2
   ·have:=hc.apart m k fb it hm s6 a_;omega
   ·subst heq;rw[oz]at hd;cases hd
   ·have:=hc.apart k m it fb s6 hm C2;omega
 rw[Nat.zero_add]at g1
 refine g1 (MD c0 its (fw aF)) (ko (fw aF) 0 s0 its) G a w _ pd jg kV uW λG' a' w' jc C3=>?_
 have nx:=DB (i:=k) DD
 refine hK a' w' ?_ ?_ C3
 ·rw[nx]
  intro j oj hj IP e he BQ
  unfold kq at hj⊢
  by_cases Q5:j=k
  ·subst Q5
   rw[ho]at IP
   cases IP
   by_cases vP:e.on=j
   ·simp[vP]
   ·rw[if_neg vP];exact z6 e he BQ
  ·rw[if_neg Q5]at hj
   by_cases vP:e.on=k
   ·simp[vP]
   ·rw[if_neg vP];exact mI j oj hj IP e he BQ
 ·refine⟨G',?_⟩
  rw[nx]
  refine(jc.mono ?_).congr λr=>?_
  ·rintro j (h1|⟨h1,h2⟩)
   ·rcases h1 with h1|⟨m,fb,hm,hd,h3⟩
    ·exact .inl h1
    ·exact .inr ⟨m,fb,hm,by unfold kq;split<;>simp_all,h3⟩
   ·exact .inr ⟨k,it,s6,by simp[kq],h1,h2⟩
  ·have:=IG (D:=fw aF) (i:=0) s6 (by rw[Nat.zero_add];exact oz) (s:=s0) (λm' fb hm a_ hd r=>by
    rw[Nat.zero_add]at hd
    rcases(NM (behind m' fb hm a_ hd)).2.1 r with h1|h1
    ·exact .inr h1
    ·exact .inl h1) r
   rw[Nat.zero_add]at this
   exact this.symm
theorem aeq{d:Nat}{up:Nat->Nat->Value}{nt:Nat}{ρ:List T}{its:List Item}{s0 s1:St}{c0 c1 c:Nat}{h:Bool}(lq:DF ops c h)(hc:gu (λi it s=>s5 P ops Q B d up nt ρ i it.rd it.wr it.lo it.hi s) 0 s0 c0 its s1 c1)(hlen:its.length=c)
  (dQ:yP [] (its.map Item.tr) (lN [] ops.toList)=true)(vO:wF 0 ops.toList=true)(hK:∀G a w,Rel (λi=>i<c1) B d up s1 ρ G a w->a.tmps.size=nt->wpAny P .any ops Q (ops.size-c) (uB ops.size c) a w):
  ∀(m:Nat) (aF:Array Bool) (a:Act) (w:World),aF.size=ops.size->tX (aF.toList.take c)=m->(∀j,c<=j->fw aF j=false)->(h=true->fw aF 0=true)->s7 ops (fw aF)->
   (∃G,Rel (MD c0 its (fw aF)) B d up (ko (fw aF) 0 s0 its) ρ G a w)->a.tmps.size=nt->wpAny P .any ops Q (m+(ops.size-c)) aF a w:=by
 have hcn:=lq.lt
 have at_:∀(aF:Array Bool) (j:Nat),aF.size=ops.size->j<c->(aF.toList.take c)[j]?=some (fw aF j):=by
  intro aF j hs hj
  rw[List.getElem?_take_of_lt hj,Array.getElem?_toList]
  unfold fw
  rw[Array.getD_eq_getD_getElem?,Array.getElem?_eq_getElem (by omega)]
  rfl
 intro m
 induction m with
 |zero=>
  intro aF a w hs hf hz _ mI hr kV
  have q9:∀j,j<c->fw aF j=true:=by
   intro j hj
   have:=IM _ hf j (by simp;omega)
   rw[at_ aF j hs hj]at this
   simpa using this
  have hl:aF=uB ops.size c:=by
   apply Array.ext
   ·rw[hs,z7 (by omega)]
   ·intro j h1 h2
    have e2:=DE (n:=ops.size) (i:=c) (by omega) j
    have e1:fw aF j=decide (j<c):=by
     by_cases hj:j<c
     ·rw[q9 j hj];simp[hj]
     ·rw[hz j (by omega)];simp[hj]
    unfold fw at e1 e2
    rw[Array.getD_eq_getD_getElem?,Array.getElem?_eq_getElem h1,Option.getD_some]at e1
    rw[Array.getD_eq_getD_getElem?,Array.getElem?_eq_getElem h2,Option.getD_some]at e2
    rw[e1,e2]
  obtain⟨G,jg⟩:=hr
  rw[hc.last λm hm=>by rw[Nat.zero_add];exact q9 m (by omega)]at jg
  rw[Nat.zero_add]
  have:=hK G a w (jg.mono λj hj=>by
   rcases hj with h1|⟨m,it,hm,_,_,h3⟩
   ·exact Nat.lt_of_lt_of_le h1 hc.le
   ·exact Nat.lt_of_lt_of_le h3 (hc.get m it hm).2.2.2) kV
  rw[hl]
  exact this
 |succ m ih=>
  intro aF a w hs hf hz hh mI hr kV
  rw[show m+1+(ops.size-c)=(m+(ops.size-c))+1 by omega]
  refine⟨λNN=>?_,λk hk=>?_⟩
  ·exfalso
   have gone:∀j,j<ops.size->fw aF j=true:=by
    intro j
    induction j using Nat.strongRecOn with
    |_ j ihj=>
     intro hj
     cases hd:fw aF j with
     |true=>rfl
     |false=>
      exfalso
      have:j∈Region.ready .any ops aF:=(NQ hs).2 ⟨hd,ops[j],Array.getElem?_eq_getElem hj,λe he hb=>by
       have a_:=zZ vO j ops[j] (by simp) e he hb
       exact ihj e.on (by omega) (by omega)⟩
      rw[NN]at this
      cases this
   have:=gone c hcn
   rw[hz c (by omega)]at this
   cases this
  ·obtain⟨oz,o,ho,NO⟩:=(NQ hs).1 hk
   have DC:k<ops.size:=(Array.getElem?_eq_some_iff.1 ho).1
   by_cases hkc:c<=k
   ·exfalso
    have:tX (aF.toList.take c)=0:=Q_ λj hj=>by
     have hj:j<c:=by simp at hj;omega
     rw[at_ aF j hs hj]
     congr 1
     rcases lq.bits k hkc DC j (by omega)with⟨h1,rfl⟩|hb
     ·exact hh h1
     ·exact Dz mI ho NO (Q8 DC) hb
    omega
   ·refine Q' hc hlen (by omega) dQ hs mI hr kV hk (by omega) λa' w' IR jc IU=>?_
    have DD:k<aF.size:=by omega
    have nx:=DB (i:=k) DD
    refine ih (aF.setIfInBounds k true) a' w' (by simp[hs]) ?_ (λj hj=>?_) (λh1=>?_) IR jc IU
    ·have:=Q3 (aF.toList.take c) k (by rw[at_ aF k hs (by omega),oz])
     rw[Array.toList_setIfInBounds,List.take_set]
     omega
    ·rw[nx];unfold kq
     rw[if_neg (by omega)]
     exact hz j hj
    ·rw[nx];unfold kq
     split
     ·rfl
     ·exact hh h1
theorem Ra(E:Env P cx S)(hI:zX P S R out B cP)(sU:P.follows .mixedOrders=true)(hn:∀o∈ops.toList,∀n,o.dst=some n->n<f.nt){id:Nat}{draw:Bool}{k:KP}(hk:xe S R out B f K0 k (Q .normal))
  {lv:Nat}{s:St}{ct:Ct}{fs:jt}{p:PL}{a:Act}{w:World}(h:CE cx cP cw id f.d ops draw k lv s ct fs=some p)(bq:At S R out B f K0 XT p lv s ct fs a w):(Code.region id ops draw).wp P Q a w:=by
 unfold CE at h
 split at h
 ·exact ael E hI sU hn hk h bq
 rename_i c hh aer
 cases draw with
 |false=>cases aer
 |true=>
 refine Code.wp_mono (Q:=Gn Q) (λe a w h=>by cases e<;>first|exact h|exact h.elim) ?_
 refine wp_region_any sU ?_
 obtain⟨K,ρ,G,h1,h2,h3,⟨e0,h0⟩,h4,h5,h6,h7,_⟩:=bq
 obtain⟨its,gv,e,s',iR,p',q1,q2,q3,q4,q5,q6⟩:=IQ (Q:=Gn Q) (B:=B) E hn (ops.toList.take c) 0 [] lv s ct fs p ρ (List.take_prefix c _) h h1 h4 h5
 simp only[List.nil_append]at q3
 cases hc:(yP [] (its.map Item.tr) (lN [] ops.toList)&&(wF 0 ops.toList&&CD ops c hh))with
 |false=>
  rw[hc]at q3
  simp only[cond_false,bc]at q3
  subst q3
  cases q4
 |true=>
 rw[hc]at q3
 simp only[cond_true]at q3
 simp only[bA]at hc
 obtain⟨dQ,vO,hcu⟩:=hc
 have lq:=aeo hcu
 have mI:=lq.lt
 have NP:=q2 []
 rw[List.append_nil]at NP
 have hlen:its.length=c:=by rw[q1,List.length_take,Array.length_toList];omega
 have hK:∀G a w,Rel (λi=>i<gv.i) B f.d f.up s' (ρ++e) G a w->a.tmps.size=f.nt->wpAny P .any ops (Gn Q) (ops.size-c) (uB ops.size c) a w:=λG a w hr hs=>by
  have:=IE (Q:=Gn Q) (K0:=K0) E hI hn (fin:=λ_=>k) (λ_=>hk) (ops.toList.drop c) c [] lv s' gv iR p' a w rfl q3 ⟨K,ρ++e,G,q4,h2,h3,⟨e0++e,by rw[h0,List.append_assoc]⟩,q5,q6,hr,hs,trivial⟩
  rw[List.length_drop,Array.length_toList]at this
  exact Q9 lq vO (ops.size-c) c a w (Nat.le_refl _) (by omega) this
 have main:=aeq lq NP hlen dQ vO hK
 have cQ:∀j,fw (Array.replicate ops.size false) j=false:=by
  intro j
  unfold fw
  rw[Array.getD_eq_getD_getElem?,Array.getElem?_replicate]
  split<;>rfl
 have Rb:s7 ops (fw (Array.replicate ops.size false)):=λj o hj=>by rw[cQ j]at hj;cases hj
 have jg:∃G,Rel (MD ct.i its (fw (Array.replicate ops.size false))) B f.d f.up (ko (fw (Array.replicate ops.size false)) 0 s its) (ρ++e) G a {w with drawn:=w.drawn+1}:=by
  refine⟨G,?_⟩
  rw[IF λm _=>cQ _]
  exact(h6.ext.drew).mono λi hi=>.inl hi
 cases hh with
 |false=>
  have:=main c (Array.replicate ops.size false) a _ (by simp) (by rw[Array.toList_replicate,List.take_replicate,DA];omega) (λj _=>cQ j) (by simp) Rb jg h7
  rw[show c+(ops.size-c)=ops.size by omega]at this
  exact this
 |true=>
  have IV:=lq.pos rfl
  have r9:=lq.Q7 rfl
  unfold Hu at r9
  split at r9
  ·cases r9
  rename_i o os Dw
  simp only[bA,List.all_eq_true,Option.isNone_iff_eq_none,Bool.or_eq_true,List.any_eq_true,Bool.not_eq_true']at r9
  obtain⟨⟨⟨⟨aes,hgu⟩,rX⟩,haf⟩,NR⟩:=r9
  have ho0:ops[0]?=some o:=by rw[<-Array.getElem?_toList,Dw];rfl
  obtain⟨x,hx⟩:∃x,o.op=.move x:=by
   revert rX
   cases o.op<;>intro rX<;>first|exact⟨_,rfl⟩|cases rX
  have d_:∀w,(execOp a.eval o).run P w=.ok (.value (a.eval x)) w:=λw=>by unfold execOp;rw[hx];rfl
  have Gp:Region.wanted o (yielded ops a.tmps)=true:=by unfold Region.wanted;rw[hgu]
  have z8:0∈Region.ready .any ops (Array.replicate ops.size false):=(NQ (by simp)).2 ⟨cQ 0,o,ho0,λe he hb=>by rw[haf e he]at hb;cases hb⟩
  have dN:wpOp P ops (Gn Q) 0 (wpAny P .any ops (Gn Q) (ops.size-1) ((Array.replicate ops.size false).setIfInBounds 0 true)) a {w with drawn:=w.drawn+1}:=by
   refine Q' NP hlen (by omega) dQ (by simp) Rb jg h7 z8 IV λa' w' IR jc IU=>?_
   have nx:=DB (aF:=Array.replicate ops.size false) (i:=0) (by simp;omega)
   have:=main (c-1) ((Array.replicate ops.size false).setIfInBounds 0 true) a' w' (by simp) ?_ (λj hj=>?_) (λ_=>?_) IR jc IU
   ·rw[show c-1+(ops.size-c)=ops.size-1 by omega]at this
    exact this
   ·have h9:=Q3 (List.replicate c false) 0 (by rw[List.getElem?_replicate];simp;omega)
    rw[DA]at h9
    rw[Array.toList_setIfInBounds,Array.toList_replicate,List.take_set,List.take_replicate,Nat.min_eq_left (by omega)]
    omega
   ·rw[nx];unfold kq
    rw[if_neg (by omega)]
    exact cQ j
   ·rw[nx];simp[kq]
  have kj:wpAny P .any ops (Gn Q) (ops.size-1) ((Array.replicate ops.size false).setIfInBounds 0 true) (a.put o.dst (a.eval x)) {w with drawn:=w.drawn+1}:=by
   unfold wpOp at dN
   simp only[ho0,Gp,if_true]at dN
   rcases dN with dN|⟨_,a0,w0,hf⟩
   ·simp only[Oper.wp,d_]at dN
    exact dN
   ·exact hf.elim
  have Rc:=wpAny_first (md:=.any) (Q:=Gn Q) ho0 (λj oj cs b hj heq=>by
    have hm:oj∈o::os:=by rw[<-Dw];exact List.mem_of_getElem? (by rw[Array.getElem?_toList];exact hj)
    have:=aes oj hm
    rw[heq]at this
    cases this) (λc a w h=>h.elim) (ops.size-1) (Array.replicate ops.size false) a {w with drawn:=w.drawn+1} (λj oj hj dj _ BI=>by
    have hm:oj∈os:=by
     have:ops.toList[j]?=some oj:=by rw[Array.getElem?_toList];exact hj
     rw[Dw]at this
     obtain⟨j',rfl⟩:∃j',j=j'+1:=⟨j-1,by omega⟩
     exact List.mem_of_getElem? (by simpa using this)
    rcases NR oj hm with⟨e,he,hb⟩|hb
    ·exact absurd (du hb.2) (BI e (by simpa using he) hb.1)
    ·exact hb) z8 (.inl ⟨Gp,d_⟩) kj
  rw[show ops.size-1+1=ops.size by omega]at Rc
  exact Rc
end
end Go.Proofs.YtjimmglpkndemaaGreatC

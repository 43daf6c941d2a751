/- The walk by reflection: a part of its laws, for any function. Conditions: none. -/
import Derived.Test.YtbhplkilhknciaaKb
namespace Go.Proofs.YtbhplkilhknciaaC
set_option linter.unusedVariables false
section
variable {M:Nat->Prop} {B:dt} {d:Nat} {up:Nat->Nat->Value} {ρ:List T} {G:Gh} {a:Act} {w:World} {S:Nat->ay} {P:Program}
variable {cx:Cx} {bW dR oi:Nat} {s:St} {R:List aM} {ct:Ct} {k':Wk} {o:Oper} {Q:Exit->Act->World->Prop}
theorem Ia{t:TypeId}{cs:Array Value}{off:Nat}{v:Value}(ht:(∃k,P.underlying t=some (.int k))∨P.underlying t=some .bool∨P.underlying t=some .string)(hv:cs[off]?=some v):
  (part t cs off).run P w=.ok v w:=by
 have lQ:(isAgg t).run P w=.ok false w:=by
  rcases ht with⟨k,ht⟩|ht|ht<;>simp[isAgg,run_underlying ht]
 simp[part,lQ,hv]
def FTy(P:Program)(t:TypeId)(k:Nat):Prop:=(k=1∧∃i,P.underlying t=some (.int i))∨(k=4∧P.underlying t=some .bool)∨(k=2∧P.underlying t=some .string)
theorem Rh{d:Nat}{t:TypeId}{k:Nat}{x y:Value}{b:Bool}(ht:FTy P t k)(h:EQ k x y=some b):(Op.equalIn (d+1) t x y).run P w=.ok b w:=by
 unfold EQ at h
 split at h
 ·rename_i k a k' b'
  obtain⟨_,i,hu⟩:=ht.resolve_right (by simp)
  split at h
  ·rename_i hk;subst hk;cases h
   exact run_equalIn_int w d t _ _ _ _ hu
  ·cases h
 ·cases h
  have hu:P.underlying t=some .bool:=by rcases ht with⟨h,_⟩|⟨_,h⟩|⟨h,_⟩<;>simp_all
  exact run_equalIn_bool' w d t _ _ hu
 ·cases h
  have hu:P.underlying t=some .string:=by rcases ht with⟨h,_⟩|⟨h,_⟩|⟨_,h⟩<;>simp_all
  rw[run_equalIn_string w d t _ _ hu,<-beq_toListBytes]
 ·cases h
theorem Ri{i:Nat}{z:Ce}{zs:List Ce}{f:Field}{fs:List Field}(h:oN P i (z::zs) (f::fs)=true):f.offset=i∧f.name≠"_"∧FTy P f.type (jZ z)∧oN P (i+1) zs fs=true:=by
 simp only[oN,bB,decide_eq_true_eq]at h
 obtain⟨⟨⟨h1,h2⟩,h3⟩,h4⟩:=h
 refine⟨cK h1,h2,?_,h4⟩
 split at h3
 ·rename_i k hu;exact .inl ⟨cK h3,k,hu⟩
 ·rename_i hu;exact .inr (.inl ⟨cK h3,hu⟩)
 ·rename_i hu;exact .inr (.inr ⟨cK h3,hu⟩)
 ·cases h3
theorem Ib{d:Nat}{xs ys:Array Value}:∀{fs:List Field} {zs:List Ce} {i:Nat} {us vs:List T} {b:Bool},oN P i zs fs=true->r7 (zs.map jZ) us vs=some b->
  (∀(j:Nat) (v:Value),us[j]?=some (.c v)->xs[i+j]?=some v)->(∀(j:Nat) (v:Value),vs[j]?=some (.c v)->ys[i+j]?=some v)->(Op.eqFields (d+1) xs ys fs).run P w=.ok b w
 | [],[],i,[],[],b,_,h,_,_=>by simp[r7]at h;subst h;rfl
 | [],[],i,[],_::_,b,_,h,_,_=>by simp[r7]at h
 | [],[],i,_::_,vs,b,_,h,_,_=>by simp[r7]at h
 | [],_::_,i,us,vs,b,hf,h,_,_=>by simp[oN]at hf
 |_::_,[],i,us,vs,b,hf,h,_,_=>by simp[oN]at hf
 |f::fs,z::zs,i,[],vs,b,hf,h,_,_=>by simp[r7]at h
 |f::fs,z::zs,i,.l _::us,vs,b,hf,h,_,_=>by simp[r7]at h
 |f::fs,z::zs,i,.c x::us,[],b,hf,h,_,_=>by simp[r7]at h
 |f::fs,z::zs,i,.c x::us,.l _::vs,b,hf,h,_,_=>by simp[r7]at h
 |f::fs,z::zs,i,.c x::us,.c y::vs,b,hf,h,hx,hy=>by
  obtain⟨h1,h2,h3,h4⟩:=Ri hf
  simp only[List.map_cons,r7,bQ,aJ]at h
  obtain⟨b1,lC,b2,mU,rfl⟩:=h
  have ht:(∃k,P.underlying f.type=some (.int k))∨P.underlying f.type=some .bool∨P.underlying f.type=some .string:=by
   rcases h3 with⟨_,h⟩|⟨_,h⟩|⟨_,h⟩
   ·exact .inl h
   ·exact .inr (.inl h)
   ·exact .inr (.inr h)
  have p1:=Ia (P:=P) (w:=w) ht (show xs[f.offset]?=some x by rw[h1];exact hx 0 x rfl)
  have p2:=Ia (P:=P) (w:=w) ht (show ys[f.offset]?=some y by rw[h1];exact hy 0 y rfl)
  have ih:=Ib (d:=d) (xs:=xs) (ys:=ys) h4 mU (λj v hj=>by have:=hx (j+1) v (by simpa using hj);rw[<-this];congr 1;omega) (λj v hj=>by have:=hy (j+1) v (by simpa using hj);rw[<-this];congr 1;omega)
  simp only[Op.eqFields,h2,ne_eq,not_false_iff,if_true,Sem.run_bind]
  rw[p1]
  simp only[Result.andThen_ok]
  rw[p2]
  simp only[Result.andThen_ok,Rh h3 lC]
  cases b1
  ·rfl
  ·exact ih
theorem Ic{cs:List Ce}{k k1:Wk}{xs:List Lf}{G1:Gh}{vs:List Value}(h:k.gv cs=some (k1,xs))(hd:k1.aP S ρ)(hr:aF G1 w ρ cs vs)(hk:cC M B d up ρ G a w k G1):
  (xs.map (Lf.ev ρ)).length=cs.length∧∀(j:Nat) (v:Value),(xs.map (Lf.ev ρ))[j]?=some (.c v)->vs[j]?=some v:=by
 obtain⟨ts,e1,e2,_,e4⟩:=Wk.fk h hd hr hk
 refine⟨by rw[List.length_map,e4,hr.length],λj v hj=>?_⟩
 rw[e1]at hj
 have bH:j<vs.length:=by rw[<-e2.length];exact(List.getElem?_eq_some_iff.1 hj).1
 have:=(e2.get j _ vs[j] hj (List.getElem?_eq_getElem bH)).scalar
 rw[List.getElem?_eq_getElem bH,this.1]
theorem Rk(cN:cW P cx)(h:Rel M B d up s ρ G a w)(hn:∀n,o.dst=some n->n<a.tmps.size){op:BinOp}{t yt:TypeId}{x y:Operand}(ho:o.op=.binOp op t x y yt)
  {es bs:List Ce}(s8:bz d (Wk.get ⟨s.only R,[],ct,[]⟩) x=.v true es)(yd:bz d (Wk.get ⟨s.only R,[],ct,[]⟩) y=.v true bs)
  (hk:gb cx bW dR d o oi ⟨s.only R,[],ct,[]⟩=some k')(hd:k'.aP S ρ):a_ P M B d up ρ a w s o k'.w Q∧k'.ct.i=ct.i:=by
 have hw:=cC.start h R ct
 simp only[gb,ho,s8,yd,bQ]at hk
 obtain⟨ti,ed,hk⟩:=hk
 cases hc:(Nat.beq ti.kd 5&&Nat.beq es.length ti.sz)with
 |false=>simp[hc]at hk
 |true=>
  simp only[hc,cond_true,bQ]at hk
  simp only[bB]at hc
  have hT:=cN.ty _ _ ed
  obtain⟨fs,hu,wV,hp,hg,hef⟩:=hT.eq (cK hc.1)
  have E0:=cK hc.2
  obtain⟨sb,qi⟩:=hw.fH x
  obtain⟨Bu,hmy⟩:=hw.fH y
  rw[s8]at sb
  rw[yd]at Bu
  obtain⟨us,Ie,nZ⟩:=sb
  obtain⟨vs,mW,jk⟩:=Bu
  obtain⟨⟨k1,r1⟩,E_,kq⟩:=hk
  simp only[GM,bQ]at E_
  obtain⟨⟨k2,xs⟩,h1,⟨k3,ys⟩,h2,E_⟩:=E_
  simp only at E_
  have jl:=Wk.fj h1
  have lZ:=Wk.fj h2
  have hfo:P.fieldsOf t=fs:=by simp[Program.fieldsOf,hu]
  have Cc:∀op,(eqGuard op t x y (.agg us.toArray) (.agg vs.toArray)).run P w=.ok () w:=λop=>run_eqGuard_agg w op t x y _ _ hg
  have key:(k3.em (.qV (ti.zero.map jZ)) (xs++ys)).1.aP S ρ->∃b,(k3.em (.qV (ti.zero.map jZ)) (xs++ys)).2.ej ρ=some (.c (.bool b))∧(Op.equalIn 10000 t (.agg us.toArray) (.agg vs.toArray)).run P w=.ok b w:=by
   intro uq
   obtain⟨vD,r,hr,Cd⟩:=Wk.be uq
   obtain⟨l2,g2⟩:=Ic h2 vD jk (hw.same jl)
   obtain⟨l1,g1⟩:=Ic h1 (Wk.ju h2 vD) nZ hw
   simp only[Prim.ev,List.map_append,List.length_map]at hr
   have hz:ti.zero.length=(xs.map (Lf.ev ρ)).length:=by rw[l1,E0,hT.vi]
   rw[hz,List.take_left,List.drop_left]at hr
   obtain⟨b,hb,hr⟩:=Option.bind_eq_some_iff.1 hr
   cases hr
   refine⟨b,Cd,?_⟩
   rw[run_equalIn_struct w 9999 t _ _ (by rw[hfo];exact hu) hp,hfo]
   exact Ib (d:=9998) hef hb (λj v hj=>by simpa using g1 j v hj) (λj v hj=>by simpa using g2 j v hj)
  have fin:∀(kk:Wk) (y1:Lf) (b:Bool),bm d o kk (.v false [.p y1])=k'->cC M B d up ρ G a w kk G->kk.ct.i=ct.i->y1.ej ρ=some (.c (.bool b))->
    ((do eqGuard op t x y (a.eval x) (a.eval y);binOp op t (a.eval x) (a.eval y):Sem Value)).run P w=.ok (.bool b) w->a_ P M B d up ρ a w s o k'.w Q∧k'.ct.i=ct.i:=by
   intro kk y1 b hp qH hi hv hr
   subst hp
   refine⟨oO h qH hn ?_ (Nt (v:=.bool b) hv rfl) (λi hi=>by simp[cp,cJ]at hi) Q,by rw[ll];exact hi⟩
   unfold execOp
   rw[ho]
   show Sem.run P (do let v <-(do eqGuard op t x y (a.eval x) (a.eval y);binOp op t (a.eval x) (a.eval y):Sem Value);pure (Next.value v)) w=_
   rw[Sem.run_bind,hr];rfl
  have qH:=((hw.same jl).same lZ).same (Wk.aS k3 (.qV (ti.zero.map jZ)) (xs++ys))
  have iQ:(k3.em (.qV (ti.zero.map jZ)) (xs++ys)).1.ct.i=ct.i:=by rw[(Wk.aS _ _ _).i,lZ.i,jl.i]
  have hpd:∀{kk:Wk} {y1:Lf},bm d o kk (.v false [.p y1])=k'->kk.aP S ρ:=λhp=>by rw[<-hp]at hd;exact b_.1 hd
  cases op<;>simp only at E_<;>try cases E_
  ·have hp:bm d o (k3.em (.qV (ti.zero.map jZ)) (xs++ys)).1 (.v false [.p (k3.em (.qV (ti.zero.map jZ)) (xs++ys)).2])=k':=Option.some.inj kq
   obtain⟨b,hb,c_⟩:=key (hpd hp)
   refine fin _ _ b hp qH iQ hb ?_
   rw[Ie,mW,Sem.run_bind,Cc]
   simp only[Result.andThen_ok]
   rw[run_eql_struct,c_];rfl
  ·have hp:bm d o ((k3.em (.qV (ti.zero.map jZ)) (xs++ys)).1.em (.un .not) [(k3.em (.qV (ti.zero.map jZ)) (xs++ys)).2]).1 (.v false [.p ((k3.em (.qV (ti.zero.map jZ)) (xs++ys)).1.em (.un .not) [(k3.em (.qV (ti.zero.map jZ)) (xs++ys)).2]).2])=k':=Option.some.inj kq
   obtain⟨uq,r,hr,Cd⟩:=Wk.be (hpd hp)
   obtain⟨b,hb,c_⟩:=key uq
   simp only[List.map_cons,List.map_nil,Lf.aZ hb,Prim.ev,T.val,Option.bind_some,Np,aJ]at hr
   subst hr
   refine fin _ _ (!b) hp (qH.same (Wk.aS _ _ _)) (by rw[(Wk.aS _ _ _).i];exact iQ) Cd ?_
   rw[Ie,mW,Sem.run_bind,Cc]
   simp only[Result.andThen_ok]
   rw[run_neq_struct,c_];rfl
end
def Gh.stored(G:Gh)(id i off n:Nat)(mv:Mv):Gh where
 ω:=λc=>match G.ω c with
  |some (.o j p)=>if j=id then(match p with
    | []=>some (.o id [])
    |(r,k)::p=>if r=i∧off<=k∧k<off+n then none else some (.o id ((r,k)::p)))
   else(match jc mv j with
    |some q=>some (.o id ((i,off+q)::p))
    |none=>some (.o j p))
  |l=>l
 β:=G.β
 H:=λj p=>if j=id then(match p with
   | []=>G.H id []
   |(r,k)::p=>if r=i∧off<=k∧k<off+n then(match fm mv (k-off)with
     |some j2=>G.H j2 p
     |none=>.slice none 0 0)
    else G.H id ((r,k)::p))
  else G.H j p
 hs:=λj p=>by
  by_cases hj:j=id
  ·simp only[hj,if_true]
   cases p with
   |nil=>exact G.hs id []
   |cons x p=>
    obtain⟨r,k⟩:=x
    by_cases hc:r=i∧off<=k∧k<off+n
    ·simp only[if_pos hc]
     cases fm mv (k-off)with
     |none=>exact⟨_,_,_,rfl⟩
     |some j2=>exact G.hs j2 p
    ·simp only[if_neg hc];exact G.hs id _
  ·simp only[hj,if_false];exact G.hs j p
section
variable {M:Nat->Prop} {B:dt} {d:Nat} {up:Nat->Nat->Value} {ρ:List T} {G:Gh} {a:Act} {w:World} {S:Nat->ay} {P:Program}
variable {cx:Cx} {bW dR oi:Nat} {s:St} {R:List aM} {ct:Ct} {k':Wk} {o:Oper} {Q:Exit->Act->World->Prop}
theorem Gh.tC{G:Gh}{id i off n:Nat}{mv:Mv}(lA:id%4=0){c:Nat}{l:Lb}(hl:G.ω c=some l)(hq:qt l=true):
  (G.stored id i off n mv).ω c=none∨∃l',(G.stored id i off n mv).ω c=some l'∧qt l'=true:=by
 cases l with
 |o j p=>
  simp only[Gh.stored,hl]
  by_cases hj:j=id
  ·subst hj
   rw[if_pos rfl]
   cases p with
   |nil=>exact absurd hq (by rw[xW (by omega)];simp)
   |cons x p=>
    obtain⟨r,k⟩:=x
    simp only
    split
    ·exact .inl rfl
    ·exact .inr ⟨_,rfl,hq⟩
  ·rw[if_neg hj]
   cases jc mv j with
   |some q=>exact .inr ⟨_,rfl,pS (by omega) (by simp)⟩
   |none=>exact .inr ⟨_,rfl,hq⟩
 |_=>simp[qt]at hq
theorem Rl{x ix:Lf}{ms:List Bool}{wd off i:Nat}{xs:List (List T)}{ts:List T}{t:T}(hx:x.ej ρ=some (.l xs))(hi:jT ρ ix=some i)
  (h:Prim.ev (.iX ms wd off) (x.ev ρ::ix.ev ρ::ts)=some t):∃r,xs[i]?=some r∧r.length=wd∧off+ts.length<=r.length∧qX ms ts=true∧t=.l (setRow xs i off ts):=by
 obtain⟨k,hk⟩:=EU hi
 rw[Lf.aZ hx,hk]at h
 simp only[Prim.ev,GX,T.rows,T.int,Option.bind_some,Int.toNat_natCast]at h
 cases hr:xs[i]? with
 |none=>simp[hr]at h
 |some r=>
  simp only[hr,Option.bind_some]at h
  split at h
  ·rename_i g1
   split at h
   ·rename_i g2
    split at h
    ·rename_i g3
     simp only[aJ]at h
     exact⟨r,rfl,g1,by omega,g3,h.symm⟩
    ·cases h
   ·cases h
  ·cases h
theorem Rm(cN:cW P cx)(h:Rel M B d up s ρ G a w)(hn:∀n,o.dst=some n->n<a.tmps.size){t:Nat}{x y:Operand}(ho:o.op=.store t x y)
  (hk:∃k1,A4 cx ⟨s.only R,[],ct,[]⟩ t (bz d (Wk.get ⟨s.only R,[],ct,[]⟩) x) (bz d (Wk.get ⟨s.only R,[],ct,[]⟩) y)=some k1∧bm d o k1 .un=k')(hd:k'.aP S ρ):a_ P M B d up ρ a w s o k'.w Q∧k'.ct.i=ct.i:=by
 have hw:=cC.start h R ct
 obtain⟨k1,cU,rfl⟩:=hk
 have eo:=b_.1 hd
 unfold A4 at cU
 split at cU
 ·rename_i id ix wd off hx
  simp only[bQ]at cU
  obtain⟨ti,ed,cs,iR,cU⟩:=cU
  cases hl:(Nat.beq cs.length ti.sz&&ti.zero.any dS&&Nat.beq (id%4) 0)with
  |false=>simp[hl]at cU
  |true=>
   simp only[hl,cond_true]at cU
   simp only[bB]at hl
   have hlen:=cK hl.1.1
   have lA:id%4=0:=cK hl.2
   split at cU
   ·rename_i x0 tl
    simp only[bQ]at cU
    obtain⟨⟨k2,xs⟩,tB,cU⟩:=cU
    simp only at cU
    split at cU
    ·rename_i x1 Cf
     simp only[aJ]at cU
     subst cU
     obtain⟨hr,hm⟩:=hw.fH y
     obtain⟨sb,_⟩:=hw.fH x
     rw[hx]at sb
     obtain⟨p,b,n,cap,i,hp,hH,hi,n9,Rn⟩:=sb
     simp only[ke,aJ]at hp
     subst hp
     unfold cellsOf at iR
     split at iR
     ·rename_i ag es0 dl
      cases iR
      rw[dl]at hr hm
      have pG:=Hk hr
      have lR:=pG.length
      have hvl:(a.eval y).cells.toList.length=ti.sz:=by rw[<-lR,hlen]
      obtain⟨a1,a2,a3,a4,mv,W1,a5,a6,a7,a8,a9⟩:=E7 hw (show i_ ⟨s.only R,[],ct,[]⟩ ⟨s.only R,[],ct,[]⟩ [] from⟨rfl,λr=>by simp[St.look]⟩) (λr u h=>by cases h) pG hm tB 0
      rw[List.append_nil]at a5
      have cS:=hw.obj id
      rw[tl]at cS
      obtain⟨tt,uo,aT⟩:=cS
      have sk:W1.look (.o id)=none:=by
       cases hl:W1.look (.o id)with
       |none=>rfl
       |some u=>
        obtain⟨_,j,_,rfl,_,_⟩:=a7 _ _ hl
        have:k2.get (.o id)=.un:=by unfold Wk.get;rw[a5.2,hl];simp
        rw[this]at Cf;cases Cf
      have Ig:∀q j,(q,j)∈mv->j≠id:=by
       intro q j hq he
       subst he
       have:=(a6 q j hq).2.2.1
       rw[sk]at this;cases this
      have afv:jc mv id=none:=by
       cases hm:jc mv id with
       |none=>rfl
       |some q=>exact absurd rfl (Ig q id (yA hm))
      obtain⟨afw,t',j4,w6⟩:=Wk.be eo
      cases aT with
      |nil o5=>rw[hH]at o5;cases o5
      | @l _ _ rows b' yf oS aX elem cv g1 g2 g3 g4 g5 g6 g7 g8 g9 pD vk=>
       rw[hH]at g1
       cases g1
       simp only[List.map_cons]at j4
       obtain⟨r,mL,pE,w7,qh,rfl⟩:=Rl uo hi j4
       have pL:=a9 mv (λ_ _=>rfl) λj t ⟨xx,hxx,ht⟩ o9=>by
        refine H6 _ _ qh j t ?_ ?_
        ·cases Cb:ti.zero[j]? with
         |none=>rw[Cb]at o9;cases o9
         |some zc=>rw[Cb]at o9;simp at o9;simp[Cb,o9]
        ·rw[List.getElem?_map,hxx];simp[Lf.aZ ht]
       obtain⟨b1,b3⟩:=pL.at
       have hrw:r.length=yf:=g6 r (List.mem_of_getElem? mL)
       have lm:wd=yf:=by rw[<-pE,hrw]
       subst lm
       have nA:(xs.map (Lf.ev ρ)).length=(a.eval y).cells.toList.length:=by rw[List.length_map,b1]
       have hT:=cN.ty _ _ ed
       have Ro:i<rows.length:=(List.getElem?_eq_some_iff.1 mL).1
       have jt:i*wd+off+(a.eval y).cells.toList.length<=aX.size:=by
        rw[g5]
        have:(i+1)*wd<=cap*wd:=Nat.mul_le_mul_right _ (by omega)
        rw[Nat.add_mul]at this
        omega
       have c_:=Nx (P:=P) (t:=t) hT (b:=b) (off:=i*wd+off) (v:=a.eval y) (by rw[<-hvl];simp) g4 (by simpa using jt) (λu hu=>pG.one u hu)
       rw[<-Rn]at c_
       have eZ:=Ny (P:=P) ho c_
       generalize Ih:(aX.toList.take (i*wd+off)++(a.eval y).cells.toList++aX.toList.drop (i*wd+off+(a.eval y).cells.toList.length)).toArray=gg at eZ
       have vI:gg=tb (a.eval y).cells.toList (i*wd+off) aX:=by
        rw[<-Ih]
        exact Array.ext' (by rw[Nu _ _ _ jt])
       have vt:∀k,gg[k]?=if i*wd+off<=k∧k<i*wd+off+(a.eval y).cells.toList.length then(a.eval y).cells.toList[k-(i*wd+off)]? else aX[k]?:=λk=>by rw[vI];exact EY _ _ _ _ jt
       have qj:M id:=(hw.rel.fg b _ g3).1
       have yC:∀i' j' ,i'<rows.length->j'<wd->((i*wd+off<=i'*wd+j'∧i'*wd+j'<i*wd+off+(a.eval y).cells.toList.length)↔(i'=i∧off<=j'∧j'<off+(a.eval y).cells.toList.length)):=by
        intro i' j' bR oX
        rw[nA]at w7
        constructor
        ·rintro⟨h1,h2⟩
         have oM:i'=i:=by
          rcases Nat.lt_trichotomy i' i with bH|heq|BM
          ·have:(i'+1)*wd<=i*wd:=Nat.mul_le_mul_right _ bH
           rw[Nat.add_mul]at this;omega
          ·exact heq
          ·have:(i+1)*wd<=i'*wd:=Nat.mul_le_mul_right _ BM
           rw[Nat.add_mul]at this;omega
         subst oM
         exact⟨rfl,by omega,by omega⟩
        ·rintro⟨rfl,h1,h2⟩
         omega
       let ts:=xs.map (Lf.ev ρ)
       let G':=G.stored id i off (a.eval y).cells.toList.length mv
       have hK:cB (lY (dF d o .un++((aM.o id,SV.ob true (k2.em (.iX (ti.zero.map λz=>!dS z) wd off) (x0::ix::xs)).2)::W1))) (λ_=>False) G w G' (w.setRow b gg):=by
        have rB:∀j p,¬lY (dF d o .un++((aM.o id,SV.ob true (k2.em (.iX (ti.zero.map λz=>!dS z) wd off) (x0::ix::xs)).2)::W1)) (.o j p)->j≠id∧jc mv j=none:=by
         intro j p hj
         constructor
         ·intro e
          subst e
          refine hj ?_
          show St.look _ (aM.o j)≠none
          rw[iS]
          intro e
          have:=(Option.or_eq_none_iff.1 e).2
          simp[St.look,aM.beq]at this
         ·cases hm:jc mv j with
          |none=>rfl
          |some q=>
           exfalso
           refine hj ?_
           show St.look _ (aM.o j)≠none
           rw[iS]
           intro e
           have h1:=(Option.or_eq_none_iff.1 e).2
           have h2:=(a6 q j (yA hm)).2.2.1
           simp only[St.look]at h1
           cases hb:(aM.o id).beq (.o j)with
           |true=>rw[hb]at h1;cases h1
           |false=>rw[hb]at h1;simp only[cond_false]at h1;rw[h2]at h1;cases h1
        refine⟨by rw[Aj];exact Nat.le_refl _,λc hc h0=>⟨z_ h0 (λh1=>by simp[G',Gh.stored,h1]) λl hl hq=>?_,setRow_other _ _ _ _ λe=>?_⟩,λc hc h0=>by simp[G',Gh.stored,h0],λc l hc hn=>⟨?_,setRow_other _ _ _ _ λe=>?_⟩,λj _=>⟨rfl,λp hp=>?_⟩⟩
        ·exact Gh.tC (by omega) hl hq
        ·subst e;exact z9 g3 (xW (by omega)) h0
        ·cases l with
         |f=>simp[G',Gh.stored,hc]
         |x j=>simp[G',Gh.stored,hc]
         |o j p=>obtain⟨h1,h2⟩:=rB j p hn;simp[G',Gh.stored,hc,h1,h2]
        ·subst e
         rw[g3]at hc
         cases hc
         exact(rB id [] hn).1 rfl
        ·by_cases hj:j=id
         ·subst hj
          rcases hp with rfl|hp|hp
          ·simp[G',Gh.stored]
          ·omega
          ·exact absurd rfl (rB j [] (hp [])).1
         ·simp[G',Gh.stored,hj]
       refine⟨?_,by rw[ll];show k2.ct.i=ct.i;rw[a1]⟩
       simp only[a_,Oper.wp,eZ,Oper.upon]
       have hWk:∀r',(bm d o ((k2.em (.iX (ti.zero.map λz=>!dS z) wd off) (x0::ix::xs)).1.set (.o id) (.ob true (k2.em (.iX (ti.zero.map λz=>!dS z) wd off) (x0::ix::xs)).2)) .un).w.look r'=
         (St.look (dF d o .un++((aM.o id,SV.ob true (k2.em (.iX (ti.zero.map λz=>!dS z) wd off) (x0::ix::xs)).2)::W1)) r').or (St.look (Wk.w ⟨s.only R,[],ct,[]⟩) r'):=by
        refine BJ (W2:=(aM.o id,SV.ob true (k2.em (.iX (ti.zero.map λz=>!dS z) wd off) (x0::ix::xs)).2)::W1) (λr'=>?_)
        rw[show((k2.em (.iX (ti.zero.map λz=>!dS z) wd off) (x0::ix::xs)).1.set (.o id) (.ob true (k2.em (.iX (ti.zero.map λz=>!dS z) wd off) (x0::ix::xs)).2)).w.look r'=_ from pH r']
        rw[show(k2.em (.iX (ti.zero.map λz=>!dS z) wd off) (x0::ix::xs)).1.w.look r'=k2.w.look r' from rfl,a5.2 r',<-Option.or_assoc]
        congr 1
        simp only[St.look]
        cases(aM.o id).beq r'<;>simp
       refine⟨G',Af h hw (W2:=dF d o .un++((aM.o id,SV.ob true (k2.em (.iX (ti.zero.map λz=>!dS z) wd off) (x0::ix::xs)).2)::W1)) hWk hK (λi hi=>hi.elim) (λi hi=>hi) (λn mN=>Ag mN) (BO _ _ _) ?_,ul _ _ _⟩
       have vJ:∀c,c≠b->(w.setRow b gg).heap[c]?=w.heap[c]?:=λc hc=>setRow_other _ _ _ _ hc
       have Ii:(w.setRow b gg).heap[b]?=some (.cells gg elem (0,0)):=setRow_heap _ _ _ _ _ _ g4
       have Ij:dh G' (w.setRow b gg) id true [] (.l (setRow rows i off ts)):=by
        have Cg:=λi' j'=>BL (xs:=rows) (ts:=ts) mL w7 i' j'
        have E':ts.length=(a.eval y).cells.toList.length:=nA
        refine .l (wd:=wd) (cv:=λi' j'=>gg.getD (i'*wd+j') undef) (by rw[w5];simpa[G',Gh.stored]using hH) ⟨by rw[w5];exact g2.1,λhe=>g2.2 (by have:=congrArg List.length he;rw[w5]at this;exact List.eq_nil_of_length_eq_zero this)⟩ (by simp[G',Gh.stored,g3]) Ii
         (by rw[vI,BF];exact g5) (Hr g6 mL w7) ?_ ?_ (λ_ _ _ _ hf=>by cases hf) ?_ ?_
        all_goals
         intro i' j'
         have yD:∀t,cI (setRow rows i off ts) i' j'=some t->i'<rows.length∧j'<wd:=by
          intro t ht
          obtain⟨rr,_,gX,_,q1,q2⟩:=pC ht
          rw[w5]at q1
          exact⟨q1,by rw[<-Hr g6 mL w7 rr gX];exact q2⟩
        ·intro t ht
         obtain⟨q1,q2⟩:=yD t ht
         have bH:i'*wd+j'<gg.size:=by
          rw[vI,BF,g5]
          exact Nat.lt_of_lt_of_le (vz q1 q2) (Nat.mul_le_mul_right _ g2.1)
         simp[Array.getD_eq_getD_getElem?,bH]
        ·intro v ht
         obtain⟨q1,q2⟩:=yD _ ht
         rw[Cg]at ht
         rw[Array.getD_eq_getD_getElem?,vt]
         split at ht
         ·rename_i hc
          rw[E']at hc
          rw[if_pos ((yC i' j' q1 q2).2 hc)]
          obtain⟨u,hu,lE⟩:=b3 (j'-off) _ ht
          rw[show i'*wd+j'-(i*wd+off)=j'-off by rw[hc.1];omega,hu]
          rcases lE with⟨u',e1,e2,e3⟩|⟨e1,_⟩|⟨_,_,_,e1⟩
          ·cases e1;subst e2;exact⟨rfl,e3⟩
          ·cases e1
          ·cases e1
         ·rename_i hc
          rw[E']at hc
          rw[if_neg (λhh=>hc ((yC i' j' q1 q2).1 hh)),g7 i' j' _ ht]
          exact g8 i' j' v ht
        ·intro ys ht _
         obtain⟨q1,q2⟩:=yD _ ht
         rw[Cg]at ht
         rw[Array.getD_eq_getD_getElem?,vt]
         split at ht
         ·rename_i hc
          rw[E']at hc
          rw[if_pos ((yC i' j' q1 q2).2 hc)]
          obtain⟨u,hu,lE⟩:=b3 (j'-off) _ ht
          rw[show i'*wd+j'-(i*wd+off)=j'-off by rw[hc.1];omega,hu]
          rw[Nat.zero_add]at lE
          rcases lE with⟨u',e1,_⟩|⟨e1,e2,e3⟩|⟨i2,e1,e2,_⟩
          ·cases e1
          ·have Ik:i'=i∧off<=j'∧j'<off+(a.eval y).cells.size:=by simpa using hc
           simp[G',Gh.stored,Ik,e2,e3]
          ·have Ik:i'=i∧off<=j'∧j'<off+(a.eval y).cells.size:=by simpa using hc
           simp[G',Gh.stored,Ik,e2,e1]
         ·rename_i hc
          rw[E']at hc
          rw[if_neg (λhh=>hc ((yC i' j' q1 q2).1 hh)),g7 i' j' _ ht]
          have:=pD i' j' ys ht rfl
          simp only[List.nil_append]at this
          simp only[Option.getD_some,this,List.nil_append]
          show _=(if id=id then _ else _)
          rw[if_pos rfl]
          simp only[if_neg hc]
        ·intro ys ht _
         obtain⟨q1,q2⟩:=yD _ ht
         rw[Cg]at ht
         split at ht
         ·rename_i hc
          rw[E']at hc
          obtain⟨u,hu,lE⟩:=b3 (j'-off) _ ht
          rw[Nat.zero_add]at lE
          rcases lE with⟨u',e1,_⟩|⟨e1,e2,e3⟩|⟨i2,e1,e2,e3⟩
          ·cases e1
          ·cases e1
           have Ik:i'=i∧off<=j'∧j'<off+(a.eval y).cells.size:=by simpa using hc
           exact .nil (by simp[G',Gh.stored,Ik,e3])
          ·have nc:=(a8 _ i2 (H7 e1)).2
           have cP:=Ig _ i2 (H7 e1)
           refine e3.move rfl (λc q ln=>?_) λq=>?_
           ·simp only[List.nil_append]at ln
            refine⟨?_,vJ c λe=>?_⟩
            ·simp only[G',Gh.stored,ln,if_neg cP,nc]
             rw[hc.1,show off+(j'-off)=j' by omega]
             rfl
            ·subst e;rw[g3]at ln;cases ln;exact cP rfl
           ·simp only[G',Gh.stored,List.nil_append,List.cons_append,if_true,if_pos hc,e1]
         ·rename_i hc
          rw[E']at hc
          have:=vk i' j' ys ht rfl
          simp only[List.nil_append]at this⊢
          refine this.move rfl (λc q ln=>?_) λq=>?_
          ·refine⟨?_,vJ c λe=>?_⟩
           ·simp only[List.cons_append,List.nil_append]at ln⊢
            simp only[G',Gh.stored,ln,if_true,if_neg hc]
           ·subst e;rw[g3]at ln;cases ln
          ·simp only[G',Gh.stored,List.cons_append,List.nil_append,if_true,if_neg hc]
       refine⟨λe n u he hl=>?_,λb u hl=>?_,λj u hl=>?_,λr u hl j hj=>?_,λj hj=>?_,λc l hc=>?_⟩
       ·rcases hZ hl with⟨n',eu,e1,rfl⟩|hl
        ·trivial
        ·rcases gh hl with⟨e1,_⟩|hl
         ·cases e1
         ·obtain⟨_,j,e1,_⟩:=a7 _ _ hl;cases e1
       ·rcases hZ hl with⟨n',eu,e1,rfl⟩|hl
        ·cases e1
        ·rcases gh hl with⟨e1,_⟩|hl
         ·cases e1
         ·obtain⟨_,j,e1,_⟩:=a7 _ _ hl;cases e1
       ·rcases hZ hl with⟨n',eu,e1,rfl⟩|hl
        ·cases e1
        ·rcases gh hl with⟨e1,rfl⟩|hl
         ·cases e1;exact⟨_,w6,Ij⟩
         ·obtain⟨_,j',e1,rfl,_⟩:=a7 _ _ hl;trivial
       ·rcases hZ hl with⟨n',eu,e1,rfl⟩|hl
        ·simp[cp]at hj
        ·rcases gh hl with⟨e1,rfl⟩|hl
         ·simp[cp]at hj
         ·obtain⟨_,j',e1,rfl,_⟩:=a7 _ _ hl;simp[cp]at hj
       ·have:∀r:aM,(r=.x j∨r=.o j)->St.look (dF d o .un++((aM.o id,SV.ob true (k2.em (.iX (ti.zero.map λz=>!dS z) wd off) (x0::ix::xs)).2)::W1)) r≠none->M j:=by
         intro r hr hl
         obtain⟨u,hu⟩:=Option.ne_none_iff_exists'.1 hl
         rcases hZ hu with⟨n',eu,e1,rfl⟩|hl
         ·rcases hr with rfl|rfl<;>cases e1
         ·rcases gh hl with⟨e1,_⟩|hl
          ·rcases hr with rfl|rfl
           ·cases e1
           ·cases e1;exact qj
          ·obtain⟨_,j',e1,_,hm,_⟩:=a7 _ _ hl
           rcases hr with rfl|rfl
           ·cases e1
           ·cases e1;exact hm
        rcases hj with hj|hj
        ·exact this _ (.inl rfl) hj
        ·exact this _ (.inr rfl) hj
       ·rw[Aj]
        cases Il:G.ω c with
        |none=>simp[G',Gh.stored,Il]at hc
        |some l'=>
         have lk:=hw.rel.fg c l' Il
         refine⟨?_,lk.2⟩
         cases l' with
         |f=>simp[G',Gh.stored,Il]at hc;subst hc;exact lk.1
         |x j=>simp[G',Gh.stored,Il]at hc;subst hc;exact lk.1
         |o j p=>
          simp only[G',Gh.stored,Il]at hc
          split at hc
          ·rename_i hj
           subst hj
           split at hc
           ·cases hc;exact qj
           ·split at hc
            ·cases hc
            ·cases hc;exact qj
          ·split at hc
           ·cases hc;exact qj
           ·cases hc;exact lk.1
     ·cases iR
    ·cases cU
   ·cases cU
 ·cases cU
theorem Im{k kw:Wk}{G1 G2:Gh}{j:Nat}{W1:St}{V:SV}{val:Value}(h:Rel M B d up s ρ G a w)(hk:cC M B d up ρ G a w k G1)(hn:∀n,o.dst=some n->n<a.tmps.size)(hM:¬M j)
  (K:cB (lY W1) (λi=>i=j) G1 w G2 w)(HG:∀r,kw.w.look r=(W1.look r).or (k.w.look r))
  (sk:∀r u,W1.look r=some u->∃i,r=.o i∧bZ G2 w ρ i u∧(M i∨i=j)∧∀x∈cp u,M x∨x=j)
  (hV:bY G2 w ρ V val)(j3:∀i∈cp V,M i∨i=j)(gK:∀b l,G2.ω b=some l->(M l.id∨l.id=j)∧b<w.heap.size)
  (hx:(execOp a.eval o).run P w=.ok (.value val) w):a_ P (Mn M j (j+1)) B d up ρ a w s o (bm d o kw V).w Q:=by
 have mn:∀{i:Nat},(M i∨i=j)->Mn M j (j+1) i:=λh=>h.imp_right λe=>by subst e;exact⟨Nat.le_refl _,Nat.lt_succ_self _⟩
 have K2:cB (lY (dF d o V++W1)) (λi=>i=j) G1 w G2 w:=K.mono (λl hl=>by
  cases l with
  |f=>exact hl
  |x b=>
   exfalso
   obtain⟨u,hu⟩:=Option.ne_none_iff_exists'.1 hl
   obtain⟨i,e1,_⟩:=sk _ _ hu
   cases e1
  |o i p=>
   show St.look _ (aM.o i)≠none
   rw[iS]
   exactλe=>hl (Option.or_eq_none_iff.1 e).2) λ_ hi=>hi
 simp only[a_,Oper.wp,hx,Oper.upon]
 refine⟨G2,Af h hk (W2:=dF d o V++W1) (BJ (W2:=W1) HG) K2 (λi hi=>by subst hi;exact hM) (λi hi=>.inl hi) (λn mN=>Ag mN) ⟨rfl,rfl,rfl⟩ ?_,ul _ _ _⟩
 refine⟨λe n u he hl=>?_,λb u hl=>?_,λi u hl=>?_,λr u hl i hi=>?_,λi hi=>?_,λb l hb=>⟨mn (gK b l hb).1,(gK b l hb).2⟩⟩
 ·rcases hZ hl with⟨n',eu,e1,rfl⟩|hl
  ·cases e1
   rw[eu,ET (hn _ eu)]
   exact hV
  ·obtain⟨i,e1,_⟩:=sk _ _ hl;cases e1
 ·rcases hZ hl with⟨n',eu,e1,rfl⟩|hl
  ·cases e1
  ·obtain⟨i,e1,_⟩:=sk _ _ hl;cases e1
 ·rcases hZ hl with⟨n',eu,e1,rfl⟩|hl
  ·cases e1
  ·obtain⟨i',e1,e2,_⟩:=sk _ _ hl;cases e1;exact e2
 ·rcases hZ hl with⟨n',eu,e1,rfl⟩|hl
  ·exact mn (j3 i hi)
  ·obtain⟨i',e1,_,_,e4⟩:=sk _ _ hl;exact mn (e4 i hi)
 ·have:∀r:aM,(r=.x i∨r=.o i)->St.look (dF d o V++W1) r≠none->Mn M j (j+1) i:=by
   intro r hr hl
   obtain⟨u,hu⟩:=Option.ne_none_iff_exists'.1 hl
   rcases hZ hu with⟨n',eu,e1,rfl⟩|hl
   ·rcases hr with rfl|rfl<;>cases e1
   ·obtain⟨i',e1,_,e3,_⟩:=sk _ _ hl
    rcases hr with rfl|rfl
    ·cases e1
    ·cases e1;exact mn e3
  rcases hi with hi|hi
  ·exact this _ (.inl rfl) hi
  ·exact this _ (.inr rfl) hi
def Gh.al(G:Gh)(j:Nat)(v:Value)(hv:∃a n c,v=.slice a n c):Gh where
 ω:=G.ω
 β:=G.β
 H:=λi=>if i=j thenλ_=>v else G.H i
 hs:=λi p=>by
  by_cases h:i=j
  ·simp only[h,if_true];exact hv
  ·simp only[h,if_false];exact G.hs i p
theorem Rp{j:Nat}{v:Value}{hv:∃a n c,v=.slice a n c}{I:Lb->Prop}:cB I (λi=>i=j) G w (G.al j v hv) w:=
 ⟨Nat.le_refl _,λb _ hb=>⟨hb,rfl⟩,λb _ hb=>hb,λb l hl _=>⟨hl,rfl⟩,λi hi=>⟨rfl,λp _=>by simp[Gh.al,hi]⟩⟩
theorem Rq{ω:Nat->Option Lb}{H:List (Nat×Nat)->Value}{n l h sz:Nat}{ao:Option Addr}{len cap:Nat}{xs:List (List T)}(hd:du ω w (.l xs) (.slice ao len cap))(hh:mI w H n (.slice ao len cap) xs)(ru:l<=h)(hx:h<=xs.length)(j5:xs.length<=cap)(dL:okW sz xs=true):
  mI w H (n+l) (sliced ao l h cap sz) ((xs.take h).drop l):=by
 intro b off k c hv
 unfold sliced at hv
 by_cases he:l=h
 ·refine⟨0,λr hr=>?_,λi j ys aR=>?_⟩
  ·subst he;simp at hr
  ·subst he;simp[cI]at aR
 ·have cP:¬(cap=l):=by omega
  rw[if_neg cP]at hv
  cases hd with
  |nil=>simp at hx;omega
  | @l _ b0 vK wd0 _ cv0 g1 g2 g3 g4 g5 g6=>
   simp only[Option.map_some,Addr.add_lit]at hv
   cases hv
   obtain⟨wd,h1,h2⟩:=hh b vK _ _ rfl
   have lm:wd=sz:=by
    cases xs with
    |nil=>simp at hx;omega
    |cons r xs=>rw[<-h1 r (by simp)];exact cK dL
   subst lm
   refine⟨wd,λr hr=>h1 r (List.mem_of_mem_take (List.mem_of_mem_drop hr)),λi j ys aR=>?_⟩
   have:=h2 _ _ _ (BP aR)
   rw[Nat.add_mul]at this
   rw[show vK+l*wd+(i*wd+j)=vK+(l*wd+i*wd+j) by omega,this,Nat.add_assoc]
theorem Rr{k k1:Wk}{G1:Gh}(hk:cC M B d up ρ G a w k G1){x:Operand}{ls:List Lf}{f:Operand->SV}(hf:bY G1 w ρ (f x) (a.eval x))
  (h:mY k f (some x)=some (k1,ls))(hd:k1.aP S ρ):∃y t,ls=[y]∧y.ej ρ=some t∧du (er G1.ω) w t (a.eval x):=by
 simp only[mY,bQ,aJ,Prod.mk.injEq]at h
 obtain⟨⟨k2,y⟩,h1,rfl,rfl⟩:=h
 obtain⟨_,_,t,e3,e4⟩:=Wk.eM hk h1 hd hf
 exact⟨y,t,rfl,e3,e4⟩
theorem Rs(cN:cW P cx)(h:Rel M B d up s ρ G a w)(hn:∀n,o.dst=some n->n<a.tmps.size){t:Nat}{x:Operand}{lo hi mx:Option Operand}(ho:o.op=.slice t x lo hi mx)
  {kv:Wk×SV}(fo:(bif mx.isSome then none else uZ cx ⟨s.only R,[],ct,[]⟩ t (bz d (Wk.get ⟨s.only R,[],ct,[]⟩) x) (lo.map (bz d (Wk.get ⟨s.only R,[],ct,[]⟩))) (hi.map (bz d (Wk.get ⟨s.only R,[],ct,[]⟩))))=some kv)
  (hk:bm d o kv.1 kv.2=k')(hd:k'.aP S ρ)(hM:∀i,ct.i<=i->i<k'.ct.i->¬M i):a_ P (Mn M ct.i k'.ct.i) B d up ρ a w s o k'.w Q:=by
 have hw:=cC.start h R ct
 cases mx with
 |some m=>simp at fo
 |none=>
  simp only[Option.isSome_none,cond_false]at fo
  have HC:=(hw.fH x).1
  have qi:=(hw.fH x).2
  unfold uZ at fo
  split at fo
  ·rename_i id dl
   rw[dl]at HC qi
   split at fo
   ·rename_i tk x0 l0 y j3
    simp only[bQ]at fo
    obtain⟨ti,ed,te,mM,fo⟩:=fo
    cases hc:(Nat.beq ti.kd 3&&z5 l0)with
    |false=>simp[hc]at fo
    |true=>
     simp only[hc,cond_true,bQ,aJ]at fo
     simp only[bB]at hc
     obtain⟨⟨k3,ls⟩,h1,⟨k4,hs⟩,h2,tD⟩:=fo
     have l7:mY ⟨s.only R,[],ct,[]⟩ (bz d (Wk.get ⟨s.only R,[],ct,[]⟩)) lo=some (k3,ls):=by
      cases lo with
      |none=>exact h1
      |some l=>exact h1
     have rv:mY k3 (bz d (Wk.get ⟨s.only R,[],ct,[]⟩)) hi=some (k4,hs):=by
      cases hi with
      |none=>exact h2
      |some l=>exact h2
     subst tD
     have dN:bm d o {((k4.em (.sub te.sz lo.isSome hi.isSome) (y::(ls++hs))).1.set (.o (dy k4.ct.i)) (.fz (.w tk x0 (ls.headD (.k (.int .i64 0)))) (k4.em (.sub te.sz lo.isSome hi.isSome) (y::(ls++hs))).2))with
       ct:=⟨(k4.em (.sub te.sz lo.isSome hi.isSome) (y::(ls++hs))).1.ct.a,dy k4.ct.i+1⟩} (.v false [.o (dy k4.ct.i) []])=k':=by
      rw[<-hk]
      cases lo<;>cases hi<;>rfl
     have eo:(k4.em (.sub te.sz lo.isSome hi.isSome) (y::(ls++hs))).1.aP S ρ:=by
      rw[<-dN]at hd
      have h2:=b_.1 hd
      exact h2
     obtain⟨Ad,r,hr,jk⟩:=Wk.be eo
     have fH:∀z,bY G w ρ (bz d (Wk.get ⟨s.only R,[],ct,[]⟩) z) (a.eval z):=λz=>(hw.fH z).1
     have As:∀{ka kb:Wk} {b:Option Operand} {zs:List Lf},mY ka (bz d (Wk.get ⟨s.only R,[],ct,[]⟩)) b=some (kb,zs)->ka.dE kb:=by
      intro ka kb b zs hb
      unfold mY at hb
      split at hb
      ·simp only[aJ,Prod.mk.injEq]at hb;obtain⟨rfl,_⟩:=hb;exact .refl _
      ·simp only[bQ,aJ,Prod.mk.injEq]at hb
       obtain⟨⟨k5,y5⟩,h5,rfl,_⟩:=hb
       unfold Wk.one at h5
       split at h5
       ·exact Wk.cR h5
       ·cases h5
     have s3:=As l7
     have s4:=As rv
     obtain⟨uq,_,mU⟩:=NB (hw.same s3) (f:=bz d (Wk.get ⟨s.only R,[],ct,[]⟩)) (λz _=>fH z) rv Ad
     obtain⟨_,_,lC⟩:=NB hw (f:=bz d (Wk.get ⟨s.only R,[],ct,[]⟩)) (λz _=>fH z) l7 uq
     have cS:=hw.obj id
     rw[j3]at cS
     obtain⟨tz,hy,cT,yz,F,n0,zs,hF,qe,rfl,tq,pW,vn⟩:=cS
     have ta:n0=0:=BC hc.2 qe
     subst ta
     simp only[List.map_cons,Lf.aZ hy]at hr
     obtain⟨xs,hxs,dL,hr⟩:=HB hr
     cases hxs
     obtain⟨l,hh,Au,lR,oZ⟩:=BQ (F:=λl h=>if 0<=l then(if l<=h then(if h<=zs.length then some (T.l ((zs.take h.toNat).drop l.toNat))else none)else none)else none) lC mU hr
     split at Au
     ·rename_i h0
      split at Au
      ·rename_i ru
       split at Au
       ·rename_i HE
        simp only[aJ]at Au
        subst Au
        obtain⟨e,he,m_,_⟩:=HC
        cases he
        obtain⟨p,hp,fB⟩:=m_
        simp only[ke,aJ]at hp
        subst hp
        have vx:=cT
        rw[<-fB]at vx
        obtain⟨ao,cap,pF,j5⟩:=vx.rows
        have hT:=cN.ty _ _ ed
        have hE:=cN.ty _ _ mM
        obtain⟨i,zz,qJ,l8,_⟩:=hE.info
        have o5:zs.length<=cap:=by
         by_cases hz:zs=[]
         ·subst hz;simp
         ·exact j5 hz
        have mO:=HA (P:=P) (w:=w) (hT.sl (cK hc.1)) ⟨i,qJ,l8⟩ (ao:=ao) o5 lR oZ h0 ru HE
        rw[<-pF]at mO
        have eZ:(execOp a.eval o).run P w=.ok (.value (sliced ao l.toNat hh.toNat cap te.sz)) w:=
         wY (x:=Instr.sliceAt t (a.eval x) (lo.map a.eval) (hi.map a.eval) none) (by unfold execOp;rw[ho];rfl) mO
        have hsv:∃a n c,sliced ao l.toNat hh.toNat cap te.sz=.slice a n c:=by unfold sliced;exact⟨_,_,_,rfl⟩
        rw[pF]at vx
        have jr:=vx.sub (l:=l.toNat) (h:=hh.toNat) (sz:=te.sz) (by omega) (by omega) dL
        have iQ:k4.ct.i=ct.i:=by rw[s4.i,s3.i]
        have mX:k'.ct.i=dy ct.i+1:=by rw[<-dN,ll,<-iQ]
        have lA:=uX ct.i
        rw[mX,<-dN,<-iQ]
        refine a_.mono (M:=Mn M (dy k4.ct.i) (dy k4.ct.i+1)) ?_ (λi hi=>hi.imp_right λhi=>by rw[iQ]at hi⊢;exact⟨by omega,hi.2⟩)
        have qj:M id:=qi id (by simp[cp,cJ])
        have vL:M tk:=hw.rel.eD (.o id) tk (by rw[<-Wk.aE,j3];simp[cp])
        have Ar:¬M (dy k4.ct.i):=hM _ (by rw[iQ];exact lA) (by rw[mX,iQ];omega)
        have cP:tk≠dy k4.ct.i:=λe=>Ar (e▸vL)
        refine Im (j:=dy k4.ct.i) (G2:=G.al (dy k4.ct.i) (sliced ao l.toNat hh.toNat cap te.sz) hsv) (W1:=[(.o (dy k4.ct.i),.fz (.w tk x0 (ls.headD (.k (.int .i64 0)))) (k4.em (.sub te.sz lo.isSome hi.isSome) (y::(ls++hs))).2)])
         h (hw.same (s3.trans (s4.trans (Wk.aS k4 (.sub te.sz lo.isSome hi.isSome) (y::(ls++hs)))))) hn Ar Rp (λr=>by rw[pY];exact pH (k:=(k4.em (.sub te.sz lo.isSome hi.isSome) (y::(ls++hs))).1) r▸(by rw[pY])) (λr u hl=>?_) ?_ (λi hi=>by simp[cp,cJ]at hi;exact .inr hi) (λb l hb=>⟨.inl (hw.rel.fg b l hb).1,(hw.rel.fg b l hb).2⟩) eZ
        ·rcases gh hl with⟨e1,e2⟩|hl
         ·subst e1 e2
          refine⟨_,rfl,⟨_,jk,?_,yz,F,l.toNat,_,hF,?_,rfl,λi r hg=>?_,?_,λqe b off k c hv=>?_⟩,.inr rfl,λi hi=>by simp[cp]at hi;subst hi;exact .inl vL⟩
          ·simpa[Gh.al,Gh.q]using jr
          ·rcases lR with⟨e1,rfl⟩|⟨kk,e1⟩
           ·rcases lC with⟨rfl,rfl⟩|⟨z,yy,tt,rfl,_⟩
            ·simp[jT,Lf.ej,ib]
            ·simp at e1
           ·cases lo with
            |none=>simp at e1
            |some z=>
             obtain⟨yy,tt,e5,ht,kg⟩:=Rr hw (fH z) l7 uq
             subst e5
             simp only[Option.map_some,aJ]at e1
             rw[e1]at kg
             have htt:tt=.c (.int kk l):=by
              generalize hq:Value.int kk l=q at kg
              cases kg with
              |c _=>rfl
              |nil=>cases hq
              |l=>cases hq
             rw[htt]at ht
             simp only[List.headD_cons]
             exact Hh ht h0
          ·rw[List.getElem?_drop,List.getElem?_take]at hg
           split at hg
           ·have:=tq _ _ hg
            rw[Nat.zero_add]at this
            exact this
           ·cases hg
          ·have h3:mI w (G.H tk) 0 (.slice ao zs.length cap) zs:=by rw[<-pF,fB];exact pW
           have h4:=Rq vx h3 (l:=l.toNat) (h:=hh.toNat) (sz:=te.sz) (by omega) (by omega) o5 dL
           rw[Nat.zero_add]at h4
           simpa[Gh.al,cP]using h4
          ·simp only[Gh.al,if_true]at hv
           have hl:l.toNat=0:=qe
           unfold sliced at hv
           rw[hl]at hv
           split at hv
           ·cases hv
            exact vn rfl b off _ _ (by rw[<-fB];exact pF)
           ·generalize pB:Value.slice ao zs.length cap=vv at vx
            cases vx with
            |nil=>
             cases pB
             rename_i aa _
             cases ao with
             |none=>simp at hv
             |some ad=>
              obtain⟨b0,vK,r0⟩:=ad
              cases r0 with
              |none=>
               simp only[Option.map_some,Addr.add_lit,Nat.zero_mul,Nat.add_zero]at hv
               cases hv
               exact vn rfl b off _ _ (by rw[<-fB];exact pF)
              |some sp=>simp[Addr.add]at hv
            | @l _ b0 vK wd0 _ cv0 g1 g2 g3 g4 g5 g6=>
             cases pB
             simp only[Option.map_some,Addr.add_lit,Nat.zero_mul,Nat.add_zero]at hv
             cases hv
             exact vn rfl b off _ _ (by rw[<-fB];exact pF)
         ·cases hl
        ·exact⟨_,rfl,⟨[],rfl,by simp[Gh.al]⟩,λz hz=>by unfold sliced at hz;cases hz⟩
       ·cases Au
      ·cases Au
     ·cases Au
   ·cases fo
  ·cases fo
theorem Wk.ma:∀(zs:List Ce) (k:Wk) (y ix:Lf) (j wd off:Nat),k.dE (k.km y ix j wd off zs).1
 | [],k,_,_,_,_,_=>.refl k
 |z::zs,k,y,ix,j,wd,off=>by
  unfold Wk.km
  cases dS z with
  |true=>exact(Wk.aS k _ _).trans (Wk.ma zs _ y ix j wd (off+1))
  |false=>exact(Wk.aS k _ _).trans (Wk.ma zs _ y ix j wd (off+1))
theorem Wk.lF:∀(zs:List Ce) (k:Wk) (y ix:Lf) (j wd off:Nat),(k.km y ix j wd off zs).1.aP S ρ->k.aP S ρ
 | [],_,_,_,_,_,_,h=>h
 |z::zs,k,y,ix,j,wd,off,h=>by
  unfold Wk.km at h
  cases hz:dS z with
  |true=>rw[hz]at h;exact(Wk.be (Wk.lF zs _ y ix j wd (off+1) h)).1
  |false=>rw[hz]at h;exact(Wk.be (Wk.lF zs _ y ix j wd (off+1) h)).1
theorem Wk.nH{y ix:Lf}{xs:List (List T)}{i wd j b base:Nat}{Hd:Nat->Value}(hx:y.ej ρ=some (.l xs))(hi:jT ρ ix=some i)
  (eV:∀r,xs[i]?=some r->r.length=wd->∀c t,r[c]?=some t->∃u,w.cell? ⟨b,base+c,none⟩=some u∧(∀v,t=.c v->u=v∧ib v=true)∧∀ys,t=.l ys->u=Hd c):
  ∀(zs:List Ce) (k:Wk) (off:Nat),(k.km y ix j wd off zs).1.aP S ρ->
   ∃vs:List Value,vs.length=zs.length∧(∀c v,vs[c]?=some v->w.cell? ⟨b,base+off+c,none⟩=some v)∧(∀i∈cJ (k.km y ix j wd off zs).2.1,i=j)∧
    ((zs.filter dS).length=0->∀G1:Gh,aF G1 w ρ (k.km y ix j wd off zs).2.1 vs)∧
    ((zs.filter dS).length=1->∃r c0 ys,xs[i]?=some r∧r.length=wd∧r[c0]?=some (.l ys)∧(k.km y ix j wd off zs).2.2.ej ρ=some (.l ys)∧∀G1:Gh,G1.H j []=Hd c0->aF G1 w ρ (k.km y ix j wd off zs).2.1 vs)
 | [],k,off,_=>⟨[],rfl,λc v hc=>by simp at hc,λi hi=>by simp[Wk.km,cJ]at hi,λ_ _=>trivial,λh=>by simp at h⟩
 |z::zs,k,off,hd=>by
  unfold Wk.km at hd⊢
  cases hz:dS z with
  |true=>
   rw[hz]at hd
   simp only[cond_true]at hd⊢
   obtain⟨_,t,ht,w6⟩:=Wk.be (Wk.lF zs _ _ _ _ _ (off+1) hd)
   obtain⟨ys,rfl,aR,r,h1,h2⟩:=yc hx hi ht
   have h3:r[off]?=some (.l ys):=by simpa[cI,h1]using aR
   obtain⟨u,h5,_,h6⟩:=eV r h1 h2 off _ h3
   obtain⟨vs,g1,g2,g3,g4,g5⟩:=Wk.nH hx hi eV zs _ (off+1) hd
   refine⟨u::vs,by simp[g1],λc v hc=>?_,λi hi=>?_,λh0=>by simp[hz]at h0,λRt=>⟨r,off,ys,h1,h2,h3,w6,λG1 hG=>⟨⟨[],rfl,by rw[h6 ys rfl,hG]⟩,g4 (by simpa[hz]using Rt) G1⟩⟩⟩
   ·cases c with
    |zero=>simp at hc;subst hc;simpa using h5
    |succ c=>
     have:=g2 c v (by simpa using hc)
     rwa[show base+(off+1)+c=base+off+(c+1) by omega]at this
   ·simp only[cJ,List.mem_cons]at hi
    rcases hi with hi|hi
    ·exact hi
    ·exact g3 i hi
  |false=>
   rw[hz]at hd
   simp only[cond_false]at hd⊢
   obtain⟨_,t,ht,w6⟩:=Wk.be (Wk.lF zs _ _ _ _ _ (off+1) hd)
   obtain⟨r,h1,h2,h3,h4⟩:=Bz (sc:=true) hx hi ht
   obtain⟨c,rfl⟩:=BA (h4 rfl)
   obtain⟨u,h5,h6,_⟩:=eV r h1 h2 off _ h3
   obtain⟨rfl,hs⟩:=h6 c rfl
   obtain⟨vs,g1,g2,g3,g4,g5⟩:=Wk.nH hx hi eV zs _ (off+1) hd
   refine⟨u::vs,by simp[g1],λc v hc=>?_,λi hi=>g3 i (by simpa[cJ]using hi),λh0 G1=>⟨⟨.c u,w6,.c hs⟩,g4 (by simpa[hz]using h0) G1⟩,λRt=>?_⟩
   ·cases c with
    |zero=>simp at hc;subst hc;simpa using h5
    |succ c=>
     have:=g2 c v (by simpa using hc)
     rwa[show base+(off+1)+c=base+off+(c+1) by omega]at this
   ·obtain⟨r',c0,ys,e1,e2,e3,e4,e5⟩:=g5 (by simpa[hz]using Rt)
    exact⟨r',c0,ys,e1,e2,e3,e4,λG1 hG=>⟨⟨.c u,w6,.c hs⟩,e5 G1 hG⟩⟩
theorem Ru{m i r:T}(h:Prim.ev .uS [m,i]=some r):∃us kk n,m=.l us∧i=.c (.int kk n)∧0<=n∧n.toNat+1<=us.length∧uT us n.toNat 1=true∧r=.l (z0 us n.toNat 1):=by
 cases m with
 |c v=>simp[Prim.ev]at h
 |l us=>
  cases i with
  |l _=>simp[Prim.ev]at h
  |c v=>
   cases v with
   |int kk n=>
    simp only[Prim.ev]at h
    split at h
    ·split at h
     ·split at h
      ·cases h
       exact⟨us,kk,n,rfl,rfl,by assumption,by assumption,by assumption,rfl⟩
      ·cases h
     ·cases h
    ·cases h
   |_=>simp[Prim.ev]at h
def Gh.ic(G:Gh)(tk j i c0:Nat):Gh where
 ω:=λb=>match G.ω b with
  |some (.o n ((r,c)::p))=>if n=tk∧r=i∧c=c0 then some (.o j p)else some (.o n ((r,c)::p))
  |l=>l
 β:=G.β
 H:=λn=>if n=j thenλp=>G.H tk ((i,c0)::p)else G.H n
 hs:=λn p=>by
  by_cases h:n=j
  ·simp only[h,if_true];exact G.hs tk _
  ·simp only[h,if_false];exact G.hs n p
theorem Rv{tk j i c0:Nat}(h4:j%4=2){I:Lb->Prop}(hI:∀p,I (.o tk p)):cB I (λn=>n=j) G w (G.ic tk j i c0) w:=by
 refine⟨Nat.le_refl _,λb _ hb=>⟨z_ hb (λh0=>by simp[Gh.ic,h0]) λl hl hq=>?_,rfl⟩,λb _ hb=>by simp[Gh.ic,hb],λb l hl hn=>⟨?_,rfl⟩,λn hn=>⟨rfl,λp _=>by simp[Gh.ic,hn]⟩⟩
 ·cases l with
  |o n p=>
   cases p with
   |nil=>exact .inr ⟨_,by simp[Gh.ic,hl],hq⟩
   |cons x p=>
    obtain⟨r,c⟩:=x
    simp only[Gh.ic,hl]
    split
    ·exact .inr ⟨_,rfl,Bq h4⟩
    ·exact .inr ⟨_,rfl,hq⟩
  |_=>simp[qt]at hq
 ·cases l with
  |o n p=>
   cases p with
   |nil=>simp[Gh.ic,hl]
   |cons x p=>
    obtain⟨r,c⟩:=x
    have:n≠tk:=λe=>hn (e▸hI _)
    simp[Gh.ic,hl,this]
  |_=>simp[Gh.ic,hl]
theorem Rw(cN:cW P cx)(h:Rel M B d up s ρ G a w)(hn:∀n,o.dst=some n->n<a.tmps.size){x:Operand}{t:Nat}(ho:o.op=.load t x){kv:Wk×SV}
  (fo:A6 cx ⟨s.only R,[],ct,[]⟩ t (bz d (Wk.get ⟨s.only R,[],ct,[]⟩) x)=some kv)(hk:bm d o kv.1 kv.2=k')(hd:k'.aP S ρ)(hM:∀i,ct.i<=i->i<k'.ct.i->¬M i):
  a_ P (Mn M ct.i k'.ct.i) B d up ρ a w s o k'.w Q:=by
 have hw:=cC.start h R ct
 obtain⟨hr,hm⟩:=hw.fH x
 unfold A6 at fo
 split at fo
 ·rename_i id ix wd off dl
  rw[dl]at hr hm
  simp only[bQ]at fo
  obtain⟨ti,ed,fo⟩:=fo
  split at fo
  ·rename_i tk x0 lo y j3
   split at fo
   ·rename_i y0 m yz
    cases hc:(z5 lo&&x0.beq y0&&Nat.beq (ti.zero.filter dS).length 1&&Nat.beq ti.zero.length ti.sz)with
    |false=>simp[hc]at fo
    |true=>
     simp only[hc,cond_true,aJ]at fo
     simp only[bB]at hc
     obtain⟨⟨⟨c1,c2⟩,c3⟩,c4⟩:=hc
     have HX:=Lf.beq_eq c2
     subst HX
     have l9:=cK c3
     have oT:=cK c4
     subst fo
     obtain⟨kr,NH⟩:∃kr,(Wk.km ⟨s.only R,[],ct,[]⟩ y ix (li ct.i) wd off ti.zero)=kr:=⟨_,rfl⟩
     have dN:bm d o {(((kr.1.em .uS [m,ix]).1.set (.o tk) (.tk x0 (kr.1.em .uS [m,ix]).2)).set (.o (li ct.i)) (.fl kr.2.2))with ct:=⟨(kr.1.em .uS [m,ix]).1.ct.a,li ct.i+1⟩} (.v ti.ag kr.2.1)=k':=by
      rw[<-hk,<-NH]
     have eo:(kr.1.em .uS [m,ix]).1.aP S ρ:=by
      rw[<-dN]at hd
      have h2:=b_.1 hd
      exact h2
     obtain⟨vD,r1,mL,jk⟩:=Wk.be eo
     rw[<-NH]at vD
     obtain⟨p,b,n,cap,i,e1,e2,e3,e4,e5⟩:=hr
     simp only[ke,aJ]at e1
     subst e1
     have obj:=hw.obj id
     have HY:=hw.obj tk
     rw[j3]at obj
     rw[yz]at HY
     obtain⟨tt,ht,cT,Rx,F,n0,zs,hF,l7,rfl,tq,pW,_⟩:=obj
     have ta:n0=0:=BC c1 l7
     subst ta
     obtain⟨_,F',u,HZ,hu,hlen,ki⟩:=HY
     rw[hF]at HZ
     cases HZ
     rw[e2]at cT
     obtain⟨w8,w1,w2⟩:=pW b 0 n cap e2
     obtain⟨vs,g1,g2,g3,_,g5⟩:=Wk.nH (S:=S) (w:=w) (b:=b) (base:=i*wd) (j:=li ct.i) (Hd:=λc=>G.H tk [(i,c)]) (wd:=wd) ht e3 (λr gJ hl c t' hY=>by
      obtain⟨v',hc,mN⟩:=(cT.row gJ hl).2.2 c t' hY
      rw[Nat.zero_add]at hc
      refine⟨v',hc,λv he=>by subst he;exact mN.scalar,λys he=>?_⟩
      subst he
      have lm:w8=wd:=by rw[<-w1 r (List.mem_of_getElem? gJ),hl]
      have aR:cI zs i c=some (.l ys):=by simp[cI,gJ,hY]
      have:=w2 i c ys aR
      rw[Nat.zero_add,Nat.zero_add,lm,hc]at this
      exact Option.some.inj this) ti.zero _ off vD
     rw[NH]at g3 g5
     obtain⟨row,c0,ys,q1,q2,q3,q4,q5⟩:=g5 l9
     have hT:=cN.ty _ _ ed
     have c_:=G_ (P:=P) (w:=w) hT (b:=b) (off:=i*wd+off) (vs:=vs) (by rw[g1,oT]) g2
     have eZ:(execOp a.eval o).run P w=.ok (.value (if ti.ag then .agg vs.toArray else vs.getD 0 undef)) w:=by
      refine wY (x:=Instr.loadAt t (a.eval x)) (by unfold execOp;rw[ho]) ?_
      rw[e5];exact c_
     obtain⟨kk,hix⟩:=EU e3
     simp only[List.map_cons,List.map_nil,Lf.aZ hu,hix]at mL
     obtain⟨us,kk2,n2,f1,f2,f3,f4,f5,rfl⟩:=Ru mL
     cases f1
     cases f2
     have l8:((i:Int)).toNat=i:=Int.toNat_natCast i
     rw[l8]at f4 f5 jk
     have s1:Wk.dE ⟨s.only R,[],ct,[]⟩ kr.1:=by rw[<-NH];exact Wk.ma _ _ _ _ _ _ _
     have mX:k'.ct.i=li ct.i+1:=by rw[<-dN,ll]
     have hle:=GJ ct.i
     rw[mX,<-dN]
     refine a_.mono (M:=Mn M (li ct.i) (li ct.i+1)) ?_ (λi hi=>hi.imp_right λhi=>⟨by omega,hi.2⟩)
     have vL:M tk:=hw.rel.eD (.o id) tk (by rw[<-Wk.aE,j3];simp[cp])
     have Ar:¬M (li ct.i):=hM _ hle (by rw[mX];omega)
     have cP:tk≠li ct.i:=λe=>Ar (e▸vL)
     have wZ:=GK ct.i
     have free:=HV f4 f5 (i:=0) (by omega)
     obtain⟨r',Ry,Rz⟩:=free
     obtain⟨o1,o2⟩:=ki _ _ Ry Rz
     have Av:=tq _ _ q1
     rw[Nat.zero_add]at Av
     rw[Nat.add_zero,Av]at o1
     cases o1
     have aT:=o2 c0 ys q3
     rw[Nat.add_zero]at aT
     have rB:∀q,lY [(aM.o (li ct.i),SV.fl kr.2.2),(aM.o tk,SV.tk x0 (kr.1.em .uS [m,ix]).2)] (.o tk q):=by
      intro q
      show St.look _ (aM.o tk)≠none
      simp only[St.look]
      cases(aM.o (li ct.i)).beq (.o tk)<;>simp[(aM.beq_iff (r:=aM.o tk)).2 rfl]
     refine Im (j:=li ct.i) (G2:=G.ic tk (li ct.i) i c0) (W1:=[(.o (li ct.i),.fl kr.2.2),(.o tk,.tk x0 (kr.1.em .uS [m,ix]).2)])
      h (hw.same (s1.trans (Wk.aS kr.1 .uS [m,ix]))) hn Ar (Rv wZ rB) (λr=>?_) (λr u' hl=>?_) ?_ (λi hi=>.inr (g3 i hi)) (λb l hb=>?_) eZ
     ·show(((kr.1.em .uS [m,ix]).1.w.set (.o tk) _).set (.o (li ct.i)) _).look r=_
      simp only[St.look]
      by_cases h1:aM.o (li ct.i)=r
      ·subst h1;rw[St.aK];simp[(aM.beq_iff (r:=aM.o (li ct.i))).2 rfl]
      ·have b1:(aM.o (li ct.i)).beq r=false:=by
        cases hb:(aM.o (li ct.i)).beq r with
        |false=>rfl
        |true=>exact absurd (aM.beq_iff.1 hb) h1
       rw[St.bJ _ _ h1,b1]
       by_cases h2:aM.o tk=r
       ·subst h2;rw[St.aK];simp[(aM.beq_iff (r:=aM.o tk)).2 rfl]
       ·have b2:(aM.o tk).beq r=false:=by
         cases hb:(aM.o tk).beq r with
         |false=>rfl
         |true=>exact absurd (aM.beq_iff.1 hb) h2
        rw[St.bJ _ _ h2,b2];simp
     ·rcases gh hl with⟨e1,e2⟩|hl
      ·subst e1 e2
       refine⟨_,rfl,⟨wZ,_,q4,?_⟩,.inr rfl,λi hi=>by simp[cp]at hi⟩
       refine aT.move rfl (λb q hb=>⟨?_,rfl⟩) λq=>?_
       ·simp only[List.cons_append,List.nil_append]at hb⊢
        simp only[Gh.ic,hb]
        rw[if_pos (by refine⟨?_,?_,?_⟩<;>trivial)]
       ·simp[Gh.ic]
      ·rcases gh hl with⟨e1,e2⟩|hl
       ·subst e1 e2
        refine⟨tk,rfl,⟨Rx,F,_,hF,jk,by rw[HT f4];exact hlen,λi' r hg Io=>?_⟩,.inl vL,λi hi=>by simp[cp]at hi⟩
        obtain⟨g1,g2⟩:=HU f4 hg Io
        obtain⟨g3,g4⟩:=ki i' r g1 Io
        refine⟨g3,λc l' oC=>(g4 c l' oC).move rfl (λb q hb=>⟨?_,rfl⟩) λq=>?_⟩
        ·simp only[List.cons_append,List.nil_append]at hb⊢
         simp only[Gh.ic,hb]
         rw[if_neg (by omega)]
        ·simp[Gh.ic,cP]
       ·cases hl
     ·exact Ha hT (q5 _ (by simp[Gh.ic])) (by rw[g1,oT])
     ·cases hg:G.ω b with
      |none=>simp[Gh.ic,hg]at hb
      |some l0=>
       have qe:=hw.rel.fg b l0 hg
       refine⟨?_,qe.2⟩
       cases l0 with
       |o n' p=>
        cases p with
        |nil=>simp[Gh.ic,hg]at hb;subst hb;exact .inl qe.1
        |cons x p=>
         obtain⟨r,c⟩:=x
         simp only[Gh.ic,hg]at hb
         split at hb
         ·cases hb;exact .inr rfl
         ·cases hb;exact .inl qe.1
       |_=>simp[Gh.ic,hg]at hb;subst hb;exact .inl qe.1
   ·cases fo
  ·cases fo
 ·cases fo
end
def bq(G:Gh)(w:World):List Ck->List Value->List T->List (Option Nat)->Prop
 | [],[],[],[]=>True
 | .s::ks,v::vs,t::ts,x::is=>x=none∧du G.q w t v∧dr t=true∧bq G w ks vs ts is
 | .p::ks,v::vs,t::ts,x::is=>x=none∧du G.q w t v∧bq G w ks vs ts is
 | .o dp::ks,v::vs,t::ts,none::is=>v=.slice none 0 0∧t=.l []∧bq G w ks vs ts is
 | .o dp::ks,v::vs,t::ts,some id::is=>v=G.H id []∧dh G w id dp [] t∧bq G w ks vs ts is
 |_,_,_,_=>False
def Ip(G:Gh)(w:World)(r:Bool×List Ck)(c:Value)(ts:List T)(is:List (Option Nat)):Prop:=
 match r.1 with
 |true=>∃vs:List Value,c=.agg vs.toArray∧bq G w r.2 vs ts is
 |false=>bq G w r.2 [c] ts is∧∀x,c≠.agg x
def gi(G:Gh)(w:World):List (Bool×List Ck)->List Value->List T->List (Option Nat)->Prop
 | [],[],[],[]=>True
 |r::rs,v::vs,ts,is=>∃t1 t2 i1 i2,ts=t1++t2∧is=i1++i2∧Ip G w r v t1 i1∧gi G w rs vs t2 i2
 |_,_,_,_=>False
def Ch(G:Gh)(w:World)(rs:List (Bool×List Ck))(v:Value)(ts:List T)(is:List (Option Nat)):Prop:=
 match rs with
 | []=>ts=[]∧is=[]
 | [r]=>gi G w [r] [v] ts is
 |rs=>∃vs:List Value,v=.tuple vs.toArray∧gi G w rs vs ts is
section
variable {w:World}
def fI(G:Gh)(w:World)(bl:Nat->Option Nat):Nat->List PS->List T->Prop
 |_,[],ts=>ts=[]
 |i,.v _ _::ps,ts=>fI G w bl (i+1) ps ts
 |i,.x n::ps,ts=>∃b aX elem t1 t2,bl i=some b∧G.ω b=some (.x i)∧w.heap[b]?=some (.cells aX elem (0,0))∧ts=t1++t2∧t1.length=n∧dm G.q w t1 aX.toList∧
   fI G w bl (i+1) ps t2
def tE(ω:Nat->Option Lb)(w:World)(bl:Nat->Option Nat):Nat->List PS->List Value->List T->Prop
 |_,[],args,ts=>args=[]∧ts=[]
 |i,.v ag n::ps,args,ts=>∃c dM vs t1 t2,args=c::dM∧ts=t1++t2∧t1.length=n∧(match ag with|true=>c=.agg vs.toArray|false=>vs=[c]∧∀x,c≠.agg x)∧dm ω w t1 vs∧
   tE ω w bl (i+1) ps dM t2
 |i,.x n::ps,args,ts=>∃c dM b aX elem t1 t2,args=c::dM∧c=.pointer (some ⟨b,0,none⟩)∧bl i=some b∧ω b=some (.x i)∧w.heap[b]?=some (.cells aX elem (0,0))∧ts=t1++t2∧t1.length=n∧dm ω w t1 aX.toList∧
   tE ω w bl (i+1) ps dM t2
structure sn (sg:lV) (lP:Nat->Option Lb) (bl:Nat->Option Nat) (w:World):Prop where
 fg:∀b l,lP b=some l->b<w.heap.size∧(l=.f∨∃i,l=.x i∧bl i=some b)
 bl:∀i b,bl i=some b->i<sg.ps.length∧lP b=some (.x i)
 gl:x9 lP w
structure mb (sg:lV) (w:World) (lP:Nat->Option Lb) (bl:Nat->Option Nat) (outs:List T) (v:Value) (w':World) (G:Gh) (is:List (Option Nat)) (o1 o2:List T):Prop where
 so:gA w w'
 size:w.heap.size<=w'.heap.size
 free:∀b,b<w.heap.size->lP b=none->G.ω b=none∧w'.heap[b]?=w.heap[b]?
 wU:∀b,lP b=some .f->G.ω b=some .f∧w'.heap[b]?=w.heap[b]?
 fg:∀b l,G.ω b=some l->b<w'.heap.size
 qq:nr sg=true->∀b,G.q b=none->G.ω b=none
 outs:outs=o1++o2
 nodup:(is.filterMap id).Nodup
 ret:Ch G w' sg.rs v o1 is
 box:fI G w' bl 0 sg.ps o2
def yE(P:Program)(sg:lV)(f:FuncId)(F:ay):Prop:=
 ∀(w:World) (lP:Nat->Option Lb) (bl:Nat->Option Nat) (args:List Value) (ts outs:List T),F ts=some outs->sn sg lP bl w->tE lP w bl 0 sg.ps args ts->
  Calls P f args.toArray w λe w'=>∃v G is o1 o2,e=.returned v∧mb sg w lP bl outs v w' G is o1 o2
structure fJ (G G':Gh):Prop where
 o:∀b,G'.ω b=G.ω b∨(G'.ω b=none∧∃i p,G.ω b=some (.o i p))
 β:G'.β=G.β
 H:G'.H=G.H
theorem fJ.refl(G:Gh):fJ G G:=⟨λ_=>.inl rfl,rfl,rfl⟩
theorem fJ.trans{G1 G2 G3:Gh}(h:fJ G1 G2)(h':fJ G2 G3):fJ G1 G3:=by
 refine⟨λb=>?_,h'.β.trans h.β,h'.H.trans h.H⟩
 rcases h'.o b with h1|⟨h1,i,p,h2⟩
 ·rcases h.o b with h3|⟨h3,h4⟩
  ·exact .inl (h1.trans h3)
  ·exact .inr ⟨h1.trans h3,h4⟩
 ·rcases h.o b with h3|⟨h3,h4⟩
  ·exact .inr ⟨h1,i,p,by rw[<-h3];exact h2⟩
  ·rw[h3]at h2;cases h2
theorem fJ.RA{G G':Gh}(h:fJ G G'){b:Nat}(hb:G.ω b=none):G'.ω b=none:=by
 rcases h.o b with h1|⟨h1,_⟩
 ·rw[h1,hb]
 ·exact h1
theorem fJ.q{G G':Gh}(h:fJ G G'){b:Nat}(hb:G.q b=none):G'.q b=none:=by
 refine z_ hb h.RA λl hl hq=>?_
 rcases h.o b with h1|⟨h1,_⟩
 ·exact .inr ⟨l,by rw[h1,hl],hq⟩
 ·exact .inl h1
theorem fJ.x{G G':Gh}(h:fJ G G'){b:Nat}{l:Lb}(hb:G.ω b=some l)(hl:∀i p,l≠.o i p):G'.ω b=some l:=by
 rcases h.o b with h1|⟨_,i,p,h1⟩
 ·rw[h1,hb]
 ·rw[hb]at h1;cases h1;exact absurd rfl (hl i p)
theorem fJ.er{G G':Gh}(h:fJ G G'){b:Nat}(hb:er G.ω b=none):er G'.ω b=none:=by
 unfold Go.Proofs.YtbhplkilhknciaaC.er at hb⊢
 cases hg:G.ω b with
 |none=>rw[h.RA hg]
 |some l=>
  rw[hg]at hb
  cases l with
  |f=>cases hb
  |x i=>cases hb
  |o i p=>
   rcases h.o b with h1|⟨h1,_⟩
   ·rw[h1,hg]
   ·rw[h1]
theorem fJ.aG{G G':Gh}(h:fJ G G')(w:World):cB (λl=>∃i p,l=.o i p) (λ_=>False) G w G' w:=
 ⟨Nat.le_refl _,λb _ hb=>⟨h.q hb,rfl⟩,λb _ hb=>h.RA hb,λb l hb hl=>⟨h.x hb λi p e=>hl ⟨i,p,e⟩,rfl⟩,λ_ _=>⟨by rw[h.β],λ_ _=>by rw[h.H]⟩⟩
theorem Gh.mc(G:Gh)(id:Nat)(all:Bool):fJ G (G.free id all):=by
 refine⟨λb=>?_,rfl,rfl⟩
 cases hg:G.ω b with
 |none=>exact .inl (Gh.fi hg)
 |some l=>
  cases l with
  |f=>exact .inl (by simp[Gh.free,hg])
  |x i=>exact .inl (by simp[Gh.free,hg])
  |o i p=>
   simp only[Gh.free,hg]
   split
   ·exact .inr ⟨rfl,i,p,rfl⟩
   ·exact .inl rfl
variable {M:Nat->Prop} {B:dt} {d:Nat} {up:Nat->Nat->Value} {ρ:List T} {G:Gh} {a:Act} {S:Nat->ay} {P:Program}
theorem cC.Iq{k k':Wk}{G1:Gh}(h:cC M B d up ρ G a w k G1){id:Nat}(hk:k.jY id=some k'):∃G2,cC M B d up ρ G a w k' G2∧fJ G1 G2:=by
 unfold Wk.jY at hk
 split at hk
 ·rename_i dp x hx
  cases hk
  rw[Wk.aE]at hx
  refine⟨_,⟨(h.rel.jY hx).congr (Ab _ _ _ _),(h.aG.mono (λl hl=>Aa hl) λ_ hn=>hn).trans ((G1.dY id true w).mono ?_ λ_ hn=>hn)⟩,G1.mc id true⟩
  rintro l ⟨p,rfl⟩
  show(k.w.set _ _).look (.o id)≠none
  rw[St.aK];simp
 ·cases hk;exact⟨G1,h,.refl _⟩
 ·cases hk
theorem cC.me:∀{cs:List Ce} {k k1:Wk} {G1:Gh},cC M B d up ρ G a w k G1->k.dg cs=some k1->∃G2,cC M B d up ρ G a w k1 G2∧fJ G1 G2
 | [],k,k1,G1,h,hk=>by
  simp[Wk.dg]at hk
  subst hk
  exact⟨G1,h,.refl _⟩
 |c::cs,k,k1,G1,h,hk=>by
  cases c with
  |o id q=>
   simp only[Wk.dg,bQ]at hk
   obtain⟨k2,h1,h2⟩:=hk
   obtain⟨G2,g1,g2⟩:=h.Iq h1
   obtain⟨G3,f1,f2⟩:=cC.me g1 h2
   exact⟨G3,f1,g2.trans f2⟩
  |p x=>exact cC.me h (show k.dg cs=some k1 from hk)
  |n=>exact cC.me h (show k.dg cs=some k1 from hk)
  |d=>exact cC.me h (show k.dg cs=some k1 from hk)
def cm(G:Gh)(w:World)(ρ:List T):List SV->List Value->Prop
 | [],[]=>True
 |v::vs,c::cs=>bY G w ρ v c∧cm G w ρ vs cs
 |_,_=>False
theorem cm.aG{I:Lb->Prop}{G G':Gh}{w w':World}(k:cB I (λ_=>False) G w G' w'):∀{vs:List SV} {cs:List Value},cm G w ρ vs cs->cm G' w' ρ vs cs
 | [],[],_=>trivial
 |_::_,_::_,h=>⟨h.1.aG k λ_ _ hf=>hf,cm.aG k h.2⟩
 | [],_::_,h=>h.elim
 |_::_,[],h=>h.elim
def qk(G:Gh)(w:World)(ρ:List T)(pl:Bool):List PS->List Value->List Lf->List (Nat×Bool×Nat)->Prop
 | [],args,xs,bs=>args=[]∧xs=[]∧bs=[]
 | .v ag n::ps,args,xs,bs=>∃c dM vs x1 x2,args=c::dM∧xs=x1++x2∧x1.length=n∧(match ag with|true=>c=.agg vs.toArray|false=>vs=[c]∧∀x,c≠.agg x)∧dm (er G.ω) w (x1.map (Lf.ev ρ)) vs∧
   (pl=true->dm G.q w (x1.map (Lf.ev ρ)) vs)∧qk G w ρ pl ps dM x2 bs
 | .x n::ps,args,xs,bs=>∃c dM bx ag td aX elem x1 x2,args=c::dM∧bs=(bx,ag,n)::td∧c=.pointer (some ⟨G.β bx,0,none⟩)∧G.ω (G.β bx)=some (.x bx)∧w.heap[G.β bx]?=some (.cells aX elem (0,0))∧
   xs=x1++x2∧x1.length=n∧dm G.q w (x1.map (Lf.ev ρ)) aX.toList∧qk G w ρ pl ps dM x2 td
theorem Ci{pl:Bool}:∀{ps:List PS} {vs:List SV} {cs:List Value} {k k1:Wk} {xs:List Lf} {bs:List (Nat×Bool×Nat)} {G1:Gh},cC M B d up ρ G a w k G1->cm G1 w ρ vs cs->(pl=true->vr k (qY vs))->
  k.args vs ps=some (k1,xs,bs)->k1.aP S ρ->k.aP S ρ∧k1.ct.i=k.ct.i∧∃G2,cC M B d up ρ G a w k1 G2∧fJ G1 G2∧
   ∀G3,fJ G2 G3->qk G3 w ρ pl ps cs xs bs
 | [],[],cs,k,k1,xs,bs,G1,hk,hr,hf,h,hd=>by
  simp only[Wk.args,aJ,Prod.mk.injEq]at h
  obtain⟨rfl,rfl,rfl⟩:=h
  cases cs with
  |nil=>exact⟨hd,rfl,G1,hk,.refl _,λ_ _=>⟨rfl,rfl,rfl⟩⟩
  |cons _ _=>exact hr.elim
 | .v r8 n::ps,.v ag es::vs,cs,k,k1,xs,bs,G1,hk,hr,hf,h,hd=>by
  cases cs with
  |nil=>exact hr.elim
  |cons c cs=>
   simp only[Wk.args]at h
   cases hc:((ag==r8)&&Nat.beq es.length n)with
   |false=>simp[hc]at h
   |true=>
    simp only[hc,cond_true,bQ,aJ,Prod.mk.injEq]at h
    simp only[bB,beq_iff_eq]at hc
    obtain⟨rfl,hn⟩:=hc
    obtain⟨⟨k2,x1⟩,h1,⟨k3,x2,bs2⟩,h2,rfl,rfl,rfl⟩:=h
    have hs:=Wk.fj h1
    obtain⟨d2,i2,G2,w2,l2,f2⟩:=Ci (hk.same hs) hr.2 (λhp id j3=>by
     obtain⟨pv,x,hx⟩:=hf hp id (by simp only[qY];rw[BE];exact List.mem_append_right _ j3)
     exact⟨pv,x,by rw[hs.get];exact hx⟩) h2 hd
    have eo:=Wk.ju h1 d2
    refine⟨eo,i2.trans hs.i,G2,w2,l2,λG3 l3=>?_⟩
    have bH:=l2.trans l3
    have hlen:x1.length=n:=by
     have:=cK hn
     obtain⟨ql,mW⟩:∃ql:List Value,aF G1 w ρ es ql:=by
      have h0:=hr.1
      cases ag with
      |true=>obtain⟨ql,_,h0⟩:=h0;exact⟨ql,h0⟩
      |false=>obtain⟨e,rfl,h0,_⟩:=h0;exact⟨[c],h0,trivial⟩
     obtain⟨_,_,_,_,e4⟩:=Wk.fk h1 d2 mW hk
     rw[e4,<-mW.length,this]
    have key:∀ql:List Value,aF G1 w ρ es ql->dm (er G3.ω) w (x1.map (Lf.ev ρ)) ql∧(pl=true->dm G3.q w (x1.map (Lf.ev ρ)) ql):=by
     intro ql mW
     obtain⟨ts,e1,e2,e3,e4⟩:=Wk.fk h1 d2 mW hk
     rw[e1]
     refine⟨e2.aG (Nat.le_refl _) λb _ hb=>⟨bH.er hb,rfl⟩,λhp=>(e3 λid j3=>hf hp id ?_).aG (Nat.le_refl _) λb _ hb=>⟨bH.q hb,rfl⟩⟩
     simp only[qY,xr]
     rw[BE]
     exact List.mem_append_left _ j3
    have h0:=hr.1
    cases ag with
    |true=>
     obtain⟨ql,rfl,h0⟩:=h0
     obtain⟨q1,q2⟩:=key ql h0
     exact⟨_,cs,ql,x1,x2,rfl,rfl,hlen,rfl,q1,q2,f2 G3 l3⟩
    |false=>
     obtain⟨e,rfl,h0,h0'⟩:=h0
     obtain⟨q1,q2⟩:=key [c] ⟨h0,trivial⟩
     exact⟨c,cs,[c],x1,x2,rfl,rfl,hlen,⟨rfl,h0'⟩,q1,q2,f2 G3 l3⟩
 | .x n::ps,.pt bx 0::vs,cs,k,k1,xs,bs,G1,hk,hr,hf,h,hd=>by
  cases cs with
  |nil=>exact hr.elim
  |cons c cs=>
   simp only[Wk.args]at h
   split at h
   ·rename_i ag es qI
    cases hc:Nat.beq es.length n with
    |false=>simp[hc]at h
    |true=>
     simp only[hc,cond_true,bQ,aJ,Prod.mk.injEq]at h
     obtain⟨k2,h0,⟨k3,x1⟩,h1,⟨k4,x2,bs2⟩,h2,rfl,rfl,rfl⟩:=h
     obtain⟨Gt,wt,lt⟩:=hk.me h0
     obtain⟨_,_,_,_,t4,t5,tf,t7,_⟩:=hk.dg h0
     have hs:=Wk.fj h1
     obtain⟨d2,i2,G2,w2,l2,f2⟩:=Ci (wt.same hs) (hr.2.aG (lt.aG w)) (λhp id j3=>by
      obtain⟨pv,x,hx⟩:=hf hp id (by simp only[qY];rw[BE];exact List.mem_append_right _ j3)
      exact⟨pv,x,by rw[hs.get];exact t7 _ _ _ hx⟩) h2 hd
     have eo:=Wk.ju h1 d2
     have Ir:k.aP S ρ:=by unfold Wk.aP at eo⊢;rw[<-t4,<-t5];exact eo
     have nI:=hk.rel.bx bx
     rw[<-Wk.aE,qI]at nI
     obtain⟨b1,aX,elem,b2,b3⟩:=nI
     obtain⟨ts,e1,e2,e3,e4⟩:=Wk.fk h1 d2 (b3.aG (lt.aG w) λ_ _ hf=>hf) wt
     have hp:c=.pointer (some ⟨G1.β bx,0,none⟩):=hr.1
     refine⟨Ir,by rw[i2,hs.i,t4],G2,w2,lt.trans l2,λG3 l3=>?_⟩
     have mf:=(lt.trans l2).trans l3
     refine⟨c,cs,bx,ag,bs2,aX,elem,x1,x2,rfl,rfl,by rw[mf.β];exact hp,by rw[mf.β];exact mf.x b1 (λ_ _ e=>by cases e),by rw[mf.β];exact b2,rfl,?_,?_,f2 G3 l3⟩
     ·rw[e4,<-b3.length];exact cK hc
     ·rw[e1];exact(e3 tf).aG (Nat.le_refl _) λb _ hb=>⟨(l2.trans l3).q hb,rfl⟩
   ·cases h
 | [],_::_,cs,k,k1,xs,bs,G1,hk,hr,hf,h,hd=>by simp[Wk.args]at h
 |_::_,[],cs,k,k1,xs,bs,G1,hk,hr,hf,h,hd=>by simp[Wk.args]at h
 | .x _::_,.pt _ (_+1)::_,cs,k,k1,xs,bs,G1,hk,hr,hf,h,hd=>by simp[Wk.args]at h
 | .v _ _::_,.un::_,cs,k,k1,xs,bs,G1,hk,hr,hf,h,hd=>by simp[Wk.args]at h
 | .v _ _::_,.pt _ _::_,cs,k,k1,xs,bs,G1,hk,hr,hf,h,hd=>by simp[Wk.args]at h
 | .v _ _::_,.ep _ _ _ _ _::_,cs,k,k1,xs,bs,G1,hk,hr,hf,h,hd=>by simp[Wk.args]at h
 | .v _ _::_,.fp _ _ _ _::_,cs,k,k1,xs,bs,G1,hk,hr,hf,h,hd=>by simp[Wk.args]at h
 | .v _ _::_,.tp _::_,cs,k,k1,xs,bs,G1,hk,hr,hf,h,hd=>by simp[Wk.args]at h
 | .v _ _::_,.cl _ _::_,cs,k,k1,xs,bs,G1,hk,hr,hf,h,hd=>by simp[Wk.args]at h
 | .v _ _::_,.ob _ _::_,cs,k,k1,xs,bs,G1,hk,hr,hf,h,hd=>by simp[Wk.args]at h
 | .v _ _::_,.fz _ _::_,cs,k,k1,xs,bs,G1,hk,hr,hf,h,hd=>by simp[Wk.args]at h
 | .v _ _::_,.tk _ _::_,cs,k,k1,xs,bs,G1,hk,hr,hf,h,hd=>by simp[Wk.args]at h
 | .v _ _::_,.fl _::_,cs,k,k1,xs,bs,G1,hk,hr,hf,h,hd=>by simp[Wk.args]at h
 | .v _ _::_,.fr _::_,cs,k,k1,xs,bs,G1,hk,hr,hf,h,hd=>by simp[Wk.args]at h
 | .x _::_,.un::_,cs,k,k1,xs,bs,G1,hk,hr,hf,h,hd=>by simp[Wk.args]at h
 | .x _::_,.v _ _::_,cs,k,k1,xs,bs,G1,hk,hr,hf,h,hd=>by simp[Wk.args]at h
 | .x _::_,.ep _ _ _ _ _::_,cs,k,k1,xs,bs,G1,hk,hr,hf,h,hd=>by simp[Wk.args]at h
 | .x _::_,.fp _ _ _ _::_,cs,k,k1,xs,bs,G1,hk,hr,hf,h,hd=>by simp[Wk.args]at h
 | .x _::_,.tp _::_,cs,k,k1,xs,bs,G1,hk,hr,hf,h,hd=>by simp[Wk.args]at h
 | .x _::_,.cl _ _::_,cs,k,k1,xs,bs,G1,hk,hr,hf,h,hd=>by simp[Wk.args]at h
 | .x _::_,.ob _ _::_,cs,k,k1,xs,bs,G1,hk,hr,hf,h,hd=>by simp[Wk.args]at h
 | .x _::_,.fz _ _::_,cs,k,k1,xs,bs,G1,hk,hr,hf,h,hd=>by simp[Wk.args]at h
 | .x _::_,.tk _ _::_,cs,k,k1,xs,bs,G1,hk,hr,hf,h,hd=>by simp[Wk.args]at h
 | .x _::_,.fl _::_,cs,k,k1,xs,bs,G1,hk,hr,hf,h,hd=>by simp[Wk.args]at h
 | .x _::_,.fr _::_,cs,k,k1,xs,bs,G1,hk,hr,hf,h,hd=>by simp[Wk.args]at h
end
theorem yF{W:St}{r:aM}{u:SV}(h:W.look r=some u):(r,u)∈W:=by
 induction W with
 |nil=>cases h
 |cons x W ih=>
  obtain⟨r',v⟩:=x
  rcases gh h with⟨rfl,rfl⟩|h
  ·exact List.mem_cons_self
  ·exact List.mem_cons_of_mem _ (ih h)
def iU:Nat->List Ck->List (Option Nat)->lj
 |i,.o _::ks,x::is=>(lN i,x)::iU (lN i+1) ks is
 |i,_::ks,_::is=>iU i ks is
 |_,_,_=>[]
theorem Cl:∀{ks:List Ck} {is:List (Option Nat)} {i j:Nat} {x:Option Nat},(j,x)∈iU i ks is->i<=j∧x∈is
 | [],is,i,j,x,h=>by simp[iU]at h
 |_::_,[],i,j,x,h=>by simp[iU]at h
 | .o _::ks,y::is,i,j,x,h=>by
  simp only[iU,List.mem_cons,Prod.mk.injEq]at h
  have Is:=A5 i
  rcases h with⟨rfl,rfl⟩|h
  ·exact⟨Is,by simp⟩
  ·have:=Cl h;exact⟨by omega,by simp[this.2]⟩
 | .s::ks,y::is,i,j,x,h=>by have:=Cl (show(j,x)∈iU i ks is from h);exact⟨this.1,by simp[this.2]⟩
 | .p::ks,y::is,i,j,x,h=>by have:=Cl (show(j,x)∈iU i ks is from h);exact⟨this.1,by simp[this.2]⟩
theorem yG:∀{ks:List Ck} {is:List (Option Nat)} {i j:Nat} {x:Option Nat},(j,x)∈iU i ks is->lO (iU i ks is) j=some x
 | [],is,i,j,x,h=>by simp[iU]at h
 |_::_,[],i,j,x,h=>by simp[iU]at h
 | .o _::ks,y::is,i,j,x,h=>by
  simp only[iU,List.mem_cons,Prod.mk.injEq]at h
  rcases h with⟨rfl,rfl⟩|h
  ·simp[iU,lO]
  ·have h1:=(Cl h).1
   have:Nat.beq (lN i) j=false:=by
    cases hb:Nat.beq (lN i) j with
    |false=>rfl
    |true=>have:=cK hb;omega
   simp only[iU,lO,this,cond_false]
   exact yG h
 | .s::ks,y::is,i,j,x,h=>yG (ks:=ks) (is:=is) h
 | .p::ks,y::is,i,j,x,h=>yG (ks:=ks) (is:=is) h
theorem It:∀{ks:List Ck} {is:List (Option Nat)} {i j k:Nat},(is.filterMap id).Nodup->(j,some k)∈iU i ks is->lz (iU i ks is) k=some j
 | [],is,i,j,k,_,h=>by simp[iU]at h
 |_::_,[],i,j,k,_,h=>by simp[iU]at h
 | .o _::ks,none::is,i,j,k,hn,h=>by
  simp only[iU,List.mem_cons,Prod.mk.injEq]at h
  rcases h with⟨_,h⟩|h
  ·cases h
  ·simp only[iU,lz];exact It (by simpa using hn) h
 | .o _::ks,some y::is,i,j,k,hn,h=>by
  simp only[List.filterMap_cons_some (f:=id) (a:=some y) rfl,List.nodup_cons]at hn
  simp only[iU,List.mem_cons,Prod.mk.injEq]at h
  rcases h with⟨rfl,h⟩|h
  ·cases h;simp[iU,lz]
  ·have cP:Nat.beq y k=false:=by
    cases hb:Nat.beq y k with
    |false=>rfl
    |true=>
     have:=cK hb
     subst this
     exact absurd (show y∈is.filterMap id from List.mem_filterMap.2 ⟨some y,(Cl h).2,rfl⟩) hn.1
   simp only[iU,lz,cP,cond_false]
   exact It hn.2 h
 | .s::ks,y::is,i,j,k,hn,h=>by
  refine It (ks:=ks) (is:=is) ?_ h
  cases y with
  |none=>simpa using hn
  |some y=>simp only[List.filterMap_cons_some (f:=id) (a:=some y) rfl,List.nodup_cons]at hn;exact hn.2
 | .p::ks,y::is,i,j,k,hn,h=>by
  refine It (ks:=ks) (is:=is) ?_ h
  cases y with
  |none=>simpa using hn
  |some y=>simp only[List.filterMap_cons_some (f:=id) (a:=some y) rfl,List.nodup_cons]at hn;exact hn.2
theorem Fa:∀{rn:lj} {k j:Nat},lz rn k=some j->(j,some k)∈rn
 | [],k,j,h=>by simp[lz]at h
 |(i,none)::rn,k,j,h=>List.mem_cons_of_mem _ (Fa (show lz rn k=some j from h))
 |(i,some y)::rn,k,j,h=>by
  simp only[lz]at h
  cases hb:Nat.beq y k with
  |true=>simp[hb]at h;subst h;rw[cK hb];exact List.mem_cons_self
  |false=>simp[hb]at h;exact List.mem_cons_of_mem _ (Fa h)
theorem Fb:∀{rn:lj} {j:Nat} {x:Option Nat},lO rn j=some x->(j,x)∈rn
 | [],k,j,h=>by simp[lO]at h
 |(i,y)::rn,j,x,h=>by
  simp only[lO]at h
  cases hb:Nat.beq i j with
  |true=>simp[hb]at h;subst h;rw[cK hb];exact List.mem_cons_self
  |false=>simp[hb]at h;exact List.mem_cons_of_mem _ (Fb h)
def kP:Ck->Bool
 | .p| .o false=>true
 |_=>false
theorem dh.nJ{G G':Gh}{w:World}{id j:Nat}{t:T}(h:dh G w id false [] t)(eT:∀c,G.ω c=some (.o id [])->G'.ω c=some (.o j []))(hH:G'.H j []=G.H id [])
  (hn:∀b,G.q b=none->G'.q b=none):dh G' w j false [] t:=by
 cases h with
 |nil h=>exact .nil (by rw[hH];exact h)
 | @l _ _ xs b wd cap aX elem cv h1 h2 h3 h4 h5 h6 h7 h8 h9 kf pU=>
  exact .l (by rw[hH];exact h1) h2 (eT _ h3) h4 h5 h6 h7 h8 (λi j ys hy hd=>(h9 i j ys hy hd).aG (Nat.le_refl _) λb _ hb=>⟨hn b hb,rfl⟩) (λ_ _ _ _ hd=>by cases hd) λ_ _ _ _ hd=>by cases hd
section
variable {w':World} {ρ:List T} {G' G2:Gh}
theorem vM{rn:lj}(hH:∀j x,lO rn j=some x->G2.H j=match x with|some id=>G'.H id|none=>λ_=>.slice none 0 0)
  (eT:∀j id,lz rn id=some j->∀c r,G'.ω c=some (.o id r)->G2.ω c=some (.o j r)):
  ∀{ks:List Ck} {us:List Value} {ts:List T} {is:List (Option Nat)} {ct:Ct},bq G' w' ks us ts is->(∀j t,ts[j]?=some t->ρ[ct.a+j]?=some t)->
   (∀k∈ks,kP k=true->∀b,G'.q b=none->G2.q b=none)->(∀j x,(j,x)∈iU ct.i ks is->lO rn j=some x)->(∀j id,(j,some id)∈iU ct.i ks is->lz rn id=some j)->
   aF G2 w' ρ (ei ct ks).2.1 us∧(ei ct ks).1.a=ct.a+ts.length∧ct.i<=(ei ct ks).1.i∧(∀i∈cJ (ei ct ks).2.1,ct.i<=i∧i<(ei ct ks).1.i)∧
   (∀j x,(j,x)∈iU ct.i ks is->j<(ei ct ks).1.i)∧
   ∀r u,(r,u)∈(ei ct ks).2.2->∃j,r=.o j∧ct.i<=j∧j<(ei ct ks).1.i∧bZ G2 w' ρ j u∧cp u=[]
 | [],[],[],[],ct,_,_,_,_,_=>⟨trivial,rfl,Nat.le_refl _,λi hi=>by simp[ei,cJ]at hi,λj x h=>by simp[iU]at h,λr u h=>by simp[ei]at h⟩
 | .s::ks,u::us,t::ts,x::is,ct,h,lp,hp,h1,h2=>by
  obtain⟨rfl,hd,hs,h⟩:=h
  obtain⟨g1,g2,g3,g4,g5,g6⟩:=vM hH eT (ct:=⟨ct.a+1,ct.i⟩) h (λj t' hj=>by have:=lp (j+1) t' (by simpa using hj);rw[<-this];congr 1;show ct.a+1+j=_;omega) (λk hk=>hp k (by simp[hk])) h1 h2
  have h0:ρ[ct.a]?=some t:=lp 0 t rfl
  obtain⟨v,rfl⟩:=BA hs
  obtain⟨rfl,hv⟩:=hd.scalar
  refine⟨⟨⟨.c u,h0,.c hv⟩,g1⟩,?_,g3,?_,g5,g6⟩
  ·simp only[ei,List.length_cons];rw[g2];show ct.a+1+_=_;omega
  ·intro i hi;simp only[ei,cJ]at hi;exact g4 i hi
 | .p::ks,u::us,t::ts,x::is,ct,h,lp,hp,h1,h2=>by
  obtain⟨rfl,hd,h⟩:=h
  obtain⟨g1,g2,g3,g4,g5,g6⟩:=vM hH eT (ct:=⟨ct.a+1,ct.i⟩) h (λj t' hj=>by have:=lp (j+1) t' (by simpa using hj);rw[<-this];congr 1;show ct.a+1+j=_;omega) (λk hk=>hp k (by simp[hk])) h1 h2
  have h0:ρ[ct.a]?=some t:=lp 0 t rfl
  refine⟨⟨⟨t,h0,hd.aG (Nat.le_refl _) λb _ hb=>⟨hp .p (by simp) rfl b hb,rfl⟩⟩,g1⟩,?_,g3,?_,g5,g6⟩
  ·simp only[ei,List.length_cons];rw[g2];show ct.a+1+_=_;omega
  ·intro i hi;simp only[ei,cJ]at hi;exact g4 i hi
 | .o dp::ks,u::us,t::ts,none::is,ct,h,lp,hp,h1,h2=>by
  obtain⟨rfl,rfl,h⟩:=h
  obtain⟨g1,g2,g3,g4,g5,g6⟩:=vM hH eT (ct:=⟨ct.a+1,lN ct.i+1⟩) h (λj t' hj=>by have:=lp (j+1) t' (by simpa using hj);rw[<-this];congr 1;show ct.a+1+j=_;omega) (λk hk=>hp k (by simp[hk]))
   (λj x hj=>h1 j x (by simp[iU,hj])) (λj id hj=>h2 j id (by simp[iU,hj]))
  have h0:ρ[ct.a]?=some (.l []):=lp 0 _ rfl
  have hr:=hH (lN ct.i) none (h1 (lN ct.i) none (by simp[iU]))
  simp only at hr
  have g3':lN ct.i+1<=(ei ⟨ct.a+1,lN ct.i+1⟩ ks).1.i:=g3
  have Is:=A5 ct.i
  refine⟨⟨⟨[],rfl,by rw[hr]⟩,g1⟩,?_,by simp only[ei];omega,?_,?_,?_⟩
  ·simp only[ei,List.length_cons];rw[g2];show ct.a+1+_=_;omega
  ·intro i hi
   simp only[ei,cJ,List.mem_cons]at hi⊢
   rcases hi with rfl|hi
   ·omega
   ·have:=g4 i hi
    have h3:lN ct.i+1<=i:=this.1
    omega
  ·intro j x hj
   simp only[iU,List.mem_cons,Prod.mk.injEq]at hj
   simp only[ei]
   rcases hj with⟨rfl,_⟩|hj
   ·omega
   ·exact g5 j x hj
  ·intro r u' nZ
   simp only[ei,List.mem_cons,Prod.mk.injEq]at nZ⊢
   rcases nZ with⟨rfl,rfl⟩|nZ
   ·exact⟨lN ct.i,rfl,Is,by omega,⟨.l [],h0,.nil (by rw[hr])⟩,rfl⟩
   ·obtain⟨j,e1,e2,e3,e4,e5⟩:=g6 r u' nZ
    have e2':lN ct.i+1<=j:=e2
    exact⟨j,e1,by omega,e3,e4,e5⟩
 | .o dp::ks,u::us,t::ts,some id::is,ct,h,lp,hp,h1,h2=>by
  obtain⟨rfl,aT,h⟩:=h
  obtain⟨g1,g2,g3,g4,g5,g6⟩:=vM hH eT (ct:=⟨ct.a+1,lN ct.i+1⟩) h (λj t' hj=>by have:=lp (j+1) t' (by simpa using hj);rw[<-this];congr 1;show ct.a+1+j=_;omega) (λk hk=>hp k (by simp[hk]))
   (λj x hj=>h1 j x (by simp[iU,hj])) (λj id hj=>h2 j id (by simp[iU,hj]))
  have h0:ρ[ct.a]?=some t:=lp 0 _ rfl
  have hr:=hH (lN ct.i) (some id) (h1 (lN ct.i) (some id) (by simp[iU]))
  simp only at hr
  have ht:=eT (lN ct.i) id (h2 (lN ct.i) id (by simp[iU]))
  have g3':lN ct.i+1<=(ei ⟨ct.a+1,lN ct.i+1⟩ ks).1.i:=g3
  have Is:=A5 ct.i
  refine⟨⟨⟨[],rfl,by rw[hr]⟩,g1⟩,?_,by simp only[ei];omega,?_,?_,?_⟩
  ·simp only[ei,List.length_cons];rw[g2];show ct.a+1+_=_;omega
  ·intro i hi
   simp only[ei,cJ,List.mem_cons]at hi⊢
   rcases hi with rfl|hi
   ·omega
   ·have:=g4 i hi
    have h3:lN ct.i+1<=i:=this.1
    omega
  ·intro j x hj
   simp only[iU,List.mem_cons,Prod.mk.injEq]at hj
   simp only[ei]
   rcases hj with⟨rfl,_⟩|hj
   ·omega
   ·exact g5 j x hj
  ·intro r u' nZ
   simp only[ei,List.mem_cons,Prod.mk.injEq]at nZ⊢
   rcases nZ with⟨rfl,rfl⟩|nZ
   ·refine⟨lN ct.i,rfl,Is,by omega,⟨t,h0,?_⟩,rfl⟩
    cases dp with
    |true=>exact aT.move rfl (λc r hc=>⟨ht c r hc,rfl⟩) λr=>by rw[hr]
    |false=>exact aT.nJ (λc hc=>ht c [] hc) (by rw[hr]) (hp (.o false) (by simp) rfl)
   ·obtain⟨j,e1,e2,e3,e4,e5⟩:=g6 r u' nZ
    have e2':lN ct.i+1<=j:=e2
    exact⟨j,e1,by omega,e3,e4,e5⟩
 | [],_::_,_,_,ct,h,_,_,_,_=>by simp[bq]at h
 | [],[],_::_,_,ct,h,_,_,_,_=>by simp[bq]at h
 | [],[],[],_::_,ct,h,_,_,_,_=>by simp[bq]at h
 |k::_,[],_,_,ct,h,_,_,_,_=>by cases k<;>simp[bq]at h
 |k::_,_::_,[],_,ct,h,_,_,_,_=>by cases k<;>simp[bq]at h
 |k::_,_::_,_::_,[],ct,h,_,_,_,_=>by cases k<;>simp[bq]at h
theorem Fc:∀(k1 k2:List Ck) (ct:Ct),ei ct (k1++k2)=((ei (ei ct k1).1 k2).1,(ei ct k1).2.1++(ei (ei ct k1).1 k2).2.1,(ei ct k1).2.2++(ei (ei ct k1).1 k2).2.2)
 | [],k2,ct=>by simp[ei]
 | .o dp::k1,k2,ct=>by simp[ei,Fc k1 k2]
 | .s::k1,k2,ct=>by simp[ei,Fc k1 k2]
 | .p::k1,k2,ct=>by simp[ei,Fc k1 k2]
def kC:List (Bool×List Ck)->List Ck
 | []=>[]
 |r::rs=>r.2++kC rs
theorem Iu:∀(rs:List (Bool×List Ck)) (ct:Ct),(lW ct rs).1=(ei ct (kC rs)).1∧(lW ct rs).2.2=(ei ct (kC rs)).2.2
 | [],ct=>⟨rfl,rfl⟩
 |r::rs,ct=>by
  obtain⟨h1,h2⟩:=Iu rs (ei ct r.2).1
  simp only[lW,kC,Fc]
  exact⟨h1,by rw[h2]⟩
theorem aF.split{G:Gh}{w:World}:∀{c1 c2:List Ce} {v1 v2:List Value},c1.length=v1.length->aF G w ρ (c1++c2) (v1++v2)->aF G w ρ c1 v1∧aF G w ρ c2 v2
 | [],_,[],_,_,h=>⟨trivial,h⟩
 | [],_,_::_,_,h,_=>by simp at h
 |_::_,_,[],_,h,_=>by simp at h
 |c::c1,_,v::v1,_,h,hr=>by
  obtain⟨h1,h2⟩:=aF.split (by simpa using h) hr.2
  exact⟨⟨hr.1,h1⟩,h2⟩
theorem Iv:∀(ks:List Ck) (ct:Ct),(ei ct ks).2.1.length=ks.length
 | [],ct=>rfl
 | .o dp::ks,ct=>by simp[ei,Iv ks]
 | .s::ks,ct=>by simp[ei,Iv ks]
 | .p::ks,ct=>by simp[ei,Iv ks]
theorem bq.len:∀{ks:List Ck} {us:List Value} {ts:List T} {is:List (Option Nat)},bq G' w' ks us ts is->us.length=ks.length∧ts.length=ks.length∧is.length=ks.length
 | [],[],[],[],_=>⟨rfl,rfl,rfl⟩
 | .s::ks,_::us,_::ts,x::is,h=>by have:=bq.len h.2.2.2;simp[this]
 | .p::ks,_::us,_::ts,x::is,h=>by have:=bq.len h.2.2;simp[this]
 | .o _::ks,_::us,_::ts,none::is,h=>by have:=bq.len h.2.2;simp[this]
 | .o _::ks,_::us,_::ts,some _::is,h=>by have:=bq.len h.2.2;simp[this]
 | [],_::_,_,_,h=>by simp[bq]at h
 | [],[],_::_,_,h=>by simp[bq]at h
 | [],[],[],_::_,h=>by simp[bq]at h
 |k::_,[],_,_,h=>by cases k<;>simp[bq]at h
 |k::_,_::_,[],_,h=>by cases k<;>simp[bq]at h
 |k::_,_::_,_::_,[],h=>by cases k<;>simp[bq]at h
theorem bq.append:∀{k1:List Ck} {u1:List Value} {t1:List T} {i1:List (Option Nat)} {k2:List Ck} {u2:List Value} {t2:List T} {i2:List (Option Nat)},bq G' w' k1 u1 t1 i1->bq G' w' k2 u2 t2 i2->
  bq G' w' (k1++k2) (u1++u2) (t1++t2) (i1++i2)
 | [],[],[],[],_,_,_,_,_,h=>h
 | .s::ks,_::us,_::ts,x::is,_,_,_,_,h,h'=>⟨h.1,h.2.1,h.2.2.1,bq.append h.2.2.2 h'⟩
 | .p::ks,_::us,_::ts,x::is,_,_,_,_,h,h'=>⟨h.1,h.2.1,bq.append h.2.2 h'⟩
 | .o _::ks,_::us,_::ts,none::is,_,_,_,_,h,h'=>⟨h.1,h.2.1,bq.append h.2.2 h'⟩
 | .o _::ks,_::us,_::ts,some _::is,_,_,_,_,h,h'=>⟨h.1,h.2.1,bq.append h.2.2 h'⟩
 | [],_::_,_,_,_,_,_,_,h,_=>by simp[bq]at h
 | [],[],_::_,_,_,_,_,_,h,_=>by simp[bq]at h
 | [],[],[],_::_,_,_,_,_,h,_=>by simp[bq]at h
 |k::_,[],_,_,_,_,_,_,h,_=>by cases k<;>simp[bq]at h
 |k::_,_::_,[],_,_,_,_,_,h,_=>by cases k<;>simp[bq]at h
 |k::_,_::_,_::_,[],_,_,_,_,h,_=>by cases k<;>simp[bq]at h
theorem Iw:∀{rs:List (Bool×List Ck)} {vs:List Value} {ts:List T} {is:List (Option Nat)},gi G' w' rs vs ts is->
  ∃us:List Value,bq G' w' (kC rs) us ts is∧∀(G2:Gh) (w2:World) (ct:Ct),aF G2 w2 ρ (ei ct (kC rs)).2.1 us->eL G2 w2 ρ (lW ct rs).2.1 vs
 | [],[],[],[],_=>⟨[],trivial,λ_ _ _ _=>trivial⟩
 |r::rs,v::vs,ts,is,h=>by
  obtain⟨t1,t2,i1,i2,rfl,rfl,h1,h2⟩:=h
  obtain⟨us,g1,g2⟩:=Iw h2
  obtain⟨ag,ks⟩:=r
  have key:∀u1:List Value,bq G' w' ks u1 t1 i1->(∀(G2:Gh) (w2:World) (cs:List Ce),aF G2 w2 ρ cs u1->cs.length=ks.length->dU G2 w2 ρ ag cs v)->
    ∃us:List Value,bq G' w' (kC ((ag,ks)::rs)) us (t1++t2) (i1++i2)∧∀(G2:Gh) (w2:World) (ct:Ct),aF G2 w2 ρ (ei ct (kC ((ag,ks)::rs))).2.1 us->eL G2 w2 ρ (lW ct ((ag,ks)::rs)).2.1 (v::vs):=by
   intro u1 hu hv
   refine⟨u1++us,hu.append g1,λG2 w2 ct hr=>?_⟩
   simp only[kC,Fc]at hr
   obtain⟨r1,r2⟩:=aF.split (by rw[Iv,(bq.len hu).1]) hr
   exact⟨hv G2 w2 _ r1 (Iv _ _),g2 G2 w2 _ r2⟩
  cases ag with
  |true=>
   obtain⟨u1,rfl,hu⟩:=h1
   exact key u1 hu λG2 w2 cs hr _=>⟨u1,rfl,hr⟩
  |false=>
   obtain⟨hu,ye⟩:=h1
   refine key [v] hu λG2 w2 cs hr hl=>?_
   have:=(bq.len hu).1
   rw[<-this]at hl
   match cs,hl with
   | [c],_=>exact⟨c,rfl,hr.1,ye⟩
 | [],[],_::_,_,h=>h.elim
 | [],[],[],_::_,h=>h.elim
 | [],_::_,_,_,h=>h.elim
 |_::_,[],_,_,h=>h.elim
def fq:Nat->List PS->List (Nat×Bool×Nat)->List (Nat×Nat)
 |i,.v _ _::ps,bs=>fq (i+1) ps bs
 |i,.x _::ps,b::bs=>(i,b.1)::fq (i+1) ps bs
 |_,_,_=>[]
def Aw:List (Nat×Bool×Nat)->Nat
 | []=>0
 |b::bs=>b.2.2+Aw bs
theorem Ix:∀(bs:List (Nat×Bool×Nat)) (a:Nat),(pR a bs).1=a+Aw bs
 | [],a=>rfl
 |b::bs,a=>by obtain⟨bx,ag,n⟩:=b;simp only[pR,Aw,Ix bs];omega
theorem NI{w:World}{G:Gh}:∀{n a:Nat} {ts:List T} {vs:List Value},ts.length=n->dm G.q w ts vs->(∀j t,ts[j]?=some t->ρ[a+j]?=some t)->aF G w ρ (wS a n) vs∧cJ (wS a n)=[]
 |0,a,[],[],_,_,_=>⟨trivial,rfl⟩
 |0,a,[],_::_,_,h,_=>h.elim
 |0,a,_::_,_,h,_,_=>by simp at h
 |n+1,a,[],_,h,_,_=>by simp at h
 |n+1,a,_::_,[],_,h,_=>h.elim
 |n+1,a,t::ts,v::vs,hl,h,lp=>by
  obtain⟨g1,g2⟩:=NI (a:=a+1) (by simpa using hl) h.2 (λj t' hj=>by have:=lp (j+1) t' (by simpa using hj);rw[<-this];congr 1;omega)
  exact⟨⟨⟨t,lp 0 t rfl,h.1⟩,g1⟩,by simp[wS,cJ,g2]⟩
theorem Cm{bl:Nat->Option Nat}(hn:∀b,G'.q b=none->G2.q b=none){G1:Gh}{w:World}{pl:Bool}:
  ∀{ps:List PS} {args:List Value} {xs:List Lf} {bs:List (Nat×Bool×Nat)} {i a:Nat} {ts:List T},qk G1 w ρ pl ps args xs bs->fI G' w' bl i ps ts->(∀j t,ts[j]?=some t->ρ[a+j]?=some t)->
   (∀j bx,(j,bx)∈fq i ps bs->bl j=some (G2.β bx)∧G2.ω (G2.β bx)=some (.x bx))->
   ts.length=Aw bs∧∀r u,(r,u)∈(pR a bs).2->∃j bx,(j,bx)∈fq i ps bs∧r=.x bx∧eC G2 w' ρ bx u∧cp u=[]
 | [],args,xs,bs,i,a,ts,hA,hB,lp,hp=>by
  obtain⟨_,_,rfl⟩:=hA
  cases hB
  exact⟨rfl,λr u h=>by simp[pR]at h⟩
 | .v ag n::ps,args,xs,bs,i,a,ts,hA,hB,lp,hp=>by
  obtain⟨c,dM,vs,x1,x2,_,_,_,_,_,_,hA⟩:=hA
  exact Cm (ps:=ps) (i:=i+1) hn hA hB lp hp
 | .x n::ps,args,xs,bs,i,a,ts,hA,hB,lp,hp=>by
  obtain⟨c,dM,bx,ag,td,RB,Iy,x1,x2,_,rfl,_,_,_,_,_,_,hA⟩:=hA
  obtain⟨b,aX,elem,t1,t2,hb,eT,hh,rfl,hl,hd,hB⟩:=hB
  obtain⟨q1,q2⟩:=hp i bx (by simp[fq])
  rw[hb]at q1
  cases q1
  obtain⟨g1,g2⟩:=Cm hn (a:=a+n) hA hB (λj t hj=>by
   have:=lp (n+j) t (by rw[List.getElem?_append_right (by omega)];rw[hl];simpa using hj)
   rw[<-this];congr 1;omega) (λj bx hj=>hp j bx (by simp[fq,hj]))
  obtain⟨g3,g4⟩:=NI (a:=a) (G:=G2) (w:=w') hl (hd.aG (Nat.le_refl _) λb _ hb=>⟨hn b hb,rfl⟩) (λj t hj=>lp j t (by rw[List.getElem?_append_left (List.getElem?_eq_some_iff.1 hj).1];exact hj))
  refine⟨by simp[Aw,hl,g1],λr u nZ=>?_⟩
  simp only[pR,List.mem_cons,Prod.mk.injEq]at nZ
  rcases nZ with⟨rfl,rfl⟩|nZ
  ·exact⟨i,bx,by simp[fq],rfl,⟨q2,aX,elem,hh,g3⟩,g4⟩
  ·obtain⟨j,sq,e1,e2⟩:=g2 r u nZ
   exact⟨j,sq,by simp[fq,e1],e2⟩
end
def lG(P:Program)(g:FuncId):Prop:=∃fn,P.funcs[g]?=some fn∧(fn.name== "runtime.NumGoroutine")=false∧fn.body.isNone=false
theorem Iz{P:Program}{w:World}{g:FuncId}(h:lG P g)(args:Array Value):(callFunc g args).run P w=.ok (.enter g args) w:=by
 obtain⟨fn,h1,h2,h3⟩:=h
 simp only[callFunc,Sem.run_bind,run_program,Result.andThen_ok,h1,h2,h3,cA,if_false,Sem.run_pure]
section
variable {M:Nat->Prop} {B:dt} {d:Nat} {up:Nat->Nat->Value} {ρ:List T} {G:Gh} {a:Act} {w:World} {S:Nat->ay} {P:Program}
variable {cx:Cx} {bW dR oi:Nat} {s:St} {R:List aM} {ct:Ct} {k':Wk} {o:Oper} {Q:Exit->Act->World->Prop}
theorem Cn:∀{l:List Nat},A7 l=true->l.Nodup
 | [],_=>List.nodup_nil
 |x::xs,h=>by
  simp only[A7,bB,Bool.not_eq_true']at h
  refine List.nodup_cons.2 ⟨λhm=>?_,Cn h.2⟩
  have:=h.1
  rw[List.any_eq_false]at this
  exact this x hm (by simp)
theorem IA:∀{ps:List PS} {bs:List (Nat×Bool×Nat)} {i j bx:Nat},(j,bx)∈fq i ps bs->i<=j∧j<i+ps.length
 | [],bs,i,j,bx,h=>by simp[fq]at h
 | .v _ _::ps,bs,i,j,bx,h=>by have:=IA (show(j,bx)∈fq (i+1) ps bs from h);simp only[List.length_cons];omega
 | .x _::ps,[],i,j,bx,h=>by simp[fq]at h
 | .x _::ps,b::bs,i,j,bx,h=>by
  simp only[fq,List.mem_cons,Prod.mk.injEq]at h
  simp only[List.length_cons]
  rcases h with⟨rfl,_⟩|h
  ·omega
  ·have:=IA h;omega
theorem IB:∀{ps:List PS} {bs:List (Nat×Bool×Nat)} {i j bx:Nat},(j,bx)∈fq i ps bs->bx∈bs.map (·.1)
 | [],bs,i,j,bx,h=>by simp[fq]at h
 | .v _ _::ps,bs,i,j,bx,h=>IB (show(j,bx)∈fq (i+1) ps bs from h)
 | .x _::ps,[],i,j,bx,h=>by simp[fq]at h
 | .x _::ps,b::bs,i,j,bx,h=>by
  simp only[fq,List.mem_cons,Prod.mk.injEq]at h
  rcases h with⟨_,rfl⟩|h
  ·simp
  ·have:=IB h;simp only[List.map_cons,List.mem_cons];exact .inr this
theorem Co:∀{ps:List PS} {bs:List (Nat×Bool×Nat)} {i:Nat},(bs.map (·.1)).Nodup->
  (∀j bx sq,(j,bx)∈fq i ps bs->(j,sq)∈fq i ps bs->bx=sq)∧(∀j j' bx,(j,bx)∈fq i ps bs->(j',bx)∈fq i ps bs->j=j')
 | [],bs,i,_=>⟨λ_ _ _ h=>by simp[fq]at h,λ_ _ _ h=>by simp[fq]at h⟩
 | .v _ _::ps,bs,i,hn=>Co (ps:=ps) (i:=i+1) hn
 | .x _::ps,[],i,_=>⟨λ_ _ _ h=>by simp[fq]at h,λ_ _ _ h=>by simp[fq]at h⟩
 | .x _::ps,b::bs,i,hn=>by
  simp only[List.map_cons,List.nodup_cons]at hn
  obtain⟨g1,g2⟩:=Co (ps:=ps) (i:=i+1) hn.2
  constructor
  ·intro j bx sq h h'
   simp only[fq,List.mem_cons,Prod.mk.injEq]at h h'
   rcases h with⟨rfl,rfl⟩|h<;>rcases h' with⟨h1,rfl⟩|h'
   ·rfl
   ·have:=IA h';omega
   ·have:=IA h;omega
   ·exact g1 j bx sq h h'
  ·intro j j' bx h h'
   simp only[fq,List.mem_cons,Prod.mk.injEq]at h h'
   rcases h with⟨rfl,rfl⟩|h<;>rcases h' with⟨h1,h2⟩|h'
   ·exact h1.symm
   ·exact absurd (IB h') hn.1
   ·subst h2;exact absurd (IB h) hn.1
   ·exact g2 j j' bx h h'
def qm(β:Nat->Nat)(pr:List (Nat×Nat))(j:Nat):Option Nat:=(pr.find? λp=>p.1==j).map λp=>β p.2
def tF(pr:List (Nat×Nat))(bx:Nat):Option Nat:=(pr.find? λp=>p.2==bx).map (·.1)
theorem IC{β:Nat->Nat}{pr:List (Nat×Nat)}{j b:Nat}(h:qm β pr j=some b):∃bx,(j,bx)∈pr∧b=β bx:=by
 unfold qm at h
 cases hf:pr.find? (λp=>p.1==j)with
 |none=>simp[hf]at h
 |some p=>
  simp[hf]at h
  have h1:=List.mem_of_find?_eq_some hf
  have h2:=List.find?_some hf
  simp at h2
  exact⟨p.2,by rw[<-h2];exact h1,h.symm⟩
theorem RC{β:Nat->Nat}{pr:List (Nat×Nat)}{j bx:Nat}(hi:∀j bx sq,(j,bx)∈pr->(j,sq)∈pr->bx=sq)(h:(j,bx)∈pr):qm β pr j=some (β bx):=by
 cases hf:qm β pr j with
 |none=>
  unfold qm at hf
  simp only[Option.map_eq_none_iff,List.find?_eq_none]at hf
  exact absurd (by simp) (hf _ h)
 |some b=>
  obtain⟨sq,h1,rfl⟩:=IC hf
  rw[hi j bx sq h h1]
theorem ID{pr:List (Nat×Nat)}{bx j:Nat}(h:tF pr bx=some j):(j,bx)∈pr:=by
 unfold tF at h
 cases hf:pr.find? (λp=>p.2==bx)with
 |none=>simp[hf]at h
 |some p=>
  simp[hf]at h
  have h1:=List.mem_of_find?_eq_some hf
  have h2:=List.find?_some hf
  simp at h2
  rw[<-h,<-h2];exact h1
theorem RD{pr:List (Nat×Nat)}{j bx:Nat}(hi:∀j j' bx,(j,bx)∈pr->(j',bx)∈pr->j=j')(h:(j,bx)∈pr):tF pr bx=some j:=by
 cases hf:tF pr bx with
 |none=>
  unfold tF at hf
  simp only[Option.map_eq_none_iff,List.find?_eq_none]at hf
  exact absurd (by simp) (hf _ h)
 |some j'=>rw[hi j j' bx h (ID hf)]
theorem qx{G:Gh}{b bx:Nat}(h:G.ω b=some (.x bx)):G.q b=some (.x bx):=ve h rfl
def pM(pl:Bool)(G:Gh)(pr:List (Nat×Nat))(b:Nat):Option Lb:=
 match G.q b with
 |none=>none
 |some .f=>some .f
 |some (.o _ _)=>if pl then some .f else none
 |some (.x bx)=>if b=G.β bx then(match tF pr bx with|some j=>some (.x j)|none=>some .f)else some .f
theorem RE{pl:Bool}{pr:List (Nat×Nat)}{b:Nat}(h:(if pl then G.q b else er G.ω b)=none):pM pl G pr b=none:=by
 unfold pM
 cases hg:G.q b with
 |none=>rfl
 |some l=>
  cases pl with
  |true=>simp[hg]at h
  |false=>
   have Hf:=Bp hg
   cases l<;>simp[er,Hf]at h⊢
theorem Cp{pl:Bool}{RF:Nat->Option Lb}{bl:Nat->Option Nat}(eT:∀b,(if pl then G.q b else er G.ω b)=none->RF b=none):
  ∀{ps:List PS} {args:List Value} {xs:List Lf} {bs:List (Nat×Bool×Nat)} {i:Nat},qk G w ρ pl ps args xs bs->(∀j bx,(j,bx)∈fq i ps bs->bl j=some (G.β bx)∧RF (G.β bx)=some (.x j))->
   tE RF w bl i ps args (xs.map (Lf.ev ρ))∧∀j bx,(j,bx)∈fq i ps bs->G.ω (G.β bx)=some (.x bx)
 | [],args,xs,bs,i,h,_=>by
  obtain⟨rfl,rfl,rfl⟩:=h
  exact⟨⟨rfl,rfl⟩,λj bx h=>by simp[fq]at h⟩
 | .v ag n::ps,args,xs,bs,i,h,hp=>by
  obtain⟨c,dM,vs,x1,x2,rfl,rfl,hl,lQ,eo,oq,h⟩:=h
  obtain⟨g1,g2⟩:=Cp eT h (i:=i+1) hp
  refine⟨⟨c,dM,vs,_,_,rfl,List.map_append,by rw[List.length_map];exact hl,lQ,?_,g1⟩,g2⟩
  cases pl with
  |true=>exact(oq rfl).aG (Nat.le_refl _) λb _ hb=>⟨eT b (by simpa using hb),rfl⟩
  |false=>exact eo.aG (Nat.le_refl _) λb _ hb=>⟨eT b (by simpa using hb),rfl⟩
 | .x n::ps,args,xs,bs,i,h,hp=>by
  obtain⟨c,dM,bx,ag,td,aX,elem,x1,x2,rfl,rfl,hc,hb,hh,rfl,hl,hd,h⟩:=h
  obtain⟨g1,g2⟩:=Cp eT h (i:=i+1) λj bx hj=>hp j bx (by simp[fq,hj])
  obtain⟨q1,q2⟩:=hp i bx (by simp[fq])
  refine⟨⟨c,dM,G.β bx,aX,elem,_,_,rfl,hc,q1,q2,hh,List.map_append,by rw[List.length_map];exact hl,?_,g1⟩,λj sq hj=>?_⟩
  ·refine hd.aG (Nat.le_refl _) λb _ jU=>⟨eT b ?_,rfl⟩
   cases pl with
   |true=>simpa using jU
   |false=>simpa using GY jU
  ·simp only[fq,List.mem_cons,Prod.mk.injEq]at hj
   rcases hj with⟨_,rfl⟩|hj
   ·exact hb
   ·exact g2 j sq hj
theorem Cq{pl:Bool}:∀{ps:List PS} {args:List Value} {xs:List Lf} {bs:List (Nat×Bool×Nat)} {i:Nat},qk G w ρ pl ps args xs bs->∀j bx,(j,bx)∈fq i ps bs->G.ω (G.β bx)=some (.x bx)
 | [],args,xs,bs,i,h,j,bx,hj=>by simp[fq]at hj
 | .v ag n::ps,args,xs,bs,i,h,j,bx,hj=>by
  obtain⟨c,dM,vs,x1,x2,rfl,rfl,hl,lQ,eo,oq,h⟩:=h
  exact Cq (ps:=ps) (i:=i+1) h j bx hj
 | .x n::ps,args,xs,bs,i,h,j,bx,hj=>by
  obtain⟨c,dM,sq,ag,td,aX,elem,x1,x2,rfl,rfl,hc,hb,hh,rfl,hl,hd,h⟩:=h
  simp only[fq,List.mem_cons,Prod.mk.injEq]at hj
  rcases hj with⟨_,rfl⟩|hj
  ·exact hb
  ·exact Cq (ps:=ps) (i:=i+1) h j bx hj
def Gh.call(G G':Gh)(sz:Nat)(rn:lj):Gh where
 ω:=λb=>if b<sz then G.ω b else match G'.ω b with
  |some (.o id p)=>(lz rn id).map λj=>.o j p
  |_=>none
 β:=G.β
 H:=λj=>match lO rn j with
  |some (some id)=>G'.H id
  |some none=>λ_=>.slice none 0 0
  |none=>G.H j
 hs:=λj p=>by
  rcases hr:lO rn j with _|(_|id)
  ·exact G.hs j p
  ·exact⟨_,_,_,rfl⟩
  ·exact G'.hs _ p
theorem IE{sg:lV}(h:nr sg=false):(∀k∈kC sg.rs,kP k=false)∧∀p∈sg.ps,∀n,p≠.x n:=by
 simp only[nr,Bool.or_eq_false_iff]at h
 obtain⟨h1,h2⟩:=h
 constructor
 ·generalize sg.rs=rs at h1
  induction rs with
  |nil=>intro k hk;simp[kC]at hk
  |cons r rs ih=>
   simp only[List.any_cons,Bool.or_eq_false_iff]at h1
   intro k hk
   simp only[kC,List.mem_append]at hk
   rcases hk with hk|hk
   ·have:=List.any_eq_false.1 h1.1 k hk
    cases k with
    |s=>rfl
    |p=>simp at this
    |o dp=>cases dp<;>simp at this⊢;rfl
   ·exact ih h1.2 k hk
 ·intro p hp n he
  subst he
  have:=List.any_eq_false.1 h2 _ hp
  simp at this
theorem IF{pl:Bool}:∀{ps:List PS} {args:List Value} {xs:List Lf} {bs:List (Nat×Bool×Nat)},(∀p∈ps,∀n,p≠.x n)->qk G w ρ pl ps args xs bs->bs=[]
 | [],_,_,_,_,h=>h.2.2
 | .v _ _::ps,args,xs,bs,hp,h=>by
  obtain⟨c,dM,vs,x1,x2,_,_,_,_,_,_,h⟩:=h
  exact IF (λp yH=>hp p (by simp[yH])) h
 | .x n::ps,args,xs,bs,hp,h=>absurd rfl (hp (.x n) (by simp) n)
theorem Cr{pl:Bool}{G':Gh}{w':World}{bl:Nat->Option Nat}:∀{ps:List PS} {args:List Value} {xs:List Lf} {bs:List (Nat×Bool×Nat)} {i:Nat} {ts:List T},qk G w ρ pl ps args xs bs->fI G' w' bl i ps ts->ts.length=Aw bs
 | [],args,xs,bs,i,ts,hA,hB=>by
  obtain⟨_,_,rfl⟩:=hA
  cases hB
  rfl
 | .v _ _::ps,args,xs,bs,i,ts,hA,hB=>by
  obtain⟨c,dM,vs,x1,x2,_,_,_,_,_,_,hA⟩:=hA
  exact Cr (ps:=ps) (i:=i+1) hA hB
 | .x n::ps,args,xs,bs,i,ts,hA,hB=>by
  obtain⟨c,dM,bx,ag,td,RB,Iy,x1,x2,_,rfl,_,_,_,_,_,_,hA⟩:=hA
  obtain⟨b,aX,elem,t1,t2,hb,eT,hh,rfl,hl,hd,hB⟩:=hB
  have:=Cr hA hB
  simp[Aw,hl,this]
theorem yI:∀(ks:List Ck) (ct:Ct),(ei ct ks).1.a=ct.a+ks.length
 | [],ct=>rfl
 | .o dp::ks,ct=>by simp only[ei,yI ks,List.length_cons];omega
 | .s::ks,ct=>by simp only[ei,yI ks,List.length_cons];omega
 | .p::ks,ct=>by simp only[ei,yI ks,List.length_cons];omega
theorem IG:∀{bs:List (Nat×Bool×Nat)} {a bx:Nat},bx∈bs.map (·.1)->(pR a bs).2.look (.x bx)≠none
 | [],a,bx,h=>by simp at h
 |b::bs,a,bx,h=>by
  obtain⟨b0,ag,n⟩:=b
  simp only[pR,St.look]
  cases hb:(aM.x b0).beq (.x bx)with
  |true=>simp
  |false=>
   simp only[List.map_cons,List.mem_cons]at h
   rcases h with rfl|h
   ·simp[aM.beq]at hb
   ·exact IG h
theorem RG{G':Gh}{w':World}{rs:List (Bool×List Ck)}{v:Value}{ts:List T}{is:List (Option Nat)}(h:Ch G' w' rs v ts is):∃vs:List Value,gi G' w' rs vs ts is∧
  ∀(G2:Gh) (w2:World) (ct:Ct),eL G2 w2 ρ (lW ct rs).2.1 vs->bY G2 w2 ρ (z6 (lW ct rs).2.1) v:=by
 match rs,h with
 | [],h=>obtain⟨rfl,rfl⟩:=h;exact⟨[],trivial,λ_ _ _ _=>trivial⟩
 | [r],h=>exact⟨[v],h,λG2 w2 ct hr=>hr.1⟩
 |r::r'::rs,h=>
  obtain⟨vs,hv,h'⟩:=h
  exact⟨vs,h',λG2 w2 ct hr=>⟨vs,hv,hr⟩⟩
theorem IH:∀(rs:List (Bool×List Ck)) (ct:Ct),oK (lW ct rs).2.1=cJ (ei ct (kC rs)).2.1
 | [],ct=>rfl
 |r::rs,ct=>by
  simp only[lW,kC,Fc,oK,BE]
  rw[IH rs]
theorem RH(vs:List (Bool×List Ce)):∀i∈cp (z6 vs),i∈oK vs:=by
 intro i hi
 match vs,hi with
 | [],hi=>simp[z6,cp]at hi
 | [v],hi=>simpa[z6,cp,oK]using hi
 |v::v'::vs,hi=>exact hi
theorem RI(h:Rel M B d up s ρ G a w)(hn:∀n,o.dst=some n->n<a.tmps.size){c:Call}{g:Nat}(ho:o.op=.call c)(hc:c.callee=.value (.func g))(hg:lG P g)
  {sg:lV}(NJ:cx.sg g=some sg)(hC:yE P sg g (S g))(hk:gb cx bW dR d o oi ⟨s.only R,[],ct,[]⟩=some k')(hd:k'.aP S ρ)(hM:∀i,ct.i<=i->i<k'.ct.i->¬M i):
  a_ P (Mn M ct.i k'.ct.i) B d up ρ a w s o k'.w Q:=by
 have hw:=cC.start h R ct
 simp only[gb,ho,hc,NJ,Option.bind_some]at hk
 unfold GL at hk
 simp only[bQ]at hk
 obtain⟨k1,n_,⟨k2,xs,bs⟩,dv,hk⟩:=hk
 cases xf:A7 (bs.map (·.1))with
 |false=>simp[xf]at hk
 |true=>
  simp only[xf,cond_true,aJ]at hk
  have RJ:=Cn xf
  have tG:∀G1,fJ G G1->cm G1 w ρ (c.args.toList.map λx=>bz d (Wk.get ⟨s.only R,[],ct,[]⟩) x) (c.args.toList.map a.eval):=by
   intro G1 hl
   generalize c.args.toList=l
   induction l with
   |nil=>trivial
   |cons x l ih=>exact⟨(hw.fH x).1.aG (hl.aG w) λ_ _ hf=>hf,ih⟩
  obtain⟨pl,pX⟩:∃pl,pl=nr sg:=⟨_,rfl⟩
  obtain⟨G1,w1,l1,i1,pI,hD1⟩:∃G1,cC M B d up ρ G a w k1 G1∧fJ G G1∧k1.ct=ct∧(pl=true->vr k1 (qY (c.args.toList.map λx=>bz d (Wk.get ⟨s.only R,[],ct,[]⟩) x)))∧k1.is=[]:=by
   cases hp:nr sg with
   |false=>
    rw[hp]at n_
    simp only[cond_false,aJ]at n_
    subst n_
    exact⟨G,hw,.refl _,rfl,(λhe=>by rw[pX,hp]at he;cases he),rfl⟩
   |true=>
    rw[hp]at n_
    simp only[cond_true]at n_
    obtain⟨G1,q1,q2⟩:=hw.me n_
    obtain⟨_,_,_,_,q3,q4,q5,_⟩:=hw.dg n_
    exact⟨G1,q1,q2,q3,λ_=>q5,q4⟩
  have Ir:aP S ρ k'.ct.a k'.is:=hd
  rw[<-hk]at Ir
  simp only at Ir
  obtain⟨n0,outs,e1,hS,aR,oq⟩:=Ir
  obtain⟨f1,f2⟩:=Iu sg.rs k2.ct
  have hma:k2.ct.a<=(lW k2.ct sg.rs).1.a:=by
   have key:∀(ks:List Ck) (ct:Ct),ct.a<=(ei ct ks).1.a:=by
    intro ks
    induction ks with
    |nil=>intro ct;exact Nat.le_refl _
    |cons k ks ih=>
     intro ct
     cases k with
     |s=>have:=ih ⟨ct.a+1,ct.i⟩;simp only[ei]at this⊢;omega
     |p=>have:=ih ⟨ct.a+1,ct.i⟩;simp only[ei]at this⊢;omega
     |o dp=>have:=ih ⟨ct.a+1,lN ct.i+1⟩;simp only[ei]at this⊢;omega
   rw[f1];exact key _ _
  have hba:=Ix bs (lW k2.ct sg.rs).1.a
  have ta:n0=k2.ct.a:=by omega
  subst ta
  have RK:k2.aP S ρ:=oq
  obtain⟨_,i2,G2,w2,l2,hA⟩:=Ci (pl:=pl) w1 (tG G1 l1) pI dv RK
  have hA:=hA G2 (.refl _)
  have hlG:fJ G G2:=l1.trans l2
  have hpr:=Co (ps:=sg.ps) (i:=0) RJ
  have hx:=Cq (i:=0) hA
  have tH:∀j bx,(j,bx)∈fq 0 sg.ps bs->qm G2.β (fq 0 sg.ps bs) j=some (G2.β bx)∧pM pl G2 (fq 0 sg.ps bs) (G2.β bx)=some (.x j):=by
   intro j bx hj
   refine⟨RC hpr.1 hj,?_⟩
   simp only[pM,qx (hx j bx hj),if_true,RD hpr.2 hj]
  obtain⟨n9,_⟩:=Cp (w:=w) (λb hb=>RE (pr:=fq 0 sg.ps bs) hb) hA tH
  have cU:sn sg (pM pl G2 (fq 0 sg.ps bs)) (qm G2.β (fq 0 sg.ps bs)) w:=by
   constructor
   ·intro b l hb
    cases nf:G2.q b with
    |none=>simp[pM,nf]at hb
    |some l0=>
     refine⟨(w2.rel.fg b l0 (Bp nf)).2,?_⟩
     cases l0 with
     |f=>simp[pM,nf]at hb;exact .inl hb.symm
     |o i p=>cases pl<;>simp[pM,nf]at hb;exact .inl hb.symm
     |x bx=>
      simp only[pM,nf]at hb
      split at hb
      ·rename_i II
       split at hb
       ·rename_i j hj
        cases hb
        exact .inr ⟨j,rfl,by rw[II];exact(tH j bx (ID hj)).1⟩
       ·cases hb;exact .inl rfl
      ·cases hb;exact .inl rfl
   ·intro i b hb
    obtain⟨bx,h1,rfl⟩:=IC hb
    exact⟨by have:=IA h1;omega,(tH i bx h1).2⟩
   ·intro x hx
    obtain⟨h1,h2,h3⟩:=w2.rel.base.O5 x hx
    exact⟨h1,by simp[pM,show G2.q x.1=none from s6 h2],h3⟩
  have vN:=hC w _ _ (c.args.toList.map a.eval) _ outs hS cU n9
  have eZ:(execOp a.eval o).run P w=.ok (.enter g (c.args.toList.map a.eval).toArray) w:=by
   unfold execOp
   rw[ho]
   show Sem.run P (do let d <-resolve a.eval c o.type;invoke d.target d.args) w=_
   simp only[resolve,hc,Act.eval,Deferred.ofValue,pure_bind,invoke]
   rw[Iz hg]
   congr 2
   exact Array.ext' (by simp)
  simp only[a_,Oper.wp,eZ,Oper.upon]
  refine vN.mono ?_
  rintro e w' ⟨v,G',is,o1,o2,rfl,e_⟩
  simp only
  let ks:=kC sg.rs
  obtain⟨rn,NK⟩:∃rn,rn=iU k2.ct.i ks is:=⟨_,rfl⟩
  let GG:=G2.call G' w.heap.size rn
  have hold:∀b,b<w.heap.size->GG.ω b=G2.ω b:=λb hb=>by show(if b<w.heap.size then _ else _)=_;rw[if_pos hb]
  have vO:∀b,¬b<w.heap.size->GG.ω b=match G'.ω b with|some (.o id p)=>(lz rn id).map λj=>.o j p|_=>none:=λb hb=>by show(if b<w.heap.size then _ else _)=_;rw[if_neg hb]
  have RL:∀b,G2.q b=none->pM pl G2 (fq 0 sg.ps bs) b=none:=λb hb=>by simp[pM,hb]
  have nI:∀j bx,(j,bx)∈fq 0 sg.ps bs->G'.ω (G2.β bx)=some (.x j):=by
   intro j bx hj
   have key:∀{ps:List PS} {i0:Nat} {ts:List T} {td:List (Nat×Bool×Nat)},fI G' w' (qm G2.β (fq 0 sg.ps bs)) i0 ps ts->(j,bx)∈fq i0 ps td->G'.ω (G2.β bx)=some (.x j):=by
    intro ps
    induction ps with
    |nil=>intro i0 ts td _ hm;simp[fq]at hm
    |cons p ps ih=>
     intro i0 ts td hB hm
     cases p with
     |v ag n=>exact ih (i0:=i0+1) hB hm
     |x n=>
      obtain⟨b',aX,elem,t1,t2,jU,RM,hh',_,_,_,hB⟩:=hB
      cases td with
      |nil=>simp[fq]at hm
      |cons b0 bs0=>
       simp only[fq,List.mem_cons,Prod.mk.injEq]at hm
       rcases hm with⟨rfl,_⟩|hm
       ·rw[(tH j bx hj).1]at jU;cases jU;exact RM
       ·exact ih hB hm
   exact key e_.box hj
  have Cs:∀b,b<w.heap.size->∀i p,G'.ω b≠some (.o i p):=by
   intro b hb i p hi
   cases na:pM pl G2 (fq 0 sg.ps bs) b with
   |none=>have:=(e_.free b hb na).1;rw[hi]at this;cases this
   |some l=>
    rcases(cU.fg b l na).2 with rfl|⟨j,rfl,hj⟩
    ·have:=(e_.wU b na).1;rw[hi]at this;cases this
    ·obtain⟨bx,h1,rfl⟩:=IC hj
     rw[nI j bx h1]at hi;cases hi
  have cd:pl=true->∀b,G'.q b=none->GG.q b=none:=by
   intro hp b hb
   replace hb:=e_.qq (by rw[<-pX];exact hp) b hb
   by_cases bH:b<w.heap.size
   ·rw[Gh.rb (hold b bH)]
    cases na:pM pl G2 (fq 0 sg.ps bs) b with
    |none=>
     cases nf:G2.q b with
     |none=>rfl
     |some l=>
      exfalso
      cases l with
      |f=>simp[pM,nf]at na
      |o i p=>simp[pM,nf,hp]at na
      |x bx=>
       simp only[pM,nf]at na
       split at na
       ·split at na<;>cases na
       ·cases na
    |some l=>
     exfalso
     rcases(cU.fg b l na).2 with rfl|⟨j,rfl,hj⟩
     ·have:=(e_.wU b na).1;rw[hb]at this;cases this
     ·obtain⟨bx,h1,rfl⟩:=IC hj
      rw[nI j bx h1]at hb;cases hb
   ·exact s6 (by rw[vO b bH,hb])
  obtain⟨vs,mW,RN⟩:=RG (ρ:=ρ) e_.ret
  obtain⟨us,Ie,htp⟩:=Iw (ρ:=ρ) mW
  have Bs:=bq.len Ie
  have lR:(lW k2.ct sg.rs).1.a=k2.ct.a+o1.length:=by rw[f1,yI,Bs.2.1]
  have oZ:o2.length=Aw bs:=Cr hA e_.box
  have hm:(pR (lW k2.ct sg.rs).1.a bs).1-k2.ct.a=o1.length+o2.length:=by omega
  have RO:∀j t,o1[j]?=some t->ρ[k2.ct.a+j]?=some t:=by
   intro j t hj
   have bH:=(List.getElem?_eq_some_iff.1 hj).1
   rw[aR j (by omega),e_.outs,List.getD_eq_getElem?_getD,List.getElem?_append_left bH,hj]
   rfl
  have RP:∀j t,o2[j]?=some t->ρ[(lW k2.ct sg.rs).1.a+j]?=some t:=by
   intro j t hj
   have bH:=(List.getElem?_eq_some_iff.1 hj).1
   have:=aR (o1.length+j) (by omega)
   rw[lR,Nat.add_assoc,this,e_.outs,List.getD_eq_getElem?_getD,List.getElem?_append_right (by omega),show o1.length+j-o1.length=j by omega,hj]
   rfl
  obtain⟨r1,r2,r3,r4,r5,r6⟩:=vM (G2:=GG) (rn:=rn) (w':=w') (ρ:=ρ) (λj x hj=>by show(match lO rn j with|some (some id)=>G'.H id|some none=>_|none=>G2.H j)=_;rw[hj];cases x<;>rfl)
   (λj id hj c r hcr=>by
    have bH:¬c<w.heap.size:=λbH=>Cs c bH _ _ hcr
    rw[vO c bH,hcr];simp only[hj,Option.map_some]) Ie (ct:=k2.ct) RO
   (λk hk hkp=>cd (by
    rw[pX]
    cases hh:nr sg with
    |true=>rfl
    |false=>have:=(IE hh).1 k hk;rw[hkp]at this;cases this)) (λj x hj=>by rw[NK];exact yG hj) (λj id hj=>by rw[NK];exact It e_.nodup hj)
  have qI:∀r u,(r,u)∈(pR (lW k2.ct sg.rs).1.a bs).2->∃j bx,(j,bx)∈fq 0 sg.ps bs∧r=.x bx∧eC GG w' ρ bx u∧cp u=[]:=by
   cases hp:nr sg with
   |false=>
    have Hq:bs=[]:=IF (IE hp).2 hA
    subst Hq
    intro r u nZ
    simp[pR]at nZ
   |true=>
    refine(Cm (cd (by rw[pX,hp])) hA e_.box RP λj bx hj=>?_).2
    have bH:=(w2.rel.fg _ _ (hx j bx hj)).2
    exact⟨(tH j bx hj).1,by show GG.ω (G2.β bx)=_;rw[hold _ bH];exact hx j bx hj⟩
  have iQ:k2.ct.i=ct.i:=by rw[i2,i1]
  have NL:k'.ct.i=(ei k2.ct ks).1.i:=by rw[<-hk];show(lW k2.ct sg.rs).1.i=_;rw[f1]
  have hW:k'.w=(dF d o (z6 (lW k2.ct sg.rs).2.1)++((ei k2.ct ks).2.2++(pR (lW k2.ct sg.rs).1.a bs).2))++k2.w:=by
   rw[<-hk]
   show(_++((lW k2.ct sg.rs).2.2++_))++_=_
   rw[f2];rfl
  have hN:∀i,ct.i<=i->i<k'.ct.i->¬M i:=hM
  have hK:cB (lY (dF d o (z6 (lW k2.ct sg.rs).2.1)++((ei k2.ct ks).2.2++(pR (lW k2.ct sg.rs).1.a bs).2))) (λi=>ct.i<=i∧i<k'.ct.i) G2 w GG w':=by
   refine⟨e_.size,λb hb h0=>⟨by rw[Gh.rb (hold b hb)];exact h0,(e_.free b hb (RL b h0)).2⟩,λb hb h0=>by rw[hold b hb];exact h0,λb l hb hl=>?_,λi hi=>⟨rfl,?_⟩⟩
   ·have bH:=(w2.rel.fg b l hb).2
    refine⟨by rw[hold b bH];exact hb,?_⟩
    cases na:pM pl G2 (fq 0 sg.ps bs) b with
    |none=>exact(e_.free b bH na).2
    |some l'=>
     rcases(cU.fg b l' na).2 with rfl|⟨j,rfl,hj⟩
     ·exact(e_.wU b na).2
     ·exfalso
      obtain⟨bx,h1,rfl⟩:=IC hj
      rw[hx j bx h1]at hb
      cases hb
      refine hl ?_
      show St.look _ (aM.x bx)≠none
      rw[iS,iS]
      intro e
      have e1:=(Option.or_eq_none_iff.1 (Option.or_eq_none_iff.1 e).2).2
      exact IG (IB h1) e1
   ·intro p _
    refine congrFun (?_:(match lO rn i with|some (some id)=>G'.H id|some none=>λ_=>.slice none 0 0|none=>G2.H i)=G2.H i) p
    cases qL:lO rn i with
    |none=>rfl
    |some x=>
     have gX:=Fb qL
     rw[NK]at gX
     exact absurd ⟨by rw[<-iQ];exact(Cl gX).1,by rw[NL];exact r5 i x gX⟩ hi
  rw[hW]
  refine⟨GG,Af h w2 (λr=>iS _ _ r) hK (λi hi=>hN i hi.1 hi.2) (λi hi=>.inl hi) (λn mN=>Ag mN) e_.so ?_,ul _ _ _⟩
  have aT:∀r u,(r,u)∈(ei k2.ct ks).2.2->∃j,r=.o j∧ct.i<=j∧j<k'.ct.i∧bZ GG w' ρ j u∧cp u=[]:=by
   intro r u nZ
   obtain⟨j,g1,g2,g3,g4⟩:=r6 r u nZ
   exact⟨j,g1,by rw[<-iQ];exact g2,by rw[NL];exact g3,g4⟩
  have hmb:∀j bx,(j,bx)∈fq 0 sg.ps bs->M bx:=λj bx hj=>(w2.rel.fg _ _ (hx j bx hj)).1
  have nK:∀r u,St.look ((ei k2.ct ks).2.2++(pR (lW k2.ct sg.rs).1.a bs).2) r=some u->(r,u)∈(ei k2.ct ks).2.2∨(r,u)∈(pR (lW k2.ct sg.rs).1.a bs).2:=
   λr u hl=>List.mem_append.1 (yF hl)
  refine⟨λe n u he hl=>?_,λb u hl=>?_,λi u hl=>?_,λr u hl i hi=>?_,λi hi=>?_,λb l hb=>?_⟩
  ·rcases hZ hl with⟨n',eu,e1,rfl⟩|hl
   ·cases e1
    rw[eu,ET (hn _ eu)]
    exact RN GG w' k2.ct (htp GG w' k2.ct r1)
   ·rcases nK _ _ hl with hm|hm
    ·obtain⟨j,e1,_⟩:=aT _ _ hm;cases e1
    ·obtain⟨j,bx,_,e1,_⟩:=qI _ _ hm;cases e1
  ·rcases hZ hl with⟨n',eu,e1,rfl⟩|hl
   ·cases e1
   ·rcases nK _ _ hl with hm|hm
    ·obtain⟨j,e1,_⟩:=aT _ _ hm;cases e1
    ·obtain⟨j,bx,_,e1,e2,_⟩:=qI _ _ hm;cases e1;exact e2
  ·rcases hZ hl with⟨n',eu,e1,rfl⟩|hl
   ·cases e1
   ·rcases nK _ _ hl with hm|hm
    ·obtain⟨j,e1,_,_,e2,_⟩:=aT _ _ hm;cases e1;exact e2
    ·obtain⟨j,bx,_,e1,_⟩:=qI _ _ hm;cases e1
  ·rcases hZ hl with⟨n',eu,e1,rfl⟩|hl
   ·have:=RH _ i hi
    rw[IH]at this
    have:=r4 i this
    exact .inr ⟨by omega,by rw[NL];exact this.2⟩
   ·rcases nK _ _ hl with hm|hm
    ·obtain⟨j,_,_,_,_,e2⟩:=aT _ _ hm;rw[e2]at hi;cases hi
    ·obtain⟨j,bx,_,_,_,e2⟩:=qI _ _ hm;rw[e2]at hi;cases hi
  ·have:∀r:aM,(r=.x i∨r=.o i)->St.look (dF d o (z6 (lW k2.ct sg.rs).2.1)++((ei k2.ct ks).2.2++(pR (lW k2.ct sg.rs).1.a bs).2)) r≠none->Mn M ct.i k'.ct.i i:=by
    intro r hr hl
    obtain⟨u,hu⟩:=Option.ne_none_iff_exists'.1 hl
    rcases hZ hu with⟨n',eu,e1,rfl⟩|hl
    ·rcases hr with rfl|rfl<;>cases e1
    ·rcases nK _ _ hl with hm|hm
     ·obtain⟨j,e1,g1,g2,_⟩:=aT _ _ hm
      rcases hr with rfl|rfl
      ·cases e1
      ·cases e1;exact .inr ⟨g1,g2⟩
     ·obtain⟨j,bx,hj,e1,_⟩:=qI _ _ hm
      rcases hr with rfl|rfl
      ·cases e1;exact .inl (hmb j _ hj)
      ·cases e1
   rcases hi with hi|hi
   ·exact this _ (.inl rfl) hi
   ·exact this _ (.inr rfl) hi
  ·by_cases bH:b<w.heap.size
   ·rw[hold b bH]at hb
    have:=w2.rel.fg b l hb
    exact⟨.inl this.1,by have:=e_.size;omega⟩
   ·rw[vO b bH]at hb
    cases nf:G'.ω b with
    |none=>rw[nf]at hb;cases hb
    |some l'=>
     rw[nf]at hb
     cases l' with
     |f=>cases hb
     |x i=>cases hb
     |o i p=>
      simp only[Option.map_eq_some_iff]at hb
      obtain⟨j,hj,rfl⟩:=hb
      have gX:=Fa hj
      rw[NK]at gX
      exact⟨.inr ⟨by rw[<-iQ];exact(Cl gX).1,by rw[NL];exact r5 j _ gX⟩,e_.fg b _ nf⟩
structure Env (P:Program) (cx:Cx) (S:Nat->ay):Prop where
 cN:cW P cx
 fns:∀g sg,cx.sg g=some sg->lG P g∧yE P sg g (S g)
 cn:∀g fn,cx.fn g=some fn->P.funcs[g]?=some fn∧lG P g
theorem a_.quiet{W:St}(h:a_ P M B d up ρ a w s o W Q∧k'.ct.i=ct.i):a_ P (Mn M ct.i k'.ct.i) B d up ρ a w s o W Q:=h.1.mono λi hi=>.inl hi
theorem RQ(E:Env P cx S)(h:Rel M B d up s ρ G a w)(hn:∀n,o.dst=some n->n<a.tmps.size)
  (hk:gb cx bW dR d o oi ⟨s.only R,[],ct,[]⟩=some k')(hd:k'.aP S ρ)(hM:∀i,ct.i<=i->i<k'.ct.i->¬M i):a_ P (Mn M ct.i k'.ct.i) B d up ρ a w s o k'.w Q:=by
 have hw:=cC.start h R ct
 cases dl:o.op with
 |move x=>exact a_.quiet (G5 h hn (.inl dl) hk)
 |assign x=>exact a_.quiet (G5 h hn (.inr dl) hk)
 |alloc t=>exact PP E.cN h hn dl hk hM
 |box t x=>exact PQ E.cN h hn dl hk hM
 |build t ps=>exact a_.quiet (PK E.cN h hn dl hk)
 |buildSlice t n ps=>exact Rg E.cN h hn dl hk hd hM
 |makeSlice t x y=>exact Qr E.cN h hn dl hk hd hM
 |load t x=>
  simp only[gb,dl,bQ,aJ]at hk
  obtain⟨⟨k1,v⟩,hv,hk⟩:=hk
  split at hv
  ·rename_i r hT
   cases pI:cx.fz bW dR oi with
   |false=>rw[pI]at hT;cases hT
   |true=>rw[pI]at hT;cases hv;exact Rw E.cN h hn dl hT hk hd hM
  ·exact a_.quiet (PC E.cN h hn dl ⟨k1,v,hv,hk⟩ hd)
 |store t x y=>
  simp only[gb,dl,bQ,aJ]at hk
  obtain⟨k1,cU,hk⟩:=hk
  split at cU
  ·rename_i k2 hD
   cases cU
   cases pI:cx.fz bW dR oi with
   |true=>rw[pI]at hD;cases hD
   |false=>rw[pI]at hD;exact a_.quiet (Rm E.cN h hn dl ⟨k1,hD,hk⟩ hd)
  ·exact a_.quiet (P5 E.cN h hn dl ⟨k1,cU,hk⟩ hd)
 |nilCheck x=>exact a_.quiet (Px h hn dl hk)
 |binOp op t x y yt=>
  have IJ:=hk
  simp only[gb,dl]at hk
  split at hk
  ·rename_i c e s8 yd;exact a_.quiet (Pj E.cN h hn dl s8 yd IJ hd)
  ·rename_i es bs s8 yd;exact a_.quiet (Rk E.cN h hn dl s8 yd IJ hd)
  ·cases hk
 |unOp op t x=>exact a_.quiet (Pm h hn dl hk hd)
 |slice t x lo hi mx=>
  cases hT:(bif mx.isSome then none else uZ cx ⟨s.only R,[],ct,[]⟩ t (bz d (Wk.get ⟨s.only R,[],ct,[]⟩) x) (lo.map (bz d (Wk.get ⟨s.only R,[],ct,[]⟩))) (hi.map (bz d (Wk.get ⟨s.only R,[],ct,[]⟩))))with
  |none=>exact a_.quiet (P8 E.cN h hn dl hT hk hd)
  |some kv=>
   refine Rs E.cN h hn dl hT ?_ hd hM
   simp only[gb,dl]at hk
   rw[hT]at hk
   exact Option.some.inj hk
 |fieldAddr t x f=>exact a_.quiet (Pz E.cN h hn dl hk)
 |indexAddr t x y=>exact a_.quiet (PI E.cN h hn dl hk hd)
 |index t x y=>
  simp only[gb,dl,bQ]at hk
  obtain⟨ti,ed,⟨k1,y1⟩,h1,⟨k2,y2⟩,h2,hk⟩:=hk
  cases hc:Nat.beq ti.kd 2 with
  |false=>simp[hc]at hk
  |true=>
   simp only[hc,cond_true,aJ]at hk
   have dN:bm d o (k2.em .idx [y1,y2]).1 (.v false [.p (k2.em .idx [y1,y2]).2])=k':=hk
   subst dN
   exact a_.quiet (Pw h hn dl E.cN ed (cK hc) hw h1 h2 hd)
 |extract x i=>exact a_.quiet (Py h hn dl hk)
 |makeFunc f first sT=>exact a_.quiet (PR h hn dl hk)
 |call c=>
  have IJ:=hk
  simp only[gb,dl]at hk
  split at hk
  ·rename_i x hc dv
   simp only[bQ]at hk
   obtain⟨ti,ed,⟨k1,y⟩,h1,hk⟩:=hk
   cases h3:Nat.beq ti.kd 3 with
   |true=>
    simp only[h3,cond_true,aJ]at hk
    have dN:bm d o (k1.em .len [y]).1 (.v false [.p (k1.em .len [y]).2])=k':=hk
    subst dN
    exact a_.quiet (Ps h hn E.cN dl hc dv (Option.bind_eq_some_iff.2 ed) (cK h3) hw h1 hd)
   |false=>
    simp only[h3,cond_false]at hk
    cases h2:Nat.beq ti.kd 2 with
    |false=>simp[h2]at hk
    |true=>
     simp only[h2,cond_true,aJ]at hk
     have dN:bm d o (k1.em .lens [y]).1 (.v false [.p (k1.em .lens [y]).2])=k':=hk
     subst dN
     exact a_.quiet (Pu h hn E.cN dl hc dv (Option.bind_eq_some_iff.2 ed) (cK h2) hw h1 hd)
  ·rename_i x y hc dv
   simp only[bQ,aJ]at hk
   obtain⟨⟨k1,y1⟩,h1,⟨k2,y2⟩,h2,hk⟩:=hk
   have dN:bm d o (k2.em .mx [y1,y2]).1 (.v false [.p (k2.em .mx [y1,y2]).2])=k':=hk
   subst dN
   exact a_.quiet (G9 h hn dl dv (.inl ⟨hc,rfl⟩) hw h1 h2 hd)
  ·rename_i x y hc dv
   simp only[bQ,aJ]at hk
   obtain⟨⟨k1,y1⟩,h1,⟨k2,y2⟩,h2,hk⟩:=hk
   have dN:bm d o (k2.em .mn [y1,y2]).1 (.v false [.p (k2.em .mn [y1,y2]).2])=k':=hk
   subst dN
   exact a_.quiet (G9 h hn dl dv (.inr ⟨hc,rfl⟩) hw h1 h2 hd)
  ·rename_i x y hc dv
   exact QZ E.cN h hn dl hc dv IJ hd hM
  ·rename_i x0 xs0 g hc
   simp only[bQ]at hk
   obtain⟨sg,NJ,_⟩:=hk
   obtain⟨q1,q2⟩:=E.fns g sg NJ
   exact RI h hn dl hc q1 NJ q2 IJ hd hM
  ·cases hk
 |convert t1 t2 x=>exact a_.quiet (Pq E.cN h hn dl hk hd)
 |_=>simp[gb,dl]at hk
end
theorem Lf.fw{ρ e:List T}{x:Lf}{t:T}(h:x.ej ρ=some t):x.ej (ρ++e)=some t:=by
 cases x with
 |k v=>exact h
 |a n=>simp only[Lf.ej]at h⊢;rw[List.getElem?_append_left (List.getElem?_eq_some_iff.1 h).1];exact h
 |e=>exact h
theorem NM{ρ e:List T}{x:Lf}{i:Nat}(h:jT ρ x=some i):jT (ρ++e) x=some i:=by
 unfold jT at h⊢
 cases hx:x.ej ρ with
 |none=>simp[hx]at h
 |some t=>rw[Lf.fw hx];rw[hx]at h;exact h
theorem IK{ρ e:List T}:∀{q:lh} {p:List (Nat×Nat)},eK ρ q=some p->eK (ρ++e) q=some p
 | [],p,h=>h
 |(x,w,j)::q,p,h=>by
  simp only[eK,bQ,aJ]at h⊢
  obtain⟨i,h1,p',h2,rfl⟩:=h
  exact⟨i,NM h1,p',IK h2,rfl⟩
theorem IL{ρ e:List T}{id:Nat}{q:lh}{p:List (Nat×Nat)}(h:iY ρ id q=some p):iY (ρ++e) id q=some p:=by
 cases q with
 |nil=>exact h
 |cons x q=>
  simp only[iY]at h⊢
  split at h
  ·rename_i hi;rw[if_pos hi];exact IK h
  ·cases h
section
variable {G:Gh} {w:World} {ρ e:List T}
theorem eF.ext{c:Ce}{v:Value}(h:eF G w ρ c v):eF G w (ρ++e) c v:=by
 cases c with
 |p x=>obtain⟨t,h1,h2⟩:=h;exact⟨t,Lf.fw h1,h2⟩
 |o id q=>obtain⟨p,h1,h2⟩:=h;exact⟨p,IL h1,h2⟩
 |n=>exact h
 |d=>exact h
theorem aF.ext:∀{cs:List Ce} {vs:List Value},aF G w ρ cs vs->aF G w (ρ++e) cs vs
 | [],[],_=>trivial
 |_::_,_::_,h=>⟨h.1.ext,aF.ext h.2⟩
 | [],_::_,h=>h.elim
 |_::_,[],h=>h.elim
theorem dU.ext{ag:Bool}{cs:List Ce}{c:Value}(h:dU G w ρ ag cs c):dU G w (ρ++e) ag cs c:=by
 cases ag with
 |true=>obtain⟨vs,h1,h2⟩:=h;exact⟨vs,h1,h2.ext⟩
 |false=>obtain⟨x,rfl,h2,h3⟩:=h;exact⟨x,rfl,h2.ext,h3⟩
theorem eL.ext:∀{cs:List (Bool×List Ce)} {vs:List Value},eL G w ρ cs vs->eL G w (ρ++e) cs vs
 | [],[],_=>trivial
 |_::_,_::_,h=>⟨h.1.ext,eL.ext h.2⟩
 | [],_::_,h=>h.elim
 |_::_,[],h=>h.elim
theorem bY.ext{v:SV}{c:Value}(h:bY G w ρ v c):bY G w (ρ++e) v c:=by
 cases v with
 |un=>trivial
 |v ag cs=>exact dU.ext h
 |pt b off=>exact h
 |ep id q ix wd off=>obtain⟨p,b,n,cap,i,h1,h2,h3,h4⟩:=h;exact⟨p,b,n,cap,i,IL h1,h2,NM h3,h4⟩
 |fp s ix wd off=>obtain⟨xs,i,r,b,base,h1,h2,h3⟩:=h;exact⟨xs,i,r,b,base,Lf.fw h1,NM h2,h3⟩
 |tp vs=>obtain⟨us,h1,h2⟩:=h;exact⟨us,h1,h2.ext⟩
 |cl f bs=>exact h
 |ob dp x=>exact h
 |fz pv x=>exact h
 |tk x m=>exact h
 |fl x=>exact h
 |fr x=>exact h
theorem eC.ext{b:Nat}{v:SV}(h:eC G w ρ b v):eC G w (ρ++e) b v:=by
 cases v with
 |v ag cs=>obtain⟨h1,aX,elem,h2,h3⟩:=h;exact⟨h1,aX,elem,h2,h3.ext⟩
 |_=>exact h
theorem bZ.ext{b:Nat}{v:SV}(h:bZ G w ρ b v):bZ G w (ρ++e) b v:=by
 cases v with
 |ob dp x=>obtain⟨t,h1,h2⟩:=h;exact⟨t,Lf.fw h1,h2⟩
 |fz pv x=>
  obtain⟨t,h1,h2,h3⟩:=h
  refine⟨t,Lf.fw h1,h2,?_⟩
  cases pv with
  |z=>trivial
  |w tk x0 lo=>obtain⟨g0,F,n,zs,g1,g2,g3⟩:=h3;exact⟨g0,F,n,zs,Lf.fw g1,NM g2,g3⟩
 |tk x m=>obtain⟨h0,F,u,h1,h2,h3⟩:=h;exact⟨h0,F,u,Lf.fw h1,Lf.fw h2,h3⟩
 |fl x=>obtain⟨h0,t,h1,h2⟩:=h;exact⟨h0,t,Lf.fw h1,h2⟩
 |fr x=>obtain⟨h0,t,h1,h2⟩:=h;exact⟨h0,t,Lf.fw h1,h2⟩
 |_=>exact h
theorem Rel.ext{M:Nat->Prop}{B:dt}{d:Nat}{up:Nat->Nat->Value}{s:St}{a:Act}(h:Rel M B d up s ρ G a w):Rel M B d up s (ρ++e) G a w:=
 ⟨λx n hx=>(h.tm x n hx).ext,λb=>(h.bx b).ext,λi=>(h.ob i).ext,h.eD,h.key,h.fg,h.dn,h.base,h.bt⟩
end
theorem Lf.vP{ρ e:List T}{x:Lf}(h:x.gu ρ.length=true):x.ev (ρ++e)=x.ev ρ:=by
 cases x with
 |k v=>rfl
 |a n=>
  have bH:n<ρ.length:=Nat.lt_of_succ_le (by simpa[Lf.gu,Nat.blt]using h)
  simp only[Lf.ev,List.getD_eq_getElem?_getD]
  rw[List.getElem?_append_left bH]
 |e=>rfl
theorem IM{ρ e:List T}{xs:List Lf}(h:xs.all (Lf.gu ρ.length)=true):xs.map (Lf.ev (ρ++e))=xs.map (Lf.ev ρ):=
 List.map_congr_left λx hx=>Lf.vP (List.all_eq_true.1 h x hx)
theorem Cu(ts:List T):∀(m i:Nat),(pA ts i m).length=m
 |0,_=>rfl
 |m+1,i=>by simp[pA,Cu ts m]
theorem IP(ts:List T):∀(m i j:Nat),j<m->(pA ts i m)[j]?=some (ts.getD (i+j) T.bX)
 |0,_,j,h=>by omega
 |m+1,i,0,_=>by simp[pA]
 |m+1,i,j+1,h=>by
  simp only[pA,List.getElem?_cons_succ]
  rw[IP ts m (i+1) j (by omega)]
  congr 2;omega
section
variable {S:Nat->ay} {R:Nat} {K:List ay} {out:List T}
theorem yJ:∀{is:List xq} {p:PL} {ρ:List T},xB (ρ.length+nX is) is=true->(wrap is p).den S R K ρ=some out->
  ∃ts,ts.length=nX is∧p.den S R K (ρ++ts)=some out∧∀e,aP S (ρ++ts++e) (ρ.length+nX is) is
 | [],p,ρ,_,h=>⟨[],rfl,by rw[List.append_nil];exact h,λ_=>trivial⟩
 | .pr q xs::is,p,ρ,dL,h=>by
  simp only[xB,nX,bB]at dL
  have e0:ρ.length+(nX is+1)-1=ρ.length+nX is:=by omega
  rw[e0]at dL
  obtain⟨ts,h1,h2,h3⟩:=yJ (is:=is) dL.2 (show(wrap is (.ins (.pr q xs) p)).den S R K ρ=some out from h)
  simp only[PL.den,bQ]at h2
  obtain⟨t,h4,h5⟩:=h2
  have hl:(ρ++ts).length=ρ.length+nX is:=by simp[h1]
  refine⟨ts++[t],by simp[nX,h1],by simpa using h5,λe=>⟨ρ.length+nX is,t,rfl,?_,?_,?_⟩⟩
  ·have:=IM (ρ:=ρ++ts) (e:=t::e) (xs:=xs) (by rw[hl];exact dL.1.2)
   simp only[List.append_assoc,List.cons_append,List.nil_append]at this⊢
   rw[this]
   simpa using h4
  ·rw[<-hl];simp
  ·have:=h3 (t::e)
   simpa using this
 | .cl g xs m::is,p,ρ,dL,h=>by
  simp only[xB,nX,bB]at dL
  have e0:ρ.length+(nX is+m)-m=ρ.length+nX is:=by omega
  rw[e0]at dL
  obtain⟨ts,h1,h2,h3⟩:=yJ (is:=is) dL.2 (show(wrap is (.ins (.cl g xs m) p)).den S R K ρ=some out from h)
  simp only[PL.den,bQ]at h2
  obtain⟨us,h4,h5⟩:=h2
  have hl:(ρ++ts).length=ρ.length+nX is:=by simp[h1]
  refine⟨ts++pA us 0 m,by simp[nX,h1,Cu],by simpa using h5,λe=>⟨ρ.length+nX is,us,by simp only[nX];omega,?_,λi hi=>?_,?_⟩⟩
  ·have:=IM (ρ:=ρ++ts) (e:=pA us 0 m++e) (xs:=xs) (by rw[hl];exact dL.1.2)
   simp only[List.append_assoc]at this⊢
   rw[this]
   simpa using h4
  ·rw[<-hl,List.append_assoc,List.append_assoc,<-List.append_assoc ρ ts,List.getElem?_append_right (by omega),show(ρ++ts).length+i-(ρ++ts).length=i by omega,
    List.getElem?_append_left (by rw[Cu];exact hi),IP _ _ _ _ hi]
   simp
  ·have:=h3 (pA us 0 m++e)
   simpa using this
end
def cu(fs:gV)(ρ:List T):Prop:=∀n b,fact fs n=some b->ρ[n]?=some (.c (.bool b))
theorem cu.ext{fs:gV}{ρ e:List T}(h:cu fs ρ):cu fs (ρ++e):=λn b hn=>by
 have:=h n b hn
 rw[List.getElem?_append_left (List.getElem?_eq_some_iff.1 this).1];exact this
theorem cu.cons{fs:gV}{ρ:List T}{n:Nat}{b:Bool}(h:cu fs ρ)(hn:ρ[n]?=some (.c (.bool b))):cu ((n,b)::fs) ρ:=by
 intro m c hm
 simp only[fact]at hm
 cases hb:Nat.beq n m with
 |true=>simp[hb]at hm;subst hm;rw[<-cK hb];exact hn
 |false=>simp[hb]at hm;exact h m c hm
section
variable {G:Gh} {w:World} {ρ:List T} {fs:gV}
theorem yK{sv:SV}{c:Value}{b:Bool}(h:n8 fs sv=.is b)(hr:bY G w ρ sv c)(hf:cu fs ρ):c=.bool b:=by
 unfold n8 at h
 split at h
 ·cases h
 ·split at h
  ·rename_i b' hb
   cases h
   unfold Bb at hb
   split at hb
   ·cases hb
    obtain⟨e,he,m_,_⟩:=hr
    cases he
    obtain⟨t,h1,h2⟩:=m_
    simp only[Lf.ej,ib,cond_true,aJ]at h1
    subst h1
    exact h2.scalar.1
   ·cases hb
  ·rename_i n hb
   unfold Bb at hb
   split at hb
   ·cases hb
    split at h
    ·rename_i b' IQ
     cases h
     obtain⟨e,he,m_,_⟩:=hr
     cases he
     obtain⟨t,h1,h2⟩:=m_
     have:=hf n b IQ
     simp only[Lf.ej]at h1
     rw[this]at h1
     cases h1
     exact h2.scalar.1
    ·cases h
   ·cases hb
  ·cases h
theorem RR{sv:SV}{c:Value}(h:n8 fs sv=.nil)(hr:bY G w ρ sv c):∃us,c=.tuple us:=by
 unfold n8 at h
 split at h
 ·obtain⟨us,h1,_⟩:=hr;exact⟨_,h1⟩
 ·split at h
  ·cases h
  ·split at h<;>cases h
  ·cases h
end
section
variable {M:Nat->Prop} {B:dt} {d:Nat} {up:Nat->Nat->Value} {ρ:List T} {G:Gh} {a:Act} {w:World} {S:Nat->ay} {P:Program}
variable {cx:Cx} {bW dR oi:Nat} {s:St} {R:Nat} {ct:Ct} {k':Wk} {o:Oper} {Q:Exit->Act->World->Prop} {ops:Array Oper} {nt:Nat} {fs:gV}
def gw(d:Nat)(ops:Array Oper)(o:Oper)(fs:gV)(s:St):Option Bool:=
 match o.guard with
 |none=>some true
 |some (j,lu)=>match(ops[j]?).bind (·.dst)with
  |none=>none
  |some g=>match n8 fs (s.get (.t d g))with
   | .nil=>some false
   | .is b=>some (b==lu)
   |_=>none
theorem Cv{s':St}(h:∀r∈uj d ops o,s'.get r=s.get r):gw d ops o fs s'=gw d ops o fs s:=by
 unfold gw uj at*
 cases hg:o.guard with
 |none=>rfl
 |some jw=>
  obtain⟨j,lu⟩:=jw
  simp only[hg]at h
  cases hb:(ops[j]?).bind (·.dst)with
  |none=>simp only[hb]
  |some g=>
   simp only[hb]at h⊢
   simp only[h (.t d g) (by simp)]
theorem yL{x:Bool}(h:gw d ops o fs s=some x)(hr:Rel M B d up s ρ G a w)(hf:cu fs ρ):Region.wanted o (yielded ops a.tmps)=x:=by
 unfold gw at h
 unfold Region.wanted
 cases hg:o.guard with
 |none=>simp[hg]at h;simp[h]
 |some jw=>
  obtain⟨j,lu⟩:=jw
  simp only[hg]at h
  cases hb:(ops[j]?).bind (·.dst)with
  |none=>simp[hb]at h
  |some g=>
   simp only[hb]at h
   have ht:=hr.tm d g (Nat.le_refl _)
   simp only[mJ,if_true]at ht
   cases hd:n8 fs (s.get (.t d g))with
   |nil=>
    simp only[hd,aJ]at h
    subst h
    obtain⟨us,hu⟩:=RR hd ht
    simp only[yielded,hb,Option.bind_some]
    rw[Array.getD_eq_getD_getElem?]at hu
    cases hx:a.tmps[g]? with
    |none=>simp
    |some v=>rw[hx]at hu;simp only[Option.getD_some]at hu;subst hu;simp
   |is b=>
    simp only[hd,aJ]at h
    have hu:=yK hd ht hf
    simp only[yielded,hb,Option.bind_some]
    rw[Array.getD_eq_getD_getElem?]at hu
    cases hx:a.tmps[g]? with
    |none=>rw[hx]at hu;simp[undef]at hu
    |some v=>
     rw[hx]at hu;simp only[Option.getD_some]at hu;subst hu
     rw[<-h]
     cases b<;>cases lu<;>rfl
   |ask n=>simp[hd]at h
   |no=>simp[hd]at h
theorem yM{sv:SV}{n:Nat}{b:Bool}(h:n8 fs sv=.ask n):n8 ((n,b)::fs) sv=.is b:=by
 unfold n8 at h⊢
 split at h
 ·cases h
 ·split at h
  ·cases h
  ·rename_i m hm
   split at h
   ·cases h
   ·cases h
    simp only[fact]
    simp
  ·cases h
def Ax(P:Program)(ops:Array Oper)(Q:Exit->Act->World->Prop)(B:dt)(d:Nat)(up:Nat->Nat->Value)(nt:Nat)(ρ:List T)(i:Nat)(rd:List aM)(wr:St)(lo hi:Nat)(sI:St):Prop:=
 ∀(M:Nat->Prop) (s:St) (G:Gh) (a:Act) (w:World) (Kn:Act->World->Prop),(∀r∈rd,s.get r=sI.get r)->Rel M B d up s ρ G a w->a.tmps.size=nt->(∀j,lo<=j->j<hi->¬M j)->
  (∀G' a' w',Rel (Mn M lo hi) B d up (s.dT wr) ρ G' a' w'->a'.tmps.size=nt->Kn a' w')->wpOp P ops Q i Kn a w
theorem IR{s':St}:∀{R:List aM},(∀r∈R,s'.get r=s.get r)->s'.only R=s.only R
 | [],_=>rfl
 |r::R,h=>by simp only[St.only];rw[h r (by simp),IR λr hr=>h r (by simp[hr])]
theorem RS{i:Nat}{R:List aM}(E:Env P cx S)(ho:ops[i]?=some o)(hn:∀n,o.dst=some n->n<nt)(hg:gw d ops o fs s=some true)(hf:cu fs ρ)
  (hk:gb cx bW dR d o oi ⟨s.only R,[],ct,[]⟩=some k')(hd:k'.aP S ρ):Ax P ops Q B d up nt ρ i (uj d ops o++R) k'.w ct.i k'.ct.i s:=by
 intro M s' G a w Kn lQ hr lS hM hK
 have IU:=Cv (fs:=fs) (o:=o) (ops:=ops) (d:=d) (s:=s) (s':=s') λr hr=>lQ r (List.mem_append_left _ hr)
 have hw:=yL (IU.trans hg) hr hf
 have BX:gb cx bW dR d o oi ⟨s'.only R,[],ct,[]⟩=some k':=by rw[IR λr hr=>lQ r (List.mem_append_right _ hr)];exact hk
 have:=RQ (Q:=Q) E hr (λn h=>by rw[lS];exact hn n h) BX hd hM
 unfold wpOp
 simp only[ho,hw,if_true]
 exact .inl (Oper.wp_mono (λa' w' ⟨G',h1,h2⟩=>hK G' a' w' h1 (h2.trans lS)) this)
theorem IV(s:St)(r:aM)(v:SV):s.dT [(r,v)]=s.set r v:=rfl
theorem RT{i lo:Nat}(ho:ops[i]?=some o)(hn:∀n,o.dst=some n->n<nt)(hg:gw d ops o fs s=some false)(hf:cu fs ρ):
  Ax P ops Q B d up nt ρ i (uj d ops o) (dF d o (.tp [])) lo lo s:=by
 intro M s' G a w Kn lQ hr lS hM hK
 have IU:=Cv (fs:=fs) (o:=o) (ops:=ops) (d:=d) (s:=s) (s':=s') lQ
 have hw:=yL (IU.trans hg) hr hf
 unfold wpOp
 simp only[ho,hw,cA,if_false]
 have uv:∀i,M i->Mn M lo lo i:=λi h=>.inl h
 cases hd:o.dst with
 |none=>
  refine hK G _ w ?_ (by simpa[Act.put]using lS)
  simp only[dF,hd,Act.put]
  exact hr.mono uv
 |some n=>
  refine hK G _ w ?_ (by rw[ul];exact lS)
  simp only[dF,hd,IV]
  exact(hr.x_ (x:=.tp []) (v:=undef) (by rw[lS];exact hn n hd) ⟨[],rfl,trivial⟩ (λi hi=>by simp[cp,oK]at hi)).mono uv
theorem RU{x:Operand}{t:Tmp}(h:x∈o.op.operands)(hx:x=.tmp t):t∈A_ o:=by
 subst hx
 exact List.mem_filterMap.2 ⟨.tmp t,by simpa using h,rfl⟩
theorem Cw{s':St}{x:Operand}(hx:x∈o.op.operands)(h:∀r∈(A_ o).map (aM.t d),s'.get r=s.get r):bz d s'.get x=bz d s.get x:=by
 cases x with
 |tmp t=>exact h _ (List.mem_map.2 ⟨t,RU hx rfl,rfl⟩)
 |_=>rfl
theorem RV{i lo n:Nat}{b:Bool}{va vb:SV}(ho:ops[i]?=some o)(RW:o.dst=some n)(hn:n<nt)(hg:gw d ops o fs s=some true)(hf:cu fs ρ)(hp:Bc d s o fs=some (.is b,va,vb)):
  Ax P ops Q B d up nt ρ i (uj d ops o++(A_ o).map (aM.t d)) [(.t d n,bif b then va else vb)] lo lo s:=by
 intro M s' G a w Kn lQ hr lS hM hK
 have IU:=Cv (fs:=fs) (o:=o) (ops:=ops) (d:=d) (s:=s) (s':=s') λr hr=>lQ r (List.mem_append_left _ hr)
 have hw:=yL (IU.trans hg) hr hf
 have uv:∀i,M i->Mn M lo lo i:=λi h=>.inl h
 unfold Bc at hp
 split at hp
 ·rename_i c x y dl
  simp only[aJ,Prod.mk.injEq]at hp
  obtain⟨h1,rfl,rfl⟩:=hp
  have hT:∀r∈(A_ o).map (aM.t d),s'.get r=s.get r:=λr hr=>lQ r (List.mem_append_right _ hr)
  have oc:=Cw (s':=s') (s:=s) (d:=d) (o:=o) (x:=c) (by rw[dl];simp[Op.operands]) hT
  have ox:=Cw (s':=s') (s:=s) (d:=d) (o:=o) (x:=x) (by rw[dl];simp[Op.operands]) hT
  have oy:=Cw (s':=s') (s:=s) (d:=d) (o:=o) (x:=y) (by rw[dl];simp[Op.operands]) hT
  have hc:=yK (by rw[oc];exact h1) (wW hr c).1 hf
  unfold wpOp
  simp only[ho,hw,if_true]
  left
  have eZ:(execOp a.eval o).run P w=.ok (.value (if b then a.eval x else a.eval y)) w:=by
   unfold execOp
   simp only[dl,hc,asBool,pure_bind]
   cases b<;>rfl
  simp only[Oper.wp,eZ,Oper.upon,RW]
  refine hK G _ w ?_ (by rw[ul];exact lS)
  rw[IV]
  refine(hr.x_ (by rw[lS];exact hn) ?_ ?_).mono uv
  ·cases b
   ·simp only[cond_false,cA,if_false];rw[<-oy];exact(wW hr y).1
   ·simp only[cond_true,if_true];rw[<-ox];exact(wW hr x).1
  ·cases b
   ·simp only[cond_false];rw[<-oy];exact(wW hr y).2
   ·simp only[cond_true];rw[<-ox];exact(wW hr x).2
 ·cases hp
end
section
variable {B:dt} {d:Nat} {up:Nat->Nat->Value} {S:Nat->ay} {P:Program} {cx:Cx} {cn:lr} {bW dR:Nat} {R:Nat} {o:Oper} {Q:Exit->Act->World->Prop} {ops:Array Oper} {nt:Nat} {draw:Bool}
variable {K:List ay} {out:List T} {i:Nat} {rc:Rec}
def vQ(P:Program)(S:Nat->ay)(R:Nat)(K:List ay)(out:List T)(ops:Array Oper)(Q:Exit->Act->World->Prop)(B:dt)(d:Nat)(up:Nat->Nat->Value)(nt:Nat)(i:Nat)(rc:Rec)
  (tr:List Tr)(lv:Nat)(s:St)(ct:Ct)(ρ:List T):Prop:=
 ∃rd wr ff e gx p',(∀e',Ax P ops Q B d up nt (ρ++e++e') i rd wr ct.i ff.i s)∧ct.i<=ff.i∧rc (tr++[⟨rd,wr.map (·.1)⟩]) lv (s.dT wr) ff gx=some p'∧p'.den S R K (ρ++e)=some out∧
  (ρ++e).length=ff.a∧cu gx (ρ++e)
def Cy(S:Nat->ay)(R:Nat)(K:List ay)(out:List T)(cx:Cx)(cn:lr)(ops:Array Oper)(d:Nat)(o:Oper)(rc:Rec)(tr:List Tr)(lv:Nat)(s:St)(ct:Ct)(ρ:List T):Prop:=
 ∃g vs gx p',gw d ops o gx s=some true∧xA cx d s o=some (g,vs)∧cu gx ρ∧cn (d+1) g vs lv s ct gx (xD d o rc tr)=some p'∧p'.den S R K ρ=some out
theorem Cz{n:Nat}{x y:PL}{ρ:List T}(h:(PL.ite n x y).den S R K ρ=some out):∃b,ρ[n]?=some (.c (.bool b))∧(bif b then x.den S R K ρ else y.den S R K ρ)=some out:=by
 simp only[PL.den]at h
 cases hn:ρ[n]? with
 |none=>rw[List.getD_eq_getElem?_getD,hn]at h;simp[T.bX]at h
 |some t=>
  rw[List.getD_eq_getElem?_getD,hn]at h
  simp only[Option.getD_some]at h
  split at h
  ·exact⟨_,rfl,h⟩
  ·cases h
theorem IW{tr:List Tr}{lv:Nat}{s:St}{ct:Ct}{fs:gV}{ρ:List T}{p:PL}(ho:ops[i]?=some o)(hn:∀n,o.dst=some n->n<nt)(hg:gw d ops o fs s=some false)
  (h:xC d ops o rc tr lv s ct fs=some p)(hp:p.den S R K ρ=some out)(hl:ρ.length=ct.a)(hf:cu fs ρ):vQ P S R K out ops Q B d up nt i rc tr lv s ct ρ:=by
 refine⟨uj d ops o,dF d o (.tp []),ct,[],fs,p,λe'=>RT ho hn hg (by rw[List.append_nil];exact hf.ext),Nat.le_refl _,?_,by rw[List.append_nil];exact hp,by rw[List.append_nil];exact hl,by rw[List.append_nil];exact hf⟩
 unfold xC at h
 unfold dF
 cases hd:o.dst with
 |none=>rw[hd]at h;exact h
 |some n=>rw[hd]at h;exact h
theorem yN{tr:List Tr}{lv:Nat}{s:St}{ct:Ct}{fs:gV}{ρ:List T}{p:PL}{b:Bool}{va vb:SV}(ho:ops[i]?=some o)(hn:∀n,o.dst=some n->n<nt)(hg:gw d ops o fs s=some true)
  (rC:Bc d s o fs=some (.is b,va,vb))(h:sV d ops o rc tr lv s ct fs (bif b then va else vb)=some p)(hp:p.den S R K ρ=some out)(hl:ρ.length=ct.a)(hf:cu fs ρ):vQ P S R K out ops Q B d up nt i rc tr lv s ct ρ:=by
 unfold sV at h
 cases hd:o.dst with
 |none=>rw[hd]at h;cases h
 |some n=>
  rw[hd]at h
  exact⟨uj d ops o++(A_ o).map (aM.t d),[(.t d n,bif b then va else vb)],ct,[],fs,p,λe'=>RV ho hd (hn n hd) hg (by rw[List.append_nil];exact hf.ext) rC,Nat.le_refl _,h,
   by rw[List.append_nil];exact hp,by rw[List.append_nil];exact hl,by rw[List.append_nil];exact hf⟩
theorem IX{fs:gV}{s:St}{x:Bool}{m:Nat}{b:Bool}(h:gw d ops o fs s=some x)(hm:fact fs m=none):gw d ops o ((m,b)::fs) s=some x:=by
 unfold gw at h⊢
 cases hg:o.guard with
 |none=>rw[hg]at h;exact h
 |some jw=>
  obtain⟨j,lu⟩:=jw
  simp only[hg]at h⊢
  cases hb:(ops[j]?).bind (·.dst)with
  |none=>simp only[hb]at h;cases h
  |some g=>
   simp only[hb]at h⊢
   have key:∀dc,n8 fs (s.get (.t d g))=dc->(∀n,dc≠.ask n)->dc≠.no->n8 ((m,b)::fs) (s.get (.t d g))=dc:=by
    intro dc qM h1 h2
    unfold n8 at qM⊢
    split at qM
    ·exact qM
    ·split at qM
     ·exact qM
     ·rename_i n hn
      split at qM
      ·rename_i b' jU
       have cP:Nat.beq m n=false:=by
        cases hbq:Nat.beq m n with
        |false=>rfl
        |true=>rw[cK hbq,jU]at hm;cases hm
       simp only[fact,cP,cond_false,jU]
       exact qM
      ·exact absurd qM.symm (h1 _)
     ·exact absurd qM.symm h2
   cases qM:n8 fs (s.get (.t d g))with
   |nil=>rw[key _ qM (by simp) (by simp)];rw[qM]at h;exact h
   |is b'=>rw[key _ qM (by simp) (by simp)];rw[qM]at h;exact h
   |ask n=>rw[qM]at h;cases h
   |no=>rw[qM]at h;cases h
theorem RX{sv:SV}{fs:gV}{n:Nat}(h:n8 fs sv=.ask n):fact fs n=none:=by
 unfold n8 at h
 split at h
 ·cases h
 ·split at h
  ·cases h
  ·split at h
   ·cases h
   ·rename_i hn;cases h;exact hn
  ·cases h
theorem IY{tr:List Tr}{lv:Nat}{s:St}{ct:Ct}{fs:gV}{ρ:List T}{p:PL}(E:Env P cx S)(ho:ops[i]?=some o)(hn:∀n,o.dst=some n->n<nt)(hg:gw d ops o fs s=some true)
  (h:Nq cx cn bW dR d ops draw o i rc tr lv s ct fs=some p)(hp:p.den S R K ρ=some out)(hl:ρ.length=ct.a)(hf:cu fs ρ):
  vQ P S R K out ops Q B d up nt i rc tr lv s ct ρ∨(draw=false∧Cy S R K out cx cn ops d o rc tr lv s ct ρ):=by
 unfold Nq at h
 split at h
 ·rename_i dc va vb rC
  left
  split at h
  ·exact yN (b:=true) ho hn hg rC h hp hl hf
  ·exact yN (b:=false) ho hn hg rC h hp hl hf
  ·rename_i n
   simp only[bQ,aJ]at h
   obtain⟨x,hx,y,hy,rfl⟩:=h
   obtain⟨b,hb,hp⟩:=Cz hp
   have IZ:∀b,Bc d s o ((n,b)::fs)=some (.is b,va,vb):=by
    intro b
    unfold Bc at rC⊢
    split at rC
    ·simp only[aJ,Prod.mk.injEq]at rC⊢
     exact⟨yM rC.1,rC.2⟩
    ·cases rC
   have cd:fact fs n=none:=by
    unfold Bc at rC
    split at rC
    ·simp only[aJ,Prod.mk.injEq]at rC;exact RX rC.1
    ·cases rC
   cases b with
   |true=>exact yN (b:=true) ho hn (IX hg cd) (IZ true) hx hp hl (hf.cons hb)
   |false=>exact yN (b:=false) ho hn (IX hg cd) (IZ false) hy hp hl (hf.cons hb)
  ·cases h;cases hp
  ·cases h;cases hp
 ·split at h
  ·rename_i g vs hi
   cases hd:draw with
   |true=>rw[hd]at h;simp only[cond_true,aJ]at h;subst h;cases hp
   |false=>
    rw[hd]at h
    simp only[cond_false]at h
    exact .inr ⟨rfl,g,vs,fs,p,hg,hi,hf,h,hp⟩
  ·left
   split at h
   ·cases h;cases hp
   ·rename_i k hk
    cases hc:(Nat.beq k.ct.a (ct.a+nX k.is)&&Nat.ble ct.i k.ct.i&&xB k.ct.a k.is)with
    |false=>rw[hc]at h;cases h
    |true=>
     rw[hc]at h
     simp only[cond_true,bQ,aJ]at h
     obtain⟨p',yH,rfl⟩:=h
     simp only[bB]at hc
     obtain⟨⟨c1,c2⟩,c3⟩:=hc
     have c1:=cK c1
     obtain⟨ts,w1,w2,w3⟩:=yJ (S:=S) (R:=R) (K:=K) (out:=out) (ρ:=ρ) (by rw[hl,<-c1];exact c3) hp
     refine⟨uj d ops o++xu d s o,k.w,k.ct,ts,fs,p',λe'=>RS E ho hn hg (by rw[List.append_assoc];exact hf.ext) hk ?_,Nat.le_of_ble_eq_true c2,yH,w2,by rw[List.length_append,w1,hl,c1],hf.ext⟩
     show aP S (ρ++ts++e') k.ct.a k.is
     rw[c1,<-hl]
     exact w3 e'
theorem I0{tr:List Tr}{lv:Nat}{s:St}{ct:Ct}{fs:gV}{ρ:List T}{p:PL}(E:Env P cx S)(ho:ops[i]?=some o)(hn:∀n,o.dst=some n->n<nt)
  (h:u4 cx cn bW dR d ops draw o i rc tr lv s ct fs=some p)(hp:p.den S R K ρ=some out)(hl:ρ.length=ct.a)(hf:cu fs ρ):
  vQ P S R K out ops Q B d up nt i rc tr lv s ct ρ∨(draw=false∧Cy S R K out cx cn ops d o rc tr lv s ct ρ):=by
 unfold u4 at h
 simp only at h
 cases Cc:o.guard with
 |none=>
  rw[Cc]at h
  exact IY E ho hn (by unfold gw;rw[Cc]) h hp hl hf
 |some jw=>
  obtain⟨j,lu⟩:=jw
  rw[Cc]at h
  simp only at h
  cases hb:(ops[j]?).bind (·.dst)with
  |none=>rw[hb]at h;cases h
  |some g=>
   rw[hb]at h
   simp only at h
   have hgw:∀fs x,(match n8 fs (s.get (.t d g))with| .nil=>some false| .is b=>some (b==lu)|_=>none)=some x->gw d ops o fs s=some x:=by
    intro fs x hx
    unfold gw
    simp only[Cc,hb]
    exact hx
   have both:∀(fs:gV) (b:Bool) (p:PL),n8 fs (s.get (.t d g))=.is b->(bif b==lu then Nq cx cn bW dR d ops draw o i rc tr lv s ct fs else xC d ops o rc tr lv s ct fs)=some p->p.den S R K ρ=some out->cu fs ρ->
     vQ P S R K out ops Q B d up nt i rc tr lv s ct ρ∨(draw=false∧Cy S R K out cx cn ops d o rc tr lv s ct ρ):=by
    intro fs b p hd h hp hf
    have hg:=hgw fs (b==lu) (by rw[hd])
    cases hbw:(b==lu)with
    |true=>rw[hbw]at h hg;exact IY E ho hn hg h hp hl hf
    |false=>rw[hbw]at h hg;exact .inl (IW ho hn hg h hp hl hf)
   cases hd:n8 fs (s.get (.t d g))with
   |nil=>
    rw[hd]at h
    exact .inl (IW ho hn (hgw fs false (by rw[hd])) h hp hl hf)
   |is b=>rw[hd]at h;exact both fs b p hd h hp hf
   |ask n=>
    rw[hd]at h
    simp only[bQ,aJ]at h
    obtain⟨x,hx,y,hy,rfl⟩:=h
    obtain⟨b,jU,hp⟩:=Cz hp
    cases b with
    |true=>exact both _ true x (yM hd) hx hp (hf.cons jU)
    |false=>exact both _ false y (yM hd) hy hp (hf.cons jU)
   |no=>rw[hd]at h;cases h;cases hp
end
structure Fr where
 d:Nat
 up:Nat->Nat->Value
 nt:Nat
structure Zb where
 K:List ay
 ρ:List T
def At(S:Nat->ay)(R:Nat)(out:List T)(B:dt)(f:Fr)(K0:Zb)(X:Gh->World->List T->Prop)(p:PL)(lv:Nat)(s:St)(ct:Ct)(fs:gV)(a:Act)(w:World):Prop:=
 ∃K ρ G,p.den S R K ρ=some out∧K.length=lv∧(∃pre,K=pre++K0.K)∧(∃e,ρ=K0.ρ++e)∧ρ.length=ct.a∧cu fs ρ∧Rel (λi=>i<ct.i) B f.d f.up s ρ G a w∧a.tmps.size=f.nt∧X G w ρ
def XT:Gh->World->List T->Prop:=λ_ _ _=>True
def tI(S:Nat->ay)(R:Nat)(out:List T)(B:dt)(f:Fr)(K0:Zb)(k:KP)(Ψ:Act->World->Prop):Prop:=
 ∀lv s ct fs p a w,k lv s ct fs=some p->At S R out B f K0 XT p lv s ct fs a w->Ψ a w
def lH(us:List Value):Value:=if h:us.length=1 then us[0]else .tuple us.toArray
def vR(P:Program)(S:Nat->ay)(R:Nat)(out:List T)(B:dt)(cn:lr):Prop:=
 ∀(f:Fr) (g:Nat) (vs:List SV) (lv:Nat) (s:St) (ct:Ct) (fs:gV) (kk:List SV->KP) (p:PL) (K0:Zb) (a:Act) (w:World) (args:List Value) (Ψ:Value->World->Prop),
  cn (f.d+1) g vs lv s ct fs kk=some p->At S R out B f K0 (λG w ρ=>cm G w ρ vs args∧∀v∈vs,∀i∈cp v,i<ct.i) p lv s ct fs a w->
   (∀rs n3 s' ff gx p' w' us,kk rs n3 s' ff gx=some p'->At S R out B f K0 (λG w ρ=>cm G w ρ rs us∧∀v∈rs,∀i∈cp v,i<ff.i) p' n3 s' ff gx a w'->Ψ (lH us) w')->
   lG P g∧Calls P g args.toArray w λe w'=>∃v,e=.returned v∧Ψ v w'
section
variable {B:dt} {f:Fr} {S:Nat->ay} {P:Program} {cx:Cx} {cn:lr} {bW dR:Nat} {R:Nat} {Q:Exit->Act->World->Prop} {ops:Array Oper} {out:List T} {K0:Zb}
theorem RY{lo hi:Nat}(h:lo<=hi)(i:Nat)(hm:Mn (λi=>i<lo) lo hi i):i<hi:=by
 rcases hm with h1|h1
 ·omega
 ·exact h1.2
theorem cm.length{G:Gh}{w:World}{ρ:List T}:∀{vs:List SV} {us:List Value},cm G w ρ vs us->vs.length=us.length
 | [],[],_=>rfl
 |_::_,_::_,h=>by simp[cm.length h.2]
 | [],_::_,h=>h.elim
 |_::_,[],h=>h.elim
theorem I1{G:Gh}{w:World}{ρ:List T}:∀{rs:List SV} {vs:List (Bool×List Ce)} {us:List Value},qF rs=some vs->cm G w ρ rs us->eL G w ρ vs us∧oK vs=rs.flatMap cp
 | [],vs,us,h,hr=>by
  simp[qF]at h
  subst h
  cases us with
  |nil=>exact⟨trivial,rfl⟩
  |cons _ _=>exact hr.elim
 | .v ag cs::rs,vs,us,h,hr=>by
  simp only[qF,bQ,aJ]at h
  obtain⟨l,hl,rfl⟩:=h
  cases us with
  |nil=>exact hr.elim
  |cons u us=>
   obtain⟨g1,g2⟩:=I1 hl hr.2
   exact⟨⟨hr.1,g1⟩,by simp[oK,cp,g2]⟩
 | .un::rs,vs,us,h,hr=>by simp[qF]at h
 | .pt _ _::rs,vs,us,h,hr=>by simp[qF]at h
 | .ep _ _ _ _ _::rs,vs,us,h,hr=>by simp[qF]at h
 | .fp _ _ _ _::rs,vs,us,h,hr=>by simp[qF]at h
 | .tp _::rs,vs,us,h,hr=>by simp[qF]at h
 | .cl _ _::rs,vs,us,h,hr=>by simp[qF]at h
 | .ob _ _::rs,vs,us,h,hr=>by simp[qF]at h
 | .fz _ _::rs,vs,us,h,hr=>by simp[qF]at h
 | .tk _ _::rs,vs,us,h,hr=>by simp[qF]at h
 | .fl _::rs,vs,us,h,hr=>by simp[qF]at h
 | .fr _::rs,vs,us,h,hr=>by simp[qF]at h
theorem RZ{o:Oper}{rc:Rec}{tr:List Tr}{rs:List SV}{lv:Nat}{s:St}{ct:Ct}{fs:gV}{p:PL}{a:Act}{w:World}{us:List Value}{Ψ:Act->World->Prop}(hn:∀n,o.dst=some n->n<f.nt)
  (h:xD f.d o rc tr rs lv s ct fs=some p)(aR:At S R out B f K0 (λG w ρ=>cm G w ρ rs us∧∀v∈rs,∀i∈cp v,i<ct.i) p lv s ct fs a w)
  (oC:∀tr lv s ct fs p a w,rc tr lv s ct fs=some p->At S R out B f K0 XT p lv s ct fs a w->Ψ a w):Ψ (a.put o.dst (lH us)) w:=by
 obtain⟨K,ρ,G,h1,h2,h3,h0,h4,h5,h6,h7,h8,h9⟩:=aR
 unfold xD at h
 have key:∀(n:Nat) (v:SV),o.dst=some n->rc tr lv (s.set (.t f.d n) v) ct fs=some p->bY G w ρ v (lH us)->(∀i∈cp v,i<ct.i)->Ψ (a.put o.dst (lH us)) w:=by
  intro n v hd hk hr hm
  rw[hd]
  exact oC tr lv _ ct fs p _ w hk ⟨K,ρ,G,h1,h2,h3,h0,h4,h5,h6.x_ (by rw[h7];exact hn n hd) hr hm,by rw[ul];exact h7,trivial⟩
 have hlen:=h8.length
 split at h
 ·rename_i hd
  rw[hd]
  exact oC tr lv s ct fs p _ w h ⟨K,ρ,G,h1,h2,h3,h0,h4,h5,by simpa[Act.put]using h6,by simpa[Act.put]using h7,trivial⟩
 ·rename_i n v hd
  match us,h8 with
  | [u],h8=>exact key n v hd h h8.1 (h9 v (by simp))
 ·rename_i n hd
  exact key n .un hd h trivial (λi hi=>by simp[cp]at hi)
 ·rename_i rs' _ _ n hd CA H9
  simp only[bQ]at h
  obtain⟨vs,mW,h⟩:=h
  obtain⟨g1,g2⟩:=I1 mW h8
  refine key n (.tp vs) hd h ⟨us,?_,g1⟩ λi hi=>?_
  ·unfold lH
   rw[dif_neg]
   intro he
   rw[<-hlen]at he
   match rs',CA,he with
   | [v],CA,_=>exact CA v rfl
  ·rw[show cp (.tp vs)=oK vs from rfl,g2]at hi
   obtain⟨v,hv,hi⟩:=List.mem_flatMap.1 hi
   exact h9 v hv i hi
theorem R0{d:Nat}{up:Nat->Nat->Value}{M:Nat->Prop}{s:St}{ρ:List T}{G:Gh}{a:Act}{w:World}{o:Oper}{g:Nat}{vs:List SV}(hr:Rel M B d up s ρ G a w)(hi:xA cx d s o=some (g,vs)):
  ∃args:List Value,(lG P g->(execOp a.eval o).run P w=.ok (.enter g args.toArray) w)∧cm G w ρ vs args∧∀v∈vs,∀i∈cp v,M i:=by
 unfold xA at hi
 split at hi
 ·rename_i c dl
  split at hi
  ·rename_i x R1
   split at hi
   ·rename_i g' bs hx
    split at hi
    ·cases hi
    ·simp only[aJ,Prod.mk.injEq]at hi
     obtain⟨rfl,rfl⟩:=hi
     obtain⟨h1,h2⟩:=wW hr x
     rw[hx]at h1 h2
     have hv:a.eval x=.func (.func g') #[] (bs.map λb=>Value.pointer (some ⟨G.β b,0,none⟩)).toArray:=h1
     refine⟨c.args.toList.map a.eval++bs.map λb=>Value.pointer (some ⟨G.β b,0,none⟩),?_,?_,?_⟩
     ·intro hg
      unfold execOp
      rw[dl]
      show Sem.run P (do let d <-resolve a.eval c o.type;invoke d.target d.args) w=_
      simp only[resolve,R1,hv,Deferred.ofValue,pure_bind,invoke]
      rw[Iz hg]
      congr 2
      exact Array.ext' (by simp)
     ·have k1:∀l:List Operand,cm G w ρ (l.map (bz d s.get)++bs.map λb=>SV.pt b 0) (l.map a.eval++bs.map λb=>Value.pointer (some ⟨G.β b,0,none⟩)):=by
       intro l
       induction l with
       |nil=>
        clear hx h1 h2 hv
        induction bs with
        |nil=>trivial
        |cons b bs ih=>exact⟨rfl,ih⟩
       |cons y l ih=>exact⟨(wW hr y).1,ih⟩
      exact k1 _
     ·intro v hv i hi
      rcases List.mem_append.1 hv with hv|hv
      ·obtain⟨y,_,rfl⟩:=List.mem_map.1 hv
       exact(wW hr y).2 i hi
      ·obtain⟨b,hb,rfl⟩:=List.mem_map.1 hv
       simp[cp]at hi
       subst hi
       exact h2 _ (by simpa[cp]using hb)
   ·cases hi
  ·cases hi
 ·cases hi
theorem CB(E:Env P cx S)(hI:vR P S R out B cn)(hn:∀o∈ops.toList,∀n,o.dst=some n->n<f.nt){fin:List Tr->KP}(kq:∀tr,tI S R out B f K0 (fin tr) (Q .normal)):
  ∀(os:List Oper) (i:Nat) (tr:List Tr) (lv:Nat) (s:St) (ct:Ct) (fs:gV) (p:PL) (a:Act) (w:World),ops.toList.drop i=os->xE cx cn bW dR f.d ops false fin os i tr lv s ct fs=some p->
   At S R out B f K0 XT p lv s ct fs a w->wpOps P ops Q (List.range' i os.length) a w
 | [],i,tr,lv,s,ct,fs,p,a,w,_,h,aR=>kq tr lv s ct fs p a w h aR
 |o::os,i,tr,lv,s,ct,fs,p,a,w,yO,h,aR=>by
  have ho:ops[i]?=some o:=by
   rw[<-Array.getElem?_toList]
   have:=congrArg (·[0]?) yO
   simpa using this
  have eu:=hn o (List.mem_of_mem_drop (i:=i) (by rw[yO];simp))
  have yP:ops.toList.drop (i+1)=os:=by
   rw[<-List.drop_drop,yO];rfl
  have ih:=CB E hI hn kq os (i+1)
  obtain⟨K,ρ,G,h1,h2,h3,⟨e0,h0⟩,h4,h5,h6,h7,_⟩:=aR
  rw[List.length_cons,List.range'_succ,wpOps_cons]
  rcases I0 (P:=P) (Q:=Q) (B:=B) (up:=f.up) (nt:=f.nt) (R:=R) (K:=K) (out:=out) E ho eu (show u4 cx cn bW dR f.d ops false o i (xE cx cn bW dR f.d ops false fin os (i+1)) tr lv s ct fs=some p from h) h1 h4 h5 with
   ⟨rd,wr,ff,e,gx,p',qn,hle,oC,yH,lk,Fe⟩|⟨_,g,vs,gx,p',hg,hi,Fe,n9,yH⟩
  ·have I2:=qn []
   rw[List.append_nil]at I2
   refine I2 (λi=>i<ct.i) s G a w _ (λr hr=>rfl) h6.ext h7 (λj h1 h2=>by omega) λG' a' w' gJ yn=>?_
   exact ih _ lv _ ff gx p' a' w' yP oC ⟨K,ρ++e,G',yH,h2,h3,⟨e0++e,by rw[h0,List.append_assoc]⟩,lk,Fe,gJ.mono (RY hle),yn,trivial⟩
  ·have hQ:=λ(args:List Value) hr=>hI f g vs lv s ct gx _ p' K0 a w args (λv w'=>wpOps P ops Q (List.range' (i+1) os.length) (a.put o.dst v) w') n9 ⟨K,ρ,G,yH,h2,h3,⟨e0,h0⟩,h4,Fe,h6,h7,hr⟩ λrs n3 s' ff fs2 p2 w' us hk jv=>
    RZ (Ψ:=λa w'=>wpOps P ops Q (List.range' (i+1) os.length) a w') eu hk jv λtr lv s ct fs p a w hk rD=>ih tr lv s ct fs p a w yP hk rD
   obtain⟨args,hx,hr,hm⟩:=R0 (P:=P) h6 hi
   have hw:=yL hg h6 Fe
   unfold wpOp
   simp only[ho,hw,if_true]
   left
   simp only[Oper.wp]
   obtain⟨hg0,vN⟩:=hQ args ⟨hr,hm⟩
   rw[hx hg0]
   refine vN.mono ?_
   rintro e w' ⟨v,rfl,hv⟩
   exact hv
end
structure Item where
 rd:List aM
 wr:St
 lo:Nat
 hi:Nat
def Item.tr(it:Item):Tr:=⟨it.rd,it.wr.map (·.1)⟩
inductive fa (Ok:Nat->Item->St->Prop):Nat->St->Nat->List Item->St->Nat->Prop
 |nil {i:Nat} {s:St} {c:Nat}:fa Ok i s c [] s c
 |cons {i:Nat} {s s':St} {c c':Nat} {it:Item} {its:List Item} (h:Ok i it s) (hl:it.lo=c) (hh:c<=it.hi) (ht:fa Ok (i+1) (s.dT it.wr) it.hi its s' c'):fa Ok i s c (it::its) s' c'
def jd(D:Nat->Bool):Nat->St->List Item->St
 |_,s,[]=>s
 |i,s,it::its=>jd D (i+1) (bif D i then s.dT it.wr else s) its
theorem fa.mono{Ok Ok':Nat->Item->St->Prop}(h:∀i it s,Ok i it s->Ok' i it s){i:Nat}{s s':St}{c c':Nat}{its:List Item}(hc:fa Ok i s c its s' c'):fa Ok' i s c its s' c':=by
 induction hc with
 |nil=>exact .nil
 |cons h1 h2 h3 _ ih=>exact .cons (h _ _ _ h1) h2 h3 ih
theorem fa.le{Ok:Nat->Item->St->Prop}{i:Nat}{s s':St}{c c':Nat}{its:List Item}(hc:fa Ok i s c its s' c'):c<=c':=by
 induction hc with
 |nil=>exact Nat.le_refl _
 |cons _ _ h3 _ ih=>exact Nat.le_trans h3 ih
theorem fa.get{Ok:Nat->Item->St->Prop}{i:Nat}{s s':St}{c c':Nat}{its:List Item}(hc:fa Ok i s c its s' c'):∀(m:Nat) (it:Item),its[m]?=some it->
  Ok (i+m) it (jd (λ_=>true) i s (its.take m))∧c<=it.lo∧it.lo<=it.hi∧it.hi<=c':=by
 induction hc with
 |nil=>intro m it h;simp at h
 | @cons i s s' c c' Ff its h1 h2 h3 h4 ih=>
  intro m it hm
  cases m with
  |zero=>
   simp at hm
   subst hm
   exact⟨h1,by omega,by omega,h4.le⟩
  |succ m=>
   obtain⟨g1,g2,g3,g4⟩:=ih m it (by simpa using hm)
   refine⟨?_,by omega,g3,g4⟩
   rw[show i+(m+1)=i+1+m by omega]
   simpa[jd]using g1
theorem fa.apart{Ok:Nat->Item->St->Prop}{i:Nat}{s s':St}{c c':Nat}{its:List Item}(hc:fa Ok i s c its s' c'):∀(m m':Nat) (it dZ:Item),its[m]?=some it->its[m']?=some dZ->m<m'->it.hi<=dZ.lo:=by
 induction hc with
 |nil=>intro m m' it dZ h;simp at h
 | @cons i s s' c c' Ff its h1 h2 h3 h4 ih=>
  intro m m' it dZ hm um bH
  cases m' with
  |zero=>omega
  |succ m'=>
   cases m with
   |zero=>
    simp at hm
    subst hm
    exact(h4.get m' dZ (by simpa using um)).2.1
   |succ m=>exact ih m m' it dZ (by simpa using hm) (by simpa using um) (by omega)
theorem fa.last{Ok:Nat->Item->St->Prop}{i:Nat}{s s':St}{c c':Nat}{its:List Item}(hc:fa Ok i s c its s' c'){D:Nat->Bool}:(∀m,m<its.length->D (i+m)=true)->jd D i s its=s':=by
 induction hc with
 |nil=>intro _;rfl
 | @cons i s s' c c' Ff its h1 h2 h3 h4 ih=>
  intro h
  simp only[jd]
  rw[show D i=true from h 0 (by simp)]
  exact ih λm hm=>by rw[show i+1+m=i+(m+1) by omega];exact h (m+1) (by simpa using hm)
theorem CC{D:Nat->Bool}:∀{its:List Item} {i:Nat} {s:St},(∀m,m<its.length->D (i+m)=false)->jd D i s its=s
 | [],i,s,_=>rfl
 |it::its,i,s,h=>by
  simp only[jd]
  rw[show D i=false from h 0 (by simp)]
  exact CC λm hm=>by rw[show i+1+m=i+(m+1) by omega];exact h (m+1) (by simpa using hm)
theorem I3{D:Nat->Bool}:∀{its:List Item} {i:Nat} {s s2:St},(∀r,s.get r=s2.get r)->∀r,(jd D i s its).get r=(jd D i s2 its).get r
 | [],i,s,s2,h,r=>h r
 |it::its,i,s,s2,h,r=>by
  simp only[jd]
  refine I3 (λr=>?_) r
  cases D i with
  |true=>simp only[cond_true];rw[St.aE,St.aE,h]
  |false=>exact h r
theorem I4{D D':Nat->Bool}:∀{its:List Item} {i:Nat} {s:St},(∀m,m<its.length->D (i+m)=D' (i+m))->jd D i s its=jd D' i s its
 | [],i,s,_=>rfl
 |it::its,i,s,h=>by
  simp only[jd]
  rw[show D i=D' i from h 0 (by simp)]
  exact I4 λm hm=>by rw[show i+1+m=i+(m+1) by omega];exact h (m+1) (by simpa using hm)
theorem I5{D:Nat->Bool}{r:aM}:∀{its:List Item} {i:Nat} {s:St},(∀m it,its[m]?=some it->D (i+m)=true->it.wr.look r=none)->(jd D i s its).get r=s.get r
 | [],i,s,_=>rfl
 |it::its,i,s,h=>by
  simp only[jd]
  rw[I5 λm dZ hm hd=>h (m+1) dZ (by simpa using hm) (by rw[show i+(m+1)=i+1+m by omega];exact hd)]
  cases hD:D i with
  |false=>rfl
  |true=>
   simp only[cond_true]
   rw[St.aE,h 0 it rfl (by simpa using hD)]
   rfl
theorem I6{D:Nat->Bool}{W:St}:∀{its:List Item} {i:Nat} {s:St},(∀m it,its[m]?=some it->D (i+m)=true->∀r,it.wr.look r=none∨W.look r=none)->
  ∀r,((jd D i s its).dT W).get r=(jd D i (s.dT W) its).get r
 | [],i,s,_,r=>rfl
 |it::its,i,s,h,r=>by
  simp only[jd]
  rw[I6 λm dZ hm hd=>h (m+1) dZ (by simpa using hm) (by rw[show i+(m+1)=i+1+m by omega];exact hd)]
  refine I3 (λr=>?_) r
  cases hD:D i with
  |false=>rfl
  |true=>
   simp only[cond_true]
   rw[St.aE,St.aE,St.aE,St.aE]
   rcases h 0 it rfl (by simpa using hD) r with h1|h1
   ·rw[h1];rfl
   ·rw[h1];rfl
def je(D:Nat->Bool)(k:Nat):Nat->Bool:=λj=>if j=k then true else D j
theorem CD{D:Nat->Bool}:∀{its:List Item} {i m:Nat} {s:St} {it:Item},its[m]?=some it->D (i+m)=false->
  (∀m' dZ,its[m']?=some dZ->m<m'->D (i+m')=true->∀r,dZ.wr.look r=none∨it.wr.look r=none)->∀r,((jd D i s its).dT it.wr).get r=(jd (je D (i+m)) i s its).get r
 | [],i,m,s,it,h,_,_,r=>by simp at h
 |Ff::its,i,0,s,it,h,hd,hc,r=>by
  simp at h
  subst h
  simp only[jd,Nat.add_zero]at hd⊢
  rw[hd,show je D i i=true by simp[je]]
  simp only[cond_false,cond_true]
  rw[I6 λm dZ hm rk=>hc (m+1) dZ (by simpa using hm) (by omega) (by rw[show i+(m+1)=i+1+m by omega];exact rk)]
  exact congrArg (λx=>St.get x r) (I4 λm hm=>by
   have:¬(i+1+m=i):=by omega
   simp[je,this])
 |Ff::its,i,m+1,s,it,h,hd,hc,r=>by
  simp only[jd]
  have e:je D (i+(m+1)) i=D i:=by
   have:¬(i=i+(m+1)):=by omega
   simp[je]
  rw[e,show i+(m+1)=i+1+m by omega]
  exact CD (by simpa using h) (by rw[show i+1+m=i+(m+1) by omega];exact hd) (λm' dZ hm bH rk=>hc (m'+1) dZ (by simpa using hm) (by omega) (by rw[show i+(m'+1)=i+1+m' by omega];exact rk)) r
theorem CE{D:Nat->Bool}{r:aM}:∀{its:List Item} {i m:Nat} {s s2:St},s.get r=s2.get r->m<=its.length->(∀m' dZ,its[m']?=some dZ->m'<m->D (i+m')=false->dZ.wr.look r=none)->
  (∀m' dZ,its[m']?=some dZ->m<=m'->D (i+m')=true->dZ.wr.look r=none)->(jd D i s its).get r=(jd (λ_=>true) i s2 (its.take m)).get r
 |its,i,0,s,s2,h,_,h1,h2=>by
  rw[List.take_zero]
  show _=s2.get r
  rw[I5 λm it hm hd=>h2 m it hm (by omega) hd,h]
 | [],i,m+1,s,s2,h,hl,_,_=>by simp at hl
 |Ff::its,i,m+1,s,s2,h,hl,h1,h2=>by
  simp only[jd,List.take_succ_cons,cond_true]
  refine CE ?_ (by simpa using hl) (λm' dZ hm bH hd=>h1 (m'+1) dZ (by simpa using hm) (by omega) (by rw[show i+(m'+1)=i+1+m' by omega];exact hd))
   (λm' dZ hm bH hd=>h2 (m'+1) dZ (by simpa using hm) (by omega) (by rw[show i+(m'+1)=i+1+m' by omega];exact hd))
  cases hD:D i with
  |true=>simp only[cond_true];rw[St.aE,St.aE,h]
  |false=>
   simp only[cond_false]
   rw[St.aE,h1 0 Ff rfl (by omega) (by simpa using hD)]
   exact h
theorem CF{xs ys:List aM}(h:xv xs ys=false):∀r,r∈xs->r∈ys->False:=by
 intro r h1 h2
 have h3:ys.any r.beq=false:=by have:=List.any_eq_false.1 h r h1;rw[Bool.not_eq_true]at this;exact this
 have:=List.any_eq_false.1 h3 r h2
 exact this (aM.beq_iff.2 rfl)
theorem NN{W:St}{r:aM}(h:r∉W.map (·.1)):W.look r=none:=by
 cases hl:W.look r with
 |none=>rfl
 |some u=>exact absurd (List.mem_map.2 ⟨(r,u),yF hl,rfl⟩) h
theorem Fg{a b:Item}(h:xw a.tr b.tr=true):(∀r∈b.rd,a.wr.look r=none)∧(∀r,a.wr.look r=none∨b.wr.look r=none)∧(∀r∈a.rd,b.wr.look r=none):=by
 simp only[xw,bB,Bool.not_eq_true']at h
 obtain⟨⟨h1,h2⟩,h3⟩:=h
 refine⟨λr hr=>NN λhm=>CF h1 r hm hr,λr=>?_,λr hr=>NN λhm=>CF h3 r hr hm⟩
 by_cases hm:r∈a.wr.map (·.1)
 ·exact .inr (NN λum=>CF h2 r hm um)
 ·exact .inl (NN hm)
theorem I7{bj:Nat}{t:Tr}:∀{us:List Tr} {i:Nat},xy bj t i us=true->∀j u,us[j]?=some u->Nat.testBit bj (i+j)=true∨xw u t=true
 | [],i,_,j,u,h=>by simp at h
 |v::us,i,h,j,u,hj=>by
  simp only[xy,bB,Bool.or_eq_true]at h
  cases j with
  |zero=>simp at hj;subst hj;exact h.1
  |succ j=>
   have:=I7 h.2 j u (by simpa using hj)
   rw[show i+1+j=i+(j+1) by omega]at this
   exact this
theorem I8:∀{ts:List Tr} {bs:List Nat} {done:List Tr},u0 done ts bs=true->∀(m u:Nat) (t tu:Tr) (b:Nat),ts[m]?=some t->bs[m]?=some b->u<done.length+m->(done++ts)[u]?=some tu->
  Nat.testBit b u=true∨xw tu t=true
 | [],bs,done,_,m,u,t,tu,b,h,_,_,_=>by simp at h
 |_::_,[],done,_,m,u,t,tu,b,_,h,_,_=>by simp at h
 |t0::ts,b0::bs,done,h,m,u,t,tu,b,hm,hb,hu,hg=>by
  simp only[u0,bB]at h
  cases m with
  |zero=>
   simp at hm hb
   subst hm hb
   have:=I7 h.1 u tu (by rw[List.getElem?_append_left (by omega)]at hg;exact hg)
   simpa using this
  |succ m=>
   exact I8 h.2 m u t tu b (by simpa using hm) (by simpa using hb) (by simp;omega) (by simpa using hg)
def CG(n:Nat)(e:Edge):Bool:=Region.binds .any e&&Nat.blt e.on n
theorem I9(acc:List Nat)(n:Nat):∀(es:List Edge) (s u:Nat),Nat.testBit (es.foldl (λs e=>bif CG n e then s|||(2^e.on)|||(acc.getD e.on 0)else s) s) u=true->
  Nat.testBit s u=true∨∃e∈es,CG n e=true∧(u=e.on∨Nat.testBit (acc.getD e.on 0) u=true)
 | [],s,u,h=>.inl h
 |e::es,s,u,h=>by
  rw[List.foldl_cons]at h
  rcases I9 acc n es _ u h with h1|⟨e',he',h1⟩
  ·cases hc:CG n e with
   |false=>rw[hc]at h1;exact .inl h1
   |true=>
    rw[hc]at h1
    simp only[cond_true,Nat.testBit_or,Bool.or_eq_true]at h1
    rcases h1 with(h1|h1)|h1
    ·exact .inl h1
    ·rw[Nat.testBit_two_pow]at h1
     simp at h1
     exact .inr ⟨e,by simp,hc,.inl h1.symm⟩
    ·exact .inr ⟨e,by simp,hc,.inr h1⟩
  ·exact .inr ⟨e',by simp[he'],h1⟩
theorem R2:∀(os:List Oper) (acc:List Nat) (j:Nat),j<acc.length->(j_ acc os)[j]?=acc[j]?
 | [],acc,j,_=>rfl
 |o::os,acc,j,h=>by
  simp only[j_]
  rw[R2 os _ j (by simp;omega),List.getElem?_append_left h]
theorem NO:∀(os:List Oper) (acc:List Nat),(j_ acc os).length=acc.length+os.length
 | [],acc=>rfl
 |o::os,acc=>by simp only[j_];rw[NO];simp;omega
theorem R3:∀(os:List Oper) (acc:List Nat) (k b:Nat),acc.length<=k->(j_ acc os)[k]?=some b->∃o,os[k-acc.length]?=some o∧
  ∀u,Nat.testBit b u=true->∃e∈o.after.toList,CG k e=true∧(u=e.on∨Nat.testBit ((j_ acc os).getD e.on 0) u=true)
 | [],acc,k,b,hk,h=>by
  simp only[j_]at h
  have:=(List.getElem?_eq_some_iff.1 h).1
  omega
 |o::os,acc,k,b,hk,h=>by
  simp only[j_]at h⊢
  by_cases he:k=acc.length
  ·subst he
   rw[R2 os _ _ (by simp),List.getElem?_append_right (Nat.le_refl _)]at h
   simp only[Nat.sub_self,List.getElem?_cons_zero,aJ]at h
   refine⟨o,by simp,λu hu=>?_⟩
   rw[<-h]at hu
   rcases I9 acc acc.length o.after.toList 0 u hu with h1|⟨e,he,h1,h2⟩
   ·simp at h1
   ·refine⟨e,he,h1,h2.imp_right λh2=>?_⟩
    have bH:e.on<acc.length:=by
     simp only[CG,bB]at h1
     exact Nat.lt_of_succ_le (by simpa[Nat.blt]using h1.2)
    rw[List.getD_eq_getElem?_getD,R2 os _ _ (by simp;omega),List.getElem?_append_left bH,<-List.getD_eq_getElem?_getD]
    exact h2
  ·obtain⟨o',h1,h2⟩:=R3 os _ k b (by simp;omega) h
   refine⟨o',?_,h2⟩
   rw[<-h1,show k-acc.length=(k-(acc.length+1))+1 by omega]
   simp
theorem vS:∀{os:List Oper} {i:Nat},sU i os=true->∀m o,os[m]?=some o->∀e∈o.after.toList,Region.binds .any e=true->e.on<i+m
 | [],i,_,m,o,h,_,_,_=>by simp at h
 |o0::os,i,h,m,o,hm,e,he,hb=>by
  simp only[sU,bB]at h
  cases m with
  |zero=>
   simp at hm
   subst hm
   have:=List.all_eq_true.1 h.1 e he
   simp only[hb,Bool.not_true,Bool.false_or]at this
   exact Nat.lt_of_succ_le (by simpa[Nat.blt]using this)
  |succ m=>
   have:=vS h.2 m o (by simpa using hm) e he hb
   omega
def Ay(ops:Array Oper)(D:Nat->Bool):Prop:=∀(j:Nat) (o:Oper),D j=true->ops[j]?=some o->∀e∈o.after.toList,Region.binds .any e=true->D e.on=true
theorem CH{ops:Array Oper}{D:Nat->Bool}(hc:Ay ops D):∀(j b u:Nat),D j=true->(j_ [] ops.toList)[j]?=some b->Nat.testBit b u=true->D u=true:=by
 intro j
 induction j using Nat.strongRecOn with
 |_ j ih=>
  intro b u hj hb hu
  obtain⟨o,ho,h⟩:=R3 ops.toList [] j b (by simp) hb
  obtain⟨e,he,h1,h2⟩:=h u hu
  simp only[CG,bB]at h1
  have bH:e.on<j:=Nat.lt_of_succ_le (by simpa[Nat.blt]using h1.2)
  have hd:=hc j o hj (by simpa using ho) e he h1.1
  rcases h2 with rfl|h2
  ·exact hd
  ·have hlen:e.on<(j_ [] ops.toList).length:=by
    have:=(List.getElem?_eq_some_iff.1 hb).1
    omega
   rw[List.getD_eq_getElem?_getD,List.getElem?_eq_getElem hlen]at h2
   exact ih e.on bH _ u hd (List.getElem?_eq_getElem hlen) h2
theorem NP{ops:Array Oper}{D:Nat->Bool}(hc:Ay ops D){k b u:Nat}{o:Oper}(ho:ops[k]?=some o)(hr:∀e∈o.after.toList,Region.binds .any e=true->D e.on=true)
  (hb:(j_ [] ops.toList)[k]?=some b)(hu:Nat.testBit b u=true):D u=true:=by
 obtain⟨o',E8,h⟩:=R3 ops.toList [] k b (by simp) hb
 simp only[List.length_nil,Nat.sub_zero,Array.getElem?_toList,ho,aJ]at E8
 subst E8
 obtain⟨e,he,h1,h2⟩:=h u hu
 simp only[CG,bB]at h1
 have hd:=hr e he h1.1
 have bH:e.on<k:=Nat.lt_of_succ_le (by simpa[Nat.blt]using h1.2)
 rcases h2 with rfl|h2
 ·exact hd
 ·have hlen:e.on<(j_ [] ops.toList).length:=by
   have:=(List.getElem?_eq_some_iff.1 hb).1
   omega
  rw[List.getD_eq_getElem?_getD,List.getElem?_eq_getElem hlen]at h2
  exact CH hc e.on _ u hd (List.getElem?_eq_getElem hlen) h2
def qN:List Bool->Nat
 | []=>0
 |true::l=>qN l
 |false::l=>qN l+1
theorem I_:∀(l:List Bool) (i:Nat),l[i]?=some false->qN (l.set i true)+1=qN l
 | [],i,h=>by simp at h
 |b::l,0,h=>by simp at h;subst h;simp[qN]
 |true::l,i+1,h=>by simp only[List.set_cons_succ,qN];exact I_ l i (by simpa using h)
 |false::l,i+1,h=>by simp only[List.set_cons_succ,qN];rw[<-I_ l i (by simpa using h)]
theorem R4:∀(l:List Bool),qN l=0->∀i,i<l.length->l[i]?=some true
 | [],_,i,h=>by simp at h
 |true::l,h,0,_=>rfl
 |true::l,h,i+1,hi=>by simpa using R4 l h i (by simpa using hi)
 |false::l,h,_,_=>by simp[qN]at h
theorem NQ:∀n,qN (List.replicate n false)=n
 |0=>rfl
 |n+1=>by simp[List.replicate_succ,qN,NQ n]
section
variable {B:dt} {d:Nat} {up:Nat->Nat->Value} {S:Nat->ay} {P:Program} {cx:Cx} {cn:lr} {bW dR:Nat} {R:Nat} {Q:Exit->Act->World->Prop} {ops:Array Oper} {nt:Nat} {ρ:List T}
variable {its:List Item} {s0 s1:St} {c0 c1:Nat}
def MD(c0:Nat)(its:List Item)(D:Nat->Bool)(j:Nat):Prop:=j<c0∨∃m it,its[m]?=some it∧D m=true∧it.lo<=j∧j<it.hi
def ew(az:Array Bool)(j:Nat):Bool:=az.getD j false
theorem NR{az:Array Bool}{i:Nat}(h:i<az.size):ew (az.setIfInBounds i true)=je (ew az) i:=by
 funext j
 unfold ew je
 by_cases hj:j=i
 ·subst hj
  simp[Array.getD_eq_getD_getElem?,h]
 ·rw[if_neg hj,getD_set_ne _ (Ne.symm hj)]
theorem R5(hc:fa (λi it s=>Ax P ops Q B d up nt ρ i it.rd it.wr it.lo it.hi s) 0 s0 c0 its s1 c1)(hlen:its.length=ops.size)(dL:u0 [] (its.map Item.tr) (j_ [] ops.toList)=true)(sr:sU 0 ops.toList=true)
  (hQ:∀G a w,Rel (λi=>i<c1) B d up s1 ρ G a w->a.tmps.size=nt->Q .normal a w):
  ∀(vT:Nat) (az:Array Bool) (a:Act) (w:World),az.size=ops.size->qN az.toList<=vT->Ay ops (ew az)->
   (∃G,Rel (MD c0 its (ew az)) B d up (jd (ew az) 0 s0 its) ρ G a w)->a.tmps.size=nt->wpAny P .any ops Q vT az a w:=by
 have Ja:(j_ [] ops.toList).length=ops.size:=by rw[NO];simp
 have gone:∀(az:Array Bool),az.size=ops.size->Region.ready .any ops az=[]->∀j,j<ops.size->ew az j=true:=by
  intro az hs hr j
  induction j using Nat.strongRecOn with
  |_ j ih=>
   intro hj
   cases hd:ew az j with
   |true=>rfl
   |false=>
    exfalso
    have ho:ops[j]?=some ops[j]:=Array.getElem?_eq_getElem hj
    have:j∈Region.ready .any ops az:=by
     rw[mem_ready]
     refine⟨?_,ops[j],ho,λe he hb=>?_⟩
     ·unfold ew at hd
      rw[Array.getD_eq_getD_getElem?]at hd⊢
      rw[Array.getElem?_eq_getElem (by omega)]at hd⊢
      simpa using hd
     ·have bH:=vS sr j ops[j] (by simp) e (by simpa using he) hb
      have bH:e.on<j:=by omega
      exact ih e.on bH (by omega)
    rw[hr]at this
    cases this
 have fin:∀(az:Array Bool) (a:Act) (w:World),az.size=ops.size->Region.ready .any ops az=[]->(∃G,Rel (MD c0 its (ew az)) B d up (jd (ew az) 0 s0 its) ρ G a w)->a.tmps.size=nt->Q .normal a w:=by
  rintro az a w hs hr ⟨G,gL⟩ lS
  have mf:=gone az hs hr
  rw[hc.last λm hm=>by rw[Nat.zero_add];exact mf m (by omega)]at gL
  refine hQ G a w (gL.mono λj hj=>?_) lS
  rcases hj with h1|⟨m,it,hm,_,_,h3⟩
  ·exact Nat.lt_of_lt_of_le h1 hc.le
  ·exact Nat.lt_of_lt_of_le h3 (hc.get m it hm).2.2.2
 intro vT
 induction vT with
 |zero=>
  intro az a w hs hf _ hr lS
  have h0:∀j,j<ops.size->ew az j=true:=by
   intro j hj
   have:=R4 az.toList (by omega) j (by simp;omega)
   unfold ew
   rw[Array.getD_eq_getD_getElem?,<-Array.getElem?_toList,this]
   rfl
  have Fh:Region.ready .any ops az=[]:=by
   cases hl:Region.ready .any ops az with
   |nil=>rfl
   |cons j l=>
    exfalso
    have hm:j∈Region.ready .any ops az:=by rw[hl];simp
    obtain⟨h1,o,ho,_⟩:=mem_ready.1 hm
    have hj:j<ops.size:=(Array.getElem?_eq_some_iff.1 ho).1
    have:=h0 j hj
    unfold ew at this
    rw[Array.getD_eq_getD_getElem?]at this h1
    rw[Array.getElem?_eq_getElem (by omega)]at this h1
    simp at this h1
    rw[this]at h1
    cases h1
  exact⟨Fh,fin az a w hs Fh hr lS⟩
 |succ vT ih=>
  intro az a w hs hf pK hr lS
  refine⟨λFh=>fin az a w hs Fh hr lS,λk hk=>?_⟩
  obtain⟨EW,o,ho,Fi⟩:=mem_ready.1 hk
  obtain⟨G,gL⟩:=hr
  have yQ:k<ops.size:=(Array.getElem?_eq_some_iff.1 ho).1
  have yR:k<az.size:=by omega
  have mV:ew az k=false:=by
   unfold ew
   rw[Array.getD_eq_getD_getElem?]at EW⊢
   rw[Array.getElem?_eq_getElem yR]at EW⊢
   simpa using EW
  obtain⟨it,qn⟩:∃it,its[k]?=some it:=⟨its[k]'(by omega),List.getElem?_eq_getElem (by omega)⟩
  obtain⟨b,hb⟩:∃b,(j_ [] ops.toList)[k]?=some b:=⟨_,List.getElem?_eq_getElem (by omega)⟩
  obtain⟨g1,g2,g3,g4⟩:=hc.get k it qn
  have vU:(its.map Item.tr)[k]?=some it.tr:=by rw[List.getElem?_map,qn];rfl
  have vV:∀e∈o.after.toList,Region.binds .any e=true->ew az e.on=true:=λe he CI=>Fi e (by simpa using he) CI
  have before:∀m' dZ,its[m']?=some dZ->m'<k->ew az m'=false->xw dZ.tr it.tr=true:=by
   intro m' dZ hm bH hd
   rcases I8 dL k m' it.tr dZ.tr b vU hb (by simpa using bH) (by rw[List.nil_append,List.getElem?_map,hm];rfl)with h1|h1
   ·rw[NP pK ho vV hb h1]at hd;cases hd
   ·exact h1
  have behind:∀m' dZ,its[m']?=some dZ->k<m'->ew az m'=true->xw it.tr dZ.tr=true:=by
   intro m' dZ hm bH hd
   have hml:m'<ops.size:=by rw[<-hlen];exact(List.getElem?_eq_some_iff.1 hm).1
   obtain⟨b',jU⟩:∃b',(j_ [] ops.toList)[m']?=some b':=⟨_,List.getElem?_eq_getElem (by omega)⟩
   rcases I8 dL m' k dZ.tr it.tr b' (by rw[List.getElem?_map,hm];rfl) jU (by simpa using bH) (by rw[List.nil_append];exact vU)with h1|h1
   ·rw[CH pK m' b' k hd jU h1]at mV;cases mV
   ·exact h1
  have nL:∀r∈it.rd,(jd (ew az) 0 s0 its).get r=(jd (λ_=>true) 0 s0 (its.take k)).get r:=by
   intro r hr
   refine CE rfl (by omega) (λm' dZ hm bH hd=>?_) (λm' dZ hm hle hd=>?_)
   ·rw[Nat.zero_add]at hd;exact(Fg (before m' dZ hm bH hd)).1 r hr
   ·rw[Nat.zero_add]at hd
    by_cases he:m'=k
    ·subst he;rw[mV]at hd;cases hd
    ·exact(Fg (behind m' dZ hm (by omega) hd)).2.2 r hr
  have rE:∀j,it.lo<=j->j<it.hi->¬MD c0 its (ew az) j:=by
   rintro j h1 h2 (h3|⟨m,dZ,hm,hd,h3,h4⟩)
   ·omega
   ·rcases Nat.lt_trichotomy m k with bH|heq|BM
    ·have:=hc.apart m k dZ it hm qn bH;omega
    ·subst heq;rw[mV]at hd;cases hd
    ·have:=hc.apart k m it dZ qn hm BM;omega
  rw[Nat.zero_add]at g1
  refine g1 (MD c0 its (ew az)) (jd (ew az) 0 s0 its) G a w _ nL gL lS rE λG' a' w' gJ yn=>?_
  have mg:=NR (i:=k) yR
  refine ih (az.setIfInBounds k true) a' w' (by simp[hs]) ?_ ?_ ?_ yn
  ·have:=I_ az.toList k (by
    unfold ew at mV
    rw[Array.getD_eq_getD_getElem?,<-Array.getElem?_toList]at mV
    rw[List.getElem?_eq_getElem (by simpa using yR)]at mV⊢
    simpa using mV)
   rw[Array.toList_setIfInBounds]
   omega
  ·rw[mg]
   intro j oj hj CJ e he CI
   unfold je at hj⊢
   by_cases Jb:j=k
   ·subst Jb
    rw[ho]at CJ
    cases CJ
    by_cases vW:e.on=j
    ·simp[vW]
    ·rw[if_neg vW];exact vV e he CI
   ·rw[if_neg Jb]at hj
    by_cases vW:e.on=k
    ·simp[vW]
    ·rw[if_neg vW];exact pK j oj hj CJ e he CI
  ·refine⟨G',?_⟩
   rw[mg]
   refine(gJ.mono ?_).congr λr=>?_
   ·rintro j (h1|⟨h1,h2⟩)
    ·rcases h1 with h1|⟨m,dZ,hm,hd,h3⟩
     ·exact .inl h1
     ·exact .inr ⟨m,dZ,hm,by unfold je;split<;>simp_all,h3⟩
    ·exact .inr ⟨k,it,qn,by simp[je],h1,h2⟩
   ·have:=CD (D:=ew az) (i:=0) qn (by rw[Nat.zero_add];exact mV) (s:=s0) (λm' dZ hm bH hd r=>by
     rw[Nat.zero_add]at hd
     rcases(Fg (behind m' dZ hm bH hd)).2.1 r with h1|h1
     ·exact .inr h1
     ·exact .inl h1) r
    rw[Nat.zero_add]at this
    exact this.symm
end
section
variable {B:dt} {f:Fr} {S:Nat->ay} {P:Program} {cx:Cx} {cn:lr} {bW dR:Nat} {R:Nat} {Q:Exit->Act->World->Prop} {ops:Array Oper} {out:List T} {K0:Zb}
theorem CK(E:Env P cx S)(hn:∀o∈ops.toList,∀n,o.dst=some n->n<f.nt){fin:List Tr->KP}{K:List ay}:
  ∀(os:List Oper) (i:Nat) (tr:List Tr) (lv:Nat) (s:St) (ct:Ct) (fs:gV) (p:PL) (ρ:List T),os <+:ops.toList.drop i->xE cx cn bW dR f.d ops true fin os i tr lv s ct fs=some p->
   p.den S R K ρ=some out->ρ.length=ct.a->cu fs ρ->∃its ff e s' gx p',its.length=os.length∧
    (∀e',fa (λi it s=>Ax P ops Q B f.d f.up f.nt (ρ++e++e') i it.rd it.wr it.lo it.hi s) i s ct.i its s' ff.i)∧
    fin (tr++its.map Item.tr) lv s' ff gx=some p'∧p'.den S R K (ρ++e)=some out∧(ρ++e).length=ff.a∧cu gx (ρ++e)
 | [],i,tr,lv,s,ct,fs,p,ρ,_,h,hp,hl,hf=>by
  refine⟨[],ct,[],s,fs,p,rfl,λe'=>.nil,?_,by rw[List.append_nil];exact hp,by rw[List.append_nil];exact hl,by rw[List.append_nil];exact hf⟩
  rw[List.map_nil,List.append_nil];exact h
 |o::os,i,tr,lv,s,ct,fs,p,ρ,yO,h,hp,hl,hf=>by
  obtain⟨te,mM⟩:=yO
  have ho:ops[i]?=some o:=by
   rw[<-Array.getElem?_toList]
   have:=congrArg (·[0]?) mM.symm
   simpa using this
  have eu:=hn o (List.mem_of_mem_drop (i:=i) (by rw[<-mM];simp))
  have yP:os <+:ops.toList.drop (i+1):=⟨te,by rw[<-List.drop_drop,<-mM];rfl⟩
  rcases I0 (P:=P) (Q:=Q) (B:=B) (up:=f.up) (nt:=f.nt) (R:=R) (K:=K) (out:=out) E ho eu (show u4 cx cn bW dR f.d ops true o i (xE cx cn bW dR f.d ops true fin os (i+1)) tr lv s ct fs=some p from h) hp hl hf with
   ⟨rd,wr,ff,e,gx,p',qn,hle,oC,yH,lk,Fe⟩|⟨hd,_⟩
  ·obtain⟨its,ct2,e2,s2,fs2,p2,q1,q2,q3,q4,q5,q6⟩:=CK E hn os (i+1) _ lv _ ff gx p' (ρ++e) yP oC yH lk Fe
   refine⟨⟨rd,wr,ct.i,ff.i⟩::its,ct2,e++e2,s2,fs2,p2,by simp[q1],λe'=>.cons ?_ rfl hle ?_,?_,by rw[<-List.append_assoc];exact q4,by rw[<-List.append_assoc];exact q5,by rw[<-List.append_assoc];exact q6⟩
   ·have:=qn (e2++e')
    simp only[List.append_assoc]at this⊢
    exact this
   ·have:=q2 e'
    simp only[List.append_assoc]at this⊢
    exact this
   ·simp only[List.map_cons,Item.tr]
    rw[List.append_assoc]at q3
    exact q3
  ·cases hd
theorem Rel.drew{M:Nat->Prop}{d:Nat}{up:Nat->Nat->Value}{s:St}{ρ:List T}{G:Gh}{a:Act}{w:World}(h:Rel M B d up s ρ G a w):Rel M B d up s ρ G a {w with drawn:=w.drawn+1}:=by
 have k:cB (λ_=>False) (λ_=>False) G w G {w with drawn:=w.drawn+1}:=⟨Nat.le_refl _,λ_ _ h=>⟨h,rfl⟩,λ_ _ h=>h,λ_ _ h _=>⟨h,rfl⟩,λ_ _=>⟨rfl,λ_ _=>rfl⟩⟩
 exact⟨λe n he=>(h.tm e n he).aG k λ_ _ hf=>hf,λb=>(h.bx b).aG k (λhf=>hf) (λhf=>hf) λ_ _ hf=>hf,λi=>(h.ob i).aG k (λ_ hf=>hf) (λhf=>hf) λ_ _ hf=>hf,h.eD,h.key,h.fg,h.dn,
  ⟨h.base.os,h.base.tape,h.base.output,h.base.size,h.base.free,h.base.wU,h.base.gl⟩,h.bt⟩
theorem R6(E:Env P cx S)(hI:vR P S R out B cn)(qi:P.follows .mixedOrders=true)(hn:∀o∈ops.toList,∀n,o.dst=some n->n<f.nt){id:Nat}{draw:Bool}{k:KP}(hk:tI S R out B f K0 k (Q .normal))
  {lv:Nat}{s:St}{ct:Ct}{fs:gV}{p:PL}{a:Act}{w:World}
  (h:xE cx cn bW dR f.d ops draw (λtr lv s ct fs=>bif draw then bif u0 [] tr (j_ [] ops.toList)&&sU 0 ops.toList then k lv s ct fs else some (.om (bW*100000000+100000+id) [])else k lv s ct fs) ops.toList 0 [] lv s ct fs=some p)
  (aR:At S R out B f K0 XT p lv s ct fs a w):(Code.region id ops draw).wp P Q a w:=by
 cases draw with
 |false=>
  refine wp_region ?_
  rw[List.range_eq_range',<-Array.length_toList]
  exact CB E hI hn (fin:=λtr lv s ct fs=>k lv s ct fs) (λtr=>hk) ops.toList 0 [] lv s ct fs p a w rfl h aR
 |true=>
  refine wp_region_any qi ?_
  obtain⟨K,ρ,G,h1,h2,h3,⟨e0,h0⟩,h4,h5,h6,h7,_⟩:=aR
  obtain⟨its,ff,e,s',gx,p',q1,q2,q3,q4,q5,q6⟩:=CK (Q:=Q) (B:=B) E hn ops.toList 0 [] lv s ct fs p ρ (List.prefix_refl _) h h1 h4 h5
  simp only[List.nil_append,cond_true]at q3
  cases hc:(u0 [] (its.map Item.tr) (j_ [] ops.toList)&&sU 0 ops.toList)with
  |false=>
   rw[hc]at q3
   simp only[cond_false,aJ]at q3
   subst q3
   cases q4
  |true=>
   rw[hc]at q3
   simp only[cond_true]at q3
   simp only[bB]at hc
   have Fj:=q2 []
   rw[List.append_nil]at Fj
   have cd:∀j,ew (Array.replicate ops.size false) j=false:=by
    intro j
    unfold ew
    rw[Array.getD_eq_getD_getElem?,Array.getElem?_replicate]
    split<;>rfl
   refine R5 (B:=B) Fj (by rw[q1];simp) hc.1 hc.2 (λG a w hr hs=>hk lv s' ff gx p' a w q3 ⟨K,ρ++e,G,q4,h2,h3,⟨e0++e,by rw[h0,List.append_assoc]⟩,q5,q6,hr,hs,trivial⟩) ops.size _ a _ (by simp)
    (by rw[Array.toList_replicate,NQ];exact Nat.le_refl _) (λj o hj=>by rw[cd j]at hj;cases hj) ⟨G,?_⟩ h7
   rw[CC λm _=>cd _]
   exact(h6.ext.drew).mono λi hi=>.inl hi
end
def Az(Q:Exit->Act->World->Prop):Exit->Act->World->Prop:=λe=>match e with| .normal=>Q .normal|_=>λ_ _=>False
theorem Jc{n i:Nat}(h:i<=n):(q8 n i).size=n:=by
 unfold q8;simp;omega
theorem yS{n i:Nat}(h:i<=n)(j:Nat):ew (q8 n i) j=decide (j<i):=by
 unfold ew q8
 rw[Array.getD_eq_getD_getElem?]
 simp only[List.getElem?_toArray]
 by_cases h1:j<i
 ·rw[List.getElem?_append_left (by simpa using h1)]
  simp[h1]
 ·rw[List.getElem?_append_right (by simp;omega)]
  simp only[List.length_replicate,List.getElem?_replicate]
  by_cases h2:j-i<n-i
  ·simp[h1,h2]
  ·simp[h1,h2]
theorem R7{n i:Nat}(h:i<n):(q8 n i).setIfInBounds i true=q8 n (i+1):=by
 apply Array.ext
 ·rw[Array.size_setIfInBounds,Jc (by omega),Jc (by omega)]
 ·intro j h1 h2
  have e1:=yS (n:=n) (i:=i) (by omega) j
  have e2:=yS (n:=n) (i:=i+1) (by omega) j
  rw[Array.size_setIfInBounds]at h1
  rw[Array.getElem_setIfInBounds h1]
  unfold ew at e1 e2
  rw[Array.getD_eq_getD_getElem?,Array.getElem?_eq_getElem h1,Option.getD_some]at e1
  rw[Array.getD_eq_getD_getElem?,Array.getElem?_eq_getElem h2,Option.getD_some]at e2
  rw[e1,e2]
  split
  ·simp;omega
  ·by_cases h3:j<i
   ·simp[h3];omega
   ·simp[h3];omega
theorem Jd{l:Array Bool}{j:Nat}(h:j<l.size):l.getD j true=ew l j:=by
 unfold ew
 rw[Array.getD_eq_getD_getElem?,Array.getD_eq_getD_getElem?,Array.getElem?_eq_getElem h]
 rfl
theorem Fk{ops:Array Oper}{l:Array Bool}(hs:l.size=ops.size){j:Nat}:j∈Region.ready .any ops l↔ew l j=false∧∃o,ops[j]?=some o∧∀e∈o.after.toList,Region.binds .any e=true->ew l e.on=true:=by
 rw[mem_ready]
 constructor
 ·rintro⟨h1,o,ho,h2⟩
  have hj:j<ops.size:=(Array.getElem?_eq_some_iff.1 ho).1
  exact⟨by rw[<-Jd (by omega)];exact h1,o,ho,λe he hb=>h2 e (by simpa using he) hb⟩
 ·rintro⟨h1,o,ho,h2⟩
  have hj:j<ops.size:=(Array.getElem?_eq_some_iff.1 ho).1
  exact⟨by rw[Jd (by omega)];exact h1,o,ho,λe he hb=>h2 e (by simpa using he) hb⟩
theorem R8{ops:Array Oper}(sr:sU 0 ops.toList=true){i:Nat}(hi:i<=ops.size):Ay ops (ew (q8 ops.size i)):=by
 intro j o hj ho e he hb
 rw[yS hi]at hj⊢
 have:=vS sr j o (by simpa using ho) e he hb
 simp only[decide_eq_true_eq]at hj⊢
 omega
structure yT (ops:Array Oper) (c:Nat) (h:Bool):Prop where
 lt:c<ops.size
 bits:∀j,c<=j->j<ops.size->∀u,u<j->(h=true∧u=0)∨Nat.testBit ((j_ [] ops.toList).getD j 0) u=true
 Je:h=true->Bk ops=true
 pos:h=true->0<c
theorem R9{ops:Array Oper}{c:Nat}{h:Bool}(hc:xM ops c h=true):yT ops c h:=by
 unfold xM at hc
 simp only[bB,List.all_eq_true,Bool.or_eq_true,Bool.not_eq_true']at hc
 obtain⟨⟨h1,h2⟩,h3⟩:=hc
 have h1:c<ops.size:=Nat.lt_of_succ_le (by simpa[Nat.blt]using h1)
 refine⟨h1,λj hj hn u hu=>?_,λhh=>?_,λhh=>?_⟩
 ·have:=h2 j (by rw[List.mem_range'_1];omega) u (by simpa using hu)
  rcases this with h|h
  ·exact .inl ⟨h.1,cK h.2⟩
  ·exact .inr h
 ·rcases h3 with h3|h3
  ·rw[hh]at h3;cases h3
  ·exact h3.1
 ·rcases h3 with h3|h3
  ·rw[hh]at h3;cases h3
  ·exact Nat.lt_of_succ_le (by simpa[Nat.blt]using h3.2)
section
variable {B:dt} {f:Fr} {S:Nat->ay} {P:Program} {cx:Cx} {cn:lr} {bW dR:Nat} {R:Nat} {Q:Exit->Act->World->Prop} {ops:Array Oper} {out:List T} {K0:Zb}
theorem Jf{j:Nat}(hj:j<ops.size):(j_ [] ops.toList)[j]?=some ((j_ [] ops.toList).getD j 0):=by
 have hl:(j_ [] ops.toList).length=ops.size:=by rw[NO];simp
 rw[List.getD_eq_getElem?_getD,List.getElem?_eq_getElem (by omega)]
 rfl
theorem R_{c:Nat}{h:Bool}(hc:yT ops c h)(sr:sU 0 ops.toList=true){i:Nat}(hi:c<=i)(hn:i<ops.size):Region.ready .any ops (q8 ops.size i)=[i]:=by
 have hs:=Jc (n:=ops.size) (i:=i) (by omega)
 have gX:∀j,j∈Region.ready .any ops (q8 ops.size i)↔j=i:=by
  intro j
  rw[Fk hs]
  constructor
  ·rintro⟨h1,o,ho,h2⟩
   have hj:j<ops.size:=(Array.getElem?_eq_some_iff.1 ho).1
   rw[yS (by omega)]at h1
   simp only[decide_eq_false_iff_not]at h1
   refine Classical.byContradiction λcP=>?_
   rcases hc.bits j (by omega) hj i (by omega)with⟨hh,h0⟩|hb
   ·have:=hc.pos hh;omega
   ·have:=NP (R8 sr (by omega)) ho h2 (Jf hj) hb
    rw[yS (by omega)]at this
    simp at this
  ·rintro rfl
   refine⟨by rw[yS (by omega)];simp,ops[j],Array.getElem?_eq_getElem hn,λe he hb=>?_⟩
   rw[yS (by omega)]
   have:=vS sr j ops[j] (by simp) e he hb
   simp;omega
 have xf:(Region.ready .any ops (q8 ops.size i)).Nodup:=by
  unfold Region.ready
  exact List.Nodup.sublist List.filter_sublist List.nodup_range
 generalize Region.ready .any ops (q8 ops.size i)=l at gX xf
 match l,gX,xf with
 | [],hm,_=>have:=(hm i).2 rfl;cases this
 | [x],hm,_=>rw[(hm x).1 (by simp)]
 |x::y::l,hm,hd=>
  have h1:=(hm x).1 (by simp)
  have h2:=(hm y).1 (by simp)
  rw[h1,h2]at hd
  simp at hd
theorem Jg{c:Nat}{h:Bool}(hc:yT ops c h)(sr:sU 0 ops.toList=true):∀(d i:Nat) (a:Act) (w:World),c<=i->i+d=ops.size->wpOps P ops Q (List.range' i d) a w->wpAny P .any ops Q d (q8 ops.size i) a w
 |0,i,a,w,hi,hd,hw=>by
  refine wpAny_done ?_ hw 0
  refine List.eq_nil_iff_forall_not_mem.2 λj hj=>?_
  rw[Fk (Jc (by omega))]at hj
  obtain⟨h1,o,ho,_⟩:=hj
  have:=(Array.getElem?_eq_some_iff.1 ho).1
  rw[yS (by omega)]at h1
  simp at h1
  omega
 |d+1,i,a,w,hi,hd,hw=>by
  refine wpAny_all (R_ hc sr hi (by omega)) (by simp) λk hk=>?_
  rw[List.mem_singleton]at hk
  subst hk
  rw[List.range'_succ,wpOps_cons]at hw
  rw[R7 (by omega)]
  exact wpOp_mono (λa w h=>Jg hc sr d (k+1) a w (by omega) (by omega) h) hw
theorem Jh:∀{l:List Bool},(∀i,i<l.length->l[i]?=some true)->qN l=0
 | [],_=>rfl
 |b::l,h=>by
  have h0:=h 0 (by simp)
  simp at h0
  subst h0
  have:=Jh (l:=l) λi hi=>by have:=h (i+1) (by simp;omega);simpa using this
  simpa[qN]using this
theorem Ji{d:Nat}{up:Nat->Nat->Value}{nt:Nat}{ρ:List T}{its:List Item}{s0 s1:St}{c0 c1 c:Nat}(hc:fa (λi it s=>Ax P ops Q B d up nt ρ i it.rd it.wr it.lo it.hi s) 0 s0 c0 its s1 c1)(hlen:its.length=c)(hcn:c<=ops.size)
  (dL:u0 [] (its.map Item.tr) (j_ [] ops.toList)=true){az:Array Bool}{a:Act}{w:World}{k:Nat}(hs:az.size=ops.size)(pK:Ay ops (ew az))
  (hr:∃G,Rel (MD c0 its (ew az)) B d up (jd (ew az) 0 s0 its) ρ G a w)(lS:a.tmps.size=nt)(hk:k∈Region.ready .any ops az)(hkc:k<c){K:Act->World->Prop}
  (hK:∀a' w',Ay ops (ew (az.setIfInBounds k true))->(∃G,Rel (MD c0 its (ew (az.setIfInBounds k true))) B d up (jd (ew (az.setIfInBounds k true)) 0 s0 its) ρ G a' w')->a'.tmps.size=nt->K a' w'):wpOp P ops Q k K a w:=by
 have Ja:(j_ [] ops.toList).length=ops.size:=by rw[NO];simp
 obtain⟨mV,o,ho,vV⟩:=(Fk hs).1 hk
 obtain⟨G,gL⟩:=hr
 have yQ:k<ops.size:=(Array.getElem?_eq_some_iff.1 ho).1
 have yR:k<az.size:=by omega
 obtain⟨it,qn⟩:∃it,its[k]?=some it:=⟨its[k]'(by omega),List.getElem?_eq_getElem (by omega)⟩
 obtain⟨b,hb⟩:∃b,(j_ [] ops.toList)[k]?=some b:=⟨_,List.getElem?_eq_getElem (by omega)⟩
 obtain⟨g1,g2,g3,g4⟩:=hc.get k it qn
 have vU:(its.map Item.tr)[k]?=some it.tr:=by rw[List.getElem?_map,qn];rfl
 have before:∀m' dZ,its[m']?=some dZ->m'<k->ew az m'=false->xw dZ.tr it.tr=true:=by
  intro m' dZ hm bH hd
  rcases I8 dL k m' it.tr dZ.tr b vU hb (by simpa using bH) (by rw[List.nil_append,List.getElem?_map,hm];rfl)with h1|h1
  ·rw[NP pK ho vV hb h1]at hd;cases hd
  ·exact h1
 have behind:∀m' dZ,its[m']?=some dZ->k<m'->ew az m'=true->xw it.tr dZ.tr=true:=by
  intro m' dZ hm bH hd
  have hml:m'<ops.size:=by have:=(List.getElem?_eq_some_iff.1 hm).1;omega
  obtain⟨b',jU⟩:∃b',(j_ [] ops.toList)[m']?=some b':=⟨_,List.getElem?_eq_getElem (by omega)⟩
  rcases I8 dL m' k dZ.tr it.tr b' (by rw[List.getElem?_map,hm];rfl) jU (by simpa using bH) (by rw[List.nil_append];exact vU)with h1|h1
  ·rw[CH pK m' b' k hd jU h1]at mV;cases mV
  ·exact h1
 have nL:∀r∈it.rd,(jd (ew az) 0 s0 its).get r=(jd (λ_=>true) 0 s0 (its.take k)).get r:=by
  intro r hr
  refine CE rfl (by omega) (λm' dZ hm bH hd=>?_) (λm' dZ hm hle hd=>?_)
  ·rw[Nat.zero_add]at hd;exact(Fg (before m' dZ hm bH hd)).1 r hr
  ·rw[Nat.zero_add]at hd
   by_cases he:m'=k
   ·subst he;rw[mV]at hd;cases hd
   ·exact(Fg (behind m' dZ hm (by omega) hd)).2.2 r hr
 have rE:∀j,it.lo<=j->j<it.hi->¬MD c0 its (ew az) j:=by
  rintro j h1 h2 (h3|⟨m,dZ,hm,hd,h3,h4⟩)
  ·omega
  ·rcases Nat.lt_trichotomy m k with bH|heq|BM
   ·have:=hc.apart m k dZ it hm qn bH;omega
   ·subst heq;rw[mV]at hd;cases hd
   ·have:=hc.apart k m it dZ qn hm BM;omega
 rw[Nat.zero_add]at g1
 refine g1 (MD c0 its (ew az)) (jd (ew az) 0 s0 its) G a w _ nL gL lS rE λG' a' w' gJ yn=>?_
 have mg:=NR (i:=k) yR
 refine hK a' w' ?_ ?_ yn
 ·rw[mg]
  intro j oj hj CJ e he CI
  unfold je at hj⊢
  by_cases Jb:j=k
  ·subst Jb
   rw[ho]at CJ
   cases CJ
   by_cases vW:e.on=j
   ·simp[vW]
   ·rw[if_neg vW];exact vV e he CI
  ·rw[if_neg Jb]at hj
   by_cases vW:e.on=k
   ·simp[vW]
   ·rw[if_neg vW];exact pK j oj hj CJ e he CI
 ·refine⟨G',?_⟩
  rw[mg]
  refine(gJ.mono ?_).congr λr=>?_
  ·rintro j (h1|⟨h1,h2⟩)
   ·rcases h1 with h1|⟨m,dZ,hm,hd,h3⟩
    ·exact .inl h1
    ·exact .inr ⟨m,dZ,hm,by unfold je;split<;>simp_all,h3⟩
   ·exact .inr ⟨k,it,qn,by simp[je],h1,h2⟩
  ·have:=CD (D:=ew az) (i:=0) qn (by rw[Nat.zero_add];exact mV) (s:=s0) (λm' dZ hm bH hd r=>by
    rw[Nat.zero_add]at hd
    rcases(Fg (behind m' dZ hm bH hd)).2.1 r with h1|h1
    ·exact .inr h1
    ·exact .inl h1) r
   rw[Nat.zero_add]at this
   exact this.symm
theorem R'{d:Nat}{up:Nat->Nat->Value}{nt:Nat}{ρ:List T}{its:List Item}{s0 s1:St}{c0 c1 c:Nat}{h:Bool}(ss:yT ops c h)(hc:fa (λi it s=>Ax P ops Q B d up nt ρ i it.rd it.wr it.lo it.hi s) 0 s0 c0 its s1 c1)(hlen:its.length=c)
  (dL:u0 [] (its.map Item.tr) (j_ [] ops.toList)=true)(sr:sU 0 ops.toList=true)(hK:∀G a w,Rel (λi=>i<c1) B d up s1 ρ G a w->a.tmps.size=nt->wpAny P .any ops Q (ops.size-c) (q8 ops.size c) a w):
  ∀(m:Nat) (az:Array Bool) (a:Act) (w:World),az.size=ops.size->qN (az.toList.take c)=m->(∀j,c<=j->ew az j=false)->(h=true->ew az 0=true)->Ay ops (ew az)->
   (∃G,Rel (MD c0 its (ew az)) B d up (jd (ew az) 0 s0 its) ρ G a w)->a.tmps.size=nt->wpAny P .any ops Q (m+(ops.size-c)) az a w:=by
 have hcn:=ss.lt
 have at_:∀(az:Array Bool) (j:Nat),az.size=ops.size->j<c->(az.toList.take c)[j]?=some (ew az j):=by
  intro az j hs hj
  rw[List.getElem?_take_of_lt hj,Array.getElem?_toList]
  unfold ew
  rw[Array.getD_eq_getD_getElem?,Array.getElem?_eq_getElem (by omega)]
  rfl
 intro m
 induction m with
 |zero=>
  intro az a w hs hf hz _ pK hr lS
  have mf:∀j,j<c->ew az j=true:=by
   intro j hj
   have:=R4 _ hf j (by simp;omega)
   rw[at_ az j hs hj]at this
   simpa using this
  have hl:az=q8 ops.size c:=by
   apply Array.ext
   ·rw[hs,Jc (by omega)]
   ·intro j h1 h2
    have e2:=yS (n:=ops.size) (i:=c) (by omega) j
    have e1:ew az j=decide (j<c):=by
     by_cases hj:j<c
     ·rw[mf j hj];simp[hj]
     ·rw[hz j (by omega)];simp[hj]
    unfold ew at e1 e2
    rw[Array.getD_eq_getD_getElem?,Array.getElem?_eq_getElem h1,Option.getD_some]at e1
    rw[Array.getD_eq_getD_getElem?,Array.getElem?_eq_getElem h2,Option.getD_some]at e2
    rw[e1,e2]
  obtain⟨G,gL⟩:=hr
  rw[hc.last λm hm=>by rw[Nat.zero_add];exact mf m (by omega)]at gL
  rw[Nat.zero_add]
  have:=hK G a w (gL.mono λj hj=>by
   rcases hj with h1|⟨m,it,hm,_,_,h3⟩
   ·exact Nat.lt_of_lt_of_le h1 hc.le
   ·exact Nat.lt_of_lt_of_le h3 (hc.get m it hm).2.2.2) lS
  rw[hl]
  exact this
 |succ m ih=>
  intro az a w hs hf hz hh pK hr lS
  rw[show m+1+(ops.size-c)=(m+(ops.size-c))+1 by omega]
  refine⟨λFh=>?_,λk hk=>?_⟩
  ·exfalso
   have gone:∀j,j<ops.size->ew az j=true:=by
    intro j
    induction j using Nat.strongRecOn with
    |_ j ihj=>
     intro hj
     cases hd:ew az j with
     |true=>rfl
     |false=>
      exfalso
      have:j∈Region.ready .any ops az:=(Fk hs).2 ⟨hd,ops[j],Array.getElem?_eq_getElem hj,λe he hb=>by
       have bH:=vS sr j ops[j] (by simp) e he hb
       exact ihj e.on (by omega) (by omega)⟩
      rw[Fh]at this
      cases this
   have:=gone c hcn
   rw[hz c (by omega)]at this
   cases this
  ·obtain⟨mV,o,ho,Fi⟩:=(Fk hs).1 hk
   have yQ:k<ops.size:=(Array.getElem?_eq_some_iff.1 ho).1
   by_cases hkc:c<=k
   ·exfalso
    have:qN (az.toList.take c)=0:=Jh λj hj=>by
     have hj:j<c:=by simp at hj;omega
     rw[at_ az j hs hj]
     congr 1
     rcases ss.bits k hkc yQ j (by omega)with⟨h1,rfl⟩|hb
     ·exact hh h1
     ·exact NP pK ho Fi (Jf yQ) hb
    omega
   ·refine Ji hc hlen (by omega) dL hs pK hr lS hk (by omega) λa' w' CL gJ CM=>?_
    have yR:k<az.size:=by omega
    have mg:=NR (i:=k) yR
    refine ih (az.setIfInBounds k true) a' w' (by simp[hs]) ?_ (λj hj=>?_) (λh1=>?_) CL gJ CM
    ·have:=I_ (az.toList.take c) k (by rw[at_ az k hs (by omega),mV])
     rw[Array.toList_setIfInBounds,List.take_set]
     omega
    ·rw[mg];unfold je
     rw[if_neg (by omega)]
     exact hz j hj
    ·rw[mg];unfold je
     split
     ·rfl
     ·exact hh h1
theorem Jj(E:Env P cx S)(hI:vR P S R out B cn)(qi:P.follows .mixedOrders=true)(hn:∀o∈ops.toList,∀n,o.dst=some n->n<f.nt){id:Nat}{draw:Bool}{k:KP}(hk:tI S R out B f K0 k (Q .normal))
  {lv:Nat}{s:St}{ct:Ct}{fs:gV}{p:PL}{a:Act}{w:World}(h:xN cx cn bW id f.d ops draw k lv s ct fs=some p)(aR:At S R out B f K0 XT p lv s ct fs a w):(Code.region id ops draw).wp P Q a w:=by
 unfold xN at h
 split at h
 ·exact R6 E hI qi hn hk h aR
 rename_i c hh Sa
 cases draw with
 |false=>cases Sa
 |true=>
 refine Code.wp_mono (Q:=Az Q) (λe a w h=>by cases e<;>first|exact h|exact h.elim) ?_
 refine wp_region_any qi ?_
 obtain⟨K,ρ,G,h1,h2,h3,⟨e0,h0⟩,h4,h5,h6,h7,_⟩:=aR
 obtain⟨its,ff,e,s',gx,p',q1,q2,q3,q4,q5,q6⟩:=CK (Q:=Az Q) (B:=B) E hn (ops.toList.take c) 0 [] lv s ct fs p ρ (List.take_prefix c _) h h1 h4 h5
 simp only[List.nil_append]at q3
 cases hc:(u0 [] (its.map Item.tr) (j_ [] ops.toList)&&(sU 0 ops.toList&&xM ops c hh))with
 |false=>
  rw[hc]at q3
  simp only[cond_false,aJ]at q3
  subst q3
  cases q4
 |true=>
 rw[hc]at q3
 simp only[cond_true]at q3
 simp only[bB]at hc
 obtain⟨dL,sr,hcu⟩:=hc
 have ss:=R9 hcu
 have pK:=ss.lt
 have Fj:=q2 []
 rw[List.append_nil]at Fj
 have hlen:its.length=c:=by rw[q1,List.length_take,Array.length_toList];omega
 have hK:∀G a w,Rel (λi=>i<ff.i) B f.d f.up s' (ρ++e) G a w->a.tmps.size=f.nt->wpAny P .any ops (Az Q) (ops.size-c) (q8 ops.size c) a w:=λG a w hr hs=>by
  have:=CB (Q:=Az Q) (K0:=K0) E hI hn (fin:=λ_=>k) (λ_=>hk) (ops.toList.drop c) c [] lv s' ff gx p' a w rfl q3 ⟨K,ρ++e,G,q4,h2,h3,⟨e0++e,by rw[h0,List.append_assoc]⟩,q5,q6,hr,hs,trivial⟩
  rw[List.length_drop,Array.length_toList]at this
  exact Jg ss sr (ops.size-c) c a w (Nat.le_refl _) (by omega) this
 have main:=R' ss Fj hlen dL sr hK
 have cd:∀j,ew (Array.replicate ops.size false) j=false:=by
  intro j
  unfold ew
  rw[Array.getD_eq_getD_getElem?,Array.getElem?_replicate]
  split<;>rfl
 have Jk:Ay ops (ew (Array.replicate ops.size false)):=λj o hj=>by rw[cd j]at hj;cases hj
 have gL:∃G,Rel (MD ct.i its (ew (Array.replicate ops.size false))) B f.d f.up (jd (ew (Array.replicate ops.size false)) 0 s its) (ρ++e) G a {w with drawn:=w.drawn+1}:=by
  refine⟨G,?_⟩
  rw[CC λm _=>cd _]
  exact(h6.ext.drew).mono λi hi=>.inl hi
 cases hh with
 |false=>
  have:=main c (Array.replicate ops.size false) a _ (by simp) (by rw[Array.toList_replicate,List.take_replicate,NQ];omega) (λj _=>cd j) (by simp) Jk gL h7
  rw[show c+(ops.size-c)=ops.size by omega]at this
  exact this
 |true=>
  have CN:=ss.pos rfl
  have yU:=ss.Je rfl
  unfold Bk at yU
  split at yU
  ·cases yU
  rename_i o os yO
  simp only[bB,List.all_eq_true,Option.isNone_iff_eq_none,Bool.or_eq_true,List.any_eq_true,Bool.not_eq_true']at yU
  obtain⟨⟨⟨⟨Sb,hgu⟩,pL⟩,haf⟩,hap⟩:=yU
  have Sc:ops[0]?=some o:=by rw[<-Array.getElem?_toList,yO];rfl
  obtain⟨x,hx⟩:∃x,o.op=.move x:=by
   revert pL
   cases o.op<;>intro pL<;>first|exact⟨_,rfl⟩|cases pL
  have c_:∀w,(execOp a.eval o).run P w=.ok (.value (a.eval x)) w:=λw=>by unfold execOp;rw[hx];rfl
  have AA:Region.wanted o (yielded ops a.tmps)=true:=by unfold Region.wanted;rw[hgu]
  have vX:0∈Region.ready .any ops (Array.replicate ops.size false):=(Fk (by simp)).2 ⟨cd 0,o,Sc,λe he hb=>by rw[haf e he]at hb;cases hb⟩
  have dl:wpOp P ops (Az Q) 0 (wpAny P .any ops (Az Q) (ops.size-1) ((Array.replicate ops.size false).setIfInBounds 0 true)) a {w with drawn:=w.drawn+1}:=by
   refine Ji Fj hlen (by omega) dL (by simp) Jk gL h7 vX CN λa' w' CL gJ CM=>?_
   have mg:=NR (az:=Array.replicate ops.size false) (i:=0) (by simp;omega)
   have:=main (c-1) ((Array.replicate ops.size false).setIfInBounds 0 true) a' w' (by simp) ?_ (λj hj=>?_) (λ_=>?_) CL gJ CM
   ·rw[show c-1+(ops.size-c)=ops.size-1 by omega]at this
    exact this
   ·have h9:=I_ (List.replicate c false) 0 (by rw[List.getElem?_replicate];simp;omega)
    rw[NQ]at h9
    rw[Array.toList_setIfInBounds,Array.toList_replicate,List.take_set,List.take_replicate,Nat.min_eq_left (by omega)]
    omega
   ·rw[mg];unfold je
    rw[if_neg (by omega)]
    exact cd j
   ·rw[mg];simp[je]
  have j4:wpAny P .any ops (Az Q) (ops.size-1) ((Array.replicate ops.size false).setIfInBounds 0 true) (a.put o.dst (a.eval x)) {w with drawn:=w.drawn+1}:=by
   unfold wpOp at dl
   simp only[Sc,AA,if_true]at dl
   rcases dl with dl|⟨_,a0,w0,hf⟩
   ·simp only[Oper.wp,c_]at dl
    exact dl
   ·exact hf.elim
  have Jl:=wpAny_first (md:=.any) (Q:=Az Q) Sc (λj oj cs b hj heq=>by
    have hm:oj∈o::os:=by rw[<-yO];exact List.mem_of_getElem? (by rw[Array.getElem?_toList];exact hj)
    have:=Sb oj hm
    rw[heq]at this
    cases this) (λc a w h=>h.elim) (ops.size-1) (Array.replicate ops.size false) a {w with drawn:=w.drawn+1} (λj oj hj cP _ P9=>by
    have hm:oj∈os:=by
     have:ops.toList[j]?=some oj:=by rw[Array.getElem?_toList];exact hj
     rw[yO]at this
     obtain⟨j',rfl⟩:∃j',j=j'+1:=⟨j-1,by omega⟩
     exact List.mem_of_getElem? (by simpa using this)
    rcases hap oj hm with⟨e,he,hb⟩|hb
    ·exact absurd (cK hb.2) (P9 e (by simpa using he) hb.1)
    ·exact hb) vX (.inl ⟨AA,c_⟩) j4
  rw[show ops.size-1+1=ops.size by omega]at Jl
  exact Jl
end
end Go.Proofs.YtbhplkilhknciaaC

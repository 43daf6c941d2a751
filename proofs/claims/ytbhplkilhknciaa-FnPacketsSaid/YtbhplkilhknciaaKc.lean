/- The walk by reflection: a part of its laws, for any function. Conditions: none. -/
import Derived.Test.YtbhplkilhknciaaKb
namespace Go.Proofs.YtbhplkilhknciaaC
set_option linter.unusedVariables false
section
variable {M:Nat->Prop} {B:dE} {d:Nat} {up:Nat->Nat->Value} {ρ:List T} {G:Gh} {a:Act} {w:World} {S:Nat->ai} {P:Program}
variable {cx:Cx} {bY dS oi:Nat} {s:St} {R:List aK} {ct:Ct} {k':Wk} {o:Oper} {Q:Exit->Act->World->Prop}
def qy(ω:Nat->Option Lb)(w:World)(ρ:List T)(dp:Bool):List Ce->List Lf->List Value->Prop
 | [],[],[]=>True
 |z::zs,x::xs,v::vs=>(∃t,x.eE ρ=some t∧dF ω w t v∧(dp=true->dU z=true->t=.l []∧v=.slice none 0 0))∧qy ω w ρ dp zs xs vs
 |_,_,_=>False
theorem qy.aF{ω sN:Nat->Option Lb}{w':World}(hs:w.heap.size<=w'.heap.size)(hf:∀b,b<w.heap.size->ω b=none->sN b=none∧w'.heap[b]?=w.heap[b]?){dp sk:Bool}(hd:sk=true->dp=true):
  ∀{zs:List Ce} {xs:List Lf} {vs:List Value},qy ω w ρ dp zs xs vs->qy sN w' ρ sk zs xs vs
 | [],[],[],_=>trivial
 |_::_,_::_,_::_,h=>by
  obtain⟨⟨t,h1,h2,h3⟩,h4⟩:=h
  exact⟨⟨t,h1,h2.aF hs hf,λe=>h3 (hd e)⟩,qy.aF hs hf hd h4⟩
 | [],[],_::_,h=>h.elim
 | [],_::_,_,h=>h.elim
 |_::_,[],_,h=>h.elim
 |_::_,_::_,[],h=>h.elim
theorem Kd:∀{zs cs:List Ce} {vs:List Value} {k k1:Wk} {xs:List Lf} {dp:Bool} {G1:Gh},cG M B d up ρ G a w k G1->aE G1 w ρ cs vs->k.ez true zs cs=some (k1,xs,dp)->
  k1.ct=k.ct∧k1.is=k.is∧xs.length=zs.length∧∃G2,cG M B d up ρ G a w k1 G2∧G2.H=G1.H∧(∀b,G1.q b=none->G2.q b=none)∧qy G2.q w ρ dp zs xs vs
 | [],[],vs,k,k1,xs,dp,G1,hk,hr,h=>by
  simp only[Wk.ez,aH,Prod.mk.injEq]at h
  obtain⟨rfl,rfl,rfl⟩:=h
  cases vs with
  |nil=>exact⟨rfl,rfl,rfl,G1,hk,rfl,λ_ h=>h,trivial⟩
  |cons _ _=>exact hr.elim
 |z::zs,.p x::cs,vs,k,k1,xs,dp,G1,hk,hr,h=>by
  cases vs with
  |nil=>exact hr.elim
  |cons v vs=>
   simp only[Wk.ez,bU,aH,Prod.mk.injEq]at h
   obtain⟨⟨k2,ys,Uh⟩,h2,rfl,rfl,rfl⟩:=h
   obtain⟨e1,e2,e3,G2,w2,e4,e5,e6⟩:=Kd hk hr.2 h2
   obtain⟨t,ht,hd⟩:=hr.1
   refine⟨e1,e2,by simp[e3],G2,w2,e4,e5,⟨t,ht,hd.aF (Nat.le_refl _) λb _ hb=>⟨e5 b hb,rfl⟩,λeV hz=>by simp[hz]at eV⟩,e6.aF (Nat.le_refl _) (λb _ hb=>⟨hb,rfl⟩) λeV=>by simp at eV;exact eV.1⟩
 |z::zs,.n::cs,vs,k,k1,xs,dp,G1,hk,hr,h=>by
  cases vs with
  |nil=>exact hr.elim
  |cons v vs=>
   simp only[Wk.ez,bU,aH,Prod.mk.injEq]at h
   obtain⟨⟨k2,ys,Uh⟩,h2,rfl,rfl,rfl⟩:=h
   obtain⟨e1,e2,e3,G2,w2,e4,e5,e6⟩:=Kd hk hr.2 h2
   have hv:v=.slice none 0 0:=hr.1
   subst hv
   exact⟨e1,e2,by simp[e3],G2,w2,e4,e5,⟨.l [],rfl,.nil,λ_ _=>⟨rfl,rfl⟩⟩,e6⟩
 |z::zs,.o id []::cs,vs,k,k1,xs,dp,G1,hk,hr,h=>by
  cases vs with
  |nil=>exact hr.elim
  |cons v vs=>
   obtain⟨⟨p,hp,hv⟩,rz⟩:=hr
   simp only[lu,aH]at hp
   subst hp
   have c_:=hk.obj id
   simp only[Wk.ez]at h
   split at h
   ·rename_i pv x hx
    simp only[bU,aH,Prod.mk.injEq]at h
    obtain⟨⟨k2,ys,Uh⟩,h2,rfl,rfl,rfl⟩:=h
    obtain⟨e1,e2,e3,G2,w2,e4,e5,e6⟩:=Kd hk rz h2
    rw[hx]at c_
    obtain⟨t,ht,hd,_⟩:=c_
    rw[<-hv]at hd
    exact⟨e1,e2,by simp[e3],G2,w2,e4,e5,⟨t,ht,hd.aF (Nat.le_refl _) λb _ hb=>⟨e5 b hb,rfl⟩,λeV=>by cases eV⟩,e6.aF (Nat.le_refl _) (λb _ hb=>⟨hb,rfl⟩) λeV=>by cases eV⟩
   ·rename_i dd x hx
    simp only[cond_true,bU,aH,Prod.mk.injEq]at h
    obtain⟨⟨k2,ys,Uh⟩,h2,rfl,rfl,rfl⟩:=h
    have J1:=hx
    rw[Wk.aD]at J1
    have wt:cG M B d up ρ G a w (k.set (.o id) (.fz .z x)) (G1.free id true):=by
     refine⟨(hk.rel.lj J1).congr (Cc _ _ _ _),(hk.aF.mono (λl hl=>Cb hl) λ_ hn=>hn).trans ((G1.ek id true w).mono ?_ λ_ hn=>hn)⟩
     rintro l ⟨p,rfl⟩
     show(k.w.set _ _).look (.o id)≠none
     rw[St.aJ];simp
    rw[hx]at c_
    obtain⟨t,ht,aW⟩:=c_
    have hd:dF (G1.free id true).q w t v:=by rw[hv];exact aW.tU
    have yH:aE (G1.free id true) w ρ cs vs:=rz.aF (G1.ek id true w) λ_ _ hf=>hf
    obtain⟨e1,e2,e3,G2,w2,e4,e5,e6⟩:=Kd wt yH h2
    exact⟨e1,e2,by simp[e3],G2,w2,e4,λb hb=>e5 b (Gh.oA hb),⟨t,ht,hd.aF (Nat.le_refl _) λb _ hb=>⟨e5 b hb,rfl⟩,λeV=>by cases eV⟩,e6.aF (Nat.le_refl _) (λb _ hb=>⟨hb,rfl⟩) λeV=>by cases eV⟩
   ·cases h
 | [],_::_,vs,k,k1,xs,dp,G1,hk,hr,h=>by simp[Wk.ez]at h
 |_::_,[],vs,k,k1,xs,dp,G1,hk,hr,h=>by simp[Wk.ez]at h
 |z::zs,.o id (_::_)::cs,vs,k,k1,xs,dp,G1,hk,hr,h=>by simp[Wk.ez]at h
 |z::zs,.d::cs,vs,k,k1,xs,dp,G1,hk,hr,h=>by simp[Wk.ez]at h
theorem qy.at:∀{ω:Nat->Option Lb} {dp:Bool} {zs:List Ce} {xs:List Lf} {vs:List Value},qy ω w ρ dp zs xs vs->xs.length=vs.length∧zs.length=vs.length∧
  ∀(j:Nat) (t:T),(xs.map (Lf.ev ρ))[j]?=some t->∃z v,zs[j]?=some z∧vs[j]?=some v∧dF ω w t v∧(dp=true->dU z=true->t=.l []∧v=.slice none 0 0)
 |_,_,[],[],[],_=>⟨rfl,rfl,λj t h=>by simp at h⟩
 |ω,dp,z::zs,x::xs,v::vs,h=>by
  obtain⟨⟨t,h1,h2,h3⟩,h4⟩:=h
  obtain⟨e1,e2,e3⟩:=qy.at h4
  refine⟨by simp[e1],by simp[e2],λj t' hj=>?_⟩
  cases j with
  |zero=>
   simp only[List.map_cons,List.getElem?_cons_zero,aH]at hj
   rw[Lf.a_ h1]at hj
   subst hj
   exact⟨z,v,rfl,rfl,h2,h3⟩
  |succ j=>simpa using e3 j t' (by simpa using hj)
 |_,_,[],[],_::_,h=>h.elim
 |_,_,[],_::_,_,h=>h.elim
 |_,_,_::_,[],_,h=>h.elim
 |_,_,_::_,_::_,[],h=>h.elim
theorem aE.xd{G1:Gh}:∀{cs:List Ce} {vs:List Value},cs.length=vs.length->(∀(j:Nat) (c:Ce) (v:Value),cs[j]?=some c->vs[j]?=some v->fb G1 w ρ c v)->aE G1 w ρ cs vs
 | [],[],_,_=>trivial
 | [],_::_,h,_=>by simp at h
 |_::_,[],h,_=>by simp at h
 |c::cs,v::vs,h,hf=>⟨hf 0 c v rfl rfl,aE.xd (by simpa using h) λj c v h1 h2=>hf (j+1) c v (by simpa using h1) (by simpa using h2)⟩
theorem aE.get{G1:Gh}:∀{cs:List Ce} {vs:List Value},aE G1 w ρ cs vs->∀(j:Nat) (c:Ce) (v:Value),cs[j]?=some c->vs[j]?=some v->fb G1 w ρ c v
 | [],[],_,j,c,v,h,_=>by simp at h
 | [],_::_,h,_,_,_,_,_=>h.elim
 |_::_,[],h,_,_,_,_,_=>h.elim
 |c::cs,v::vs,h,j,_,_,h1,h2=>by
  cases j with
  |zero=>simp at h1 h2;subst h1 h2;exact h.1
  |succ j=>exact aE.get h.2 j _ _ (by simpa using h1) (by simpa using h2)
theorem Q6(zs:List Ce):∀n,(ml zs n).length=n*zs.length
 |0=>by simp[ml]
 |n+1=>by simp[ml,Q6 zs n,Nat.add_mul];omega
theorem Ke(zs:List Ce):∀(n i j:Nat),i<n->j<zs.length->(ml zs n)[i*zs.length+j]?=zs[j]?
 |0,i,j,h,_=>by omega
 |n+1,0,j,_,hj=>by simp only[ml,Nat.zero_mul,Nat.zero_add];rw[List.getElem?_append_left hj]
 |n+1,i+1,j,h,hj=>by
  simp only[ml]
  rw[List.getElem?_append_right (by rw[Nat.add_mul];omega),show(i+1)*zs.length+j-zs.length=i*zs.length+j by rw[Nat.add_mul];omega]
  exact Ke zs n i j (by omega) hj
theorem Kf{zs:List Ce}(h:cT zs=[]):∀n,cT (ml zs n)=[]
 |0=>rfl
 |n+1=>by rw[ml,DH,h,Kf h n];rfl
theorem Ui{k n sz:Nat}(h:k<n*sz):k/sz<n∧k%sz<sz∧(k/sz)*sz+k%sz=k:=by
 have fF:0<sz:=by
  rcases Nat.eq_zero_or_pos sz with h0|h0
  ·rw[h0]at h;omega
  ·exact h0
 exact⟨Nat.div_lt_of_lt_mul (by rw[Nat.mul_comm];exact h),Nat.mod_lt _ fF,by rw[Nat.mul_comm];exact Nat.div_add_mod k sz⟩
theorem Uj{zs:List Ce}{z:Array Value}{G1:Gh}(h:aE G1 w ρ zs z.toList)(n:Nat):aE G1 w ρ (ml zs n) (madeCells z (n*z.size)).toList:=by
 have hl:=h.length
 simp only[Array.length_toList]at hl
 refine aE.xd (by rw[Q6,hl,Array.length_toList,size_madeCells]) λk c v hc hv=>?_
 have hk:k<n*z.size:=by have:=(List.getElem?_eq_some_iff.1 hc).1;rw[Q6,hl]at this;exact this
 obtain⟨q1,q2,q3⟩:=Ui hk
 have h1:=Ke zs n _ _ q1 (by rw[hl];exact q2)
 rw[hl,q3,hc]at h1
 have h2:=JU q2 q1
 rw[q3,<-Array.getElem?_toList,hv]at h2
 have hc:=h1.symm
 have hv:=h2.symm
 exact h.get _ c v hc (by simpa using hv)
theorem D_(w:Nat):∀(n:Nat) (ts:List T) (i j:Nat),ts.length=n*w->i<n->j<w->cP (kY w n ts) i j=ts[i*w+j]?
 |0,_,_,_,_,h,_=>by omega
 |n+1,ts,0,j,hl,_,hj=>by
  simp only[kY,cP,List.getElem?_cons_zero,Option.bind_some,Nat.zero_mul,Nat.zero_add,List.getElem?_take,hj,if_true]
 |n+1,ts,i+1,j,hl,h,hj=>by
  have:=D_ w n (ts.drop w) i j (by simp[hl,Nat.add_mul]) (by omega) hj
  simp only[cP,kY,List.getElem?_cons_succ]at this⊢
  rw[this,List.getElem?_drop]
  congr 1
  rw[Nat.add_mul];omega
theorem Uk(w:Nat):∀(n:Nat) (ts:List T),(kY w n ts).length=n
 |0,_=>rfl
 |n+1,ts=>by simp[kY,Uk w n]
theorem Kg(w:Nat):∀(n:Nat) (ts:List T),ts.length=n*w->∀r∈kY w n ts,r.length=w
 |0,_,_,r,h=>by cases h
 |n+1,ts,hl,r,h=>by
  simp only[kY,List.mem_cons]at h
  rcases h with rfl|h
  ·rw[List.length_take,hl,Nat.add_mul];omega
  ·exact Kg w n (ts.drop w) (by simp[hl,Nat.add_mul]) r h
theorem Kh:∀(ms:List Bool) (ts:List T),mQ ms ts=true->∀(j:Nat) (t:T),ms[j]?=some true->ts[j]?=some t->cF t=true
 | [],_,_,j,t,h,_=>by simp at h
 |true::ms,[],h,_,_,_,h2=>by simp at h2
 |false::ms,[],h,_,_,_,h2=>by simp at h2
 |true::ms,t::ts,h,j,u,h1,h2=>by
  simp only[mQ,bd]at h
  cases j with
  |zero=>simp at h2;subst h2;exact h.1
  |succ j=>exact Kh ms ts h.2 j u (by simpa using h1) (by simpa using h2)
 |false::ms,t::ts,h,j,u,h1,h2=>by
  simp only[mQ]at h
  cases j with
  |zero=>simp at h1
  |succ j=>exact Kh ms ts h j u (by simpa using h1) (by simpa using h2)
theorem k5_{t e n:Nat}{i:TypeInfo}{z:Value}(hu:P.underlying t=some (.slice e))(hi:P.info? e=some i)(hz:i.zero=some z)(hs:z.cells.size=i.size)(hb:n*i.size<=65536)
  {parts:Array (Nat×Value)}{aN:Array Value}(g:Instr.fill (λf=>some (f*i.size,i.size)) (madeCells z.cells (n*i.size)) parts.toList=some aN):
  (Instr.buildSlice t n parts).run P w=.ok (.slice (some ⟨w.heap.size,0,none⟩) n n) (w.alloc (.cells aN e)):=by
 have Ul:¬(n*i.size>2^24):=by omega
 unfold madeCells at g
 by_cases h0:n*i.size=0
 ·simp only[h0,Array.range_zero',List.map_toArray,List.map_nil]at g
  simp[Instr.buildSlice,run_underlying hu,sizeOf,typeInfo,hi,h0,g,newRow,Array.range_zero']
 ·simp[Instr.buildSlice,run_underlying hu,sizeOf,typeInfo,hi,h0,Ul,zeroValue,hz,g,newRow]
abbrev Mv:=List (Nat×Nat)
def fP:Mv->Nat->Option Nat
 | [],_=>none
 |(p,i)::mv,q=>bif Nat.beq p q then some i else fP mv q
def jK:Mv->Nat->Option Nat
 | [],_=>none
 |(p,i)::mv,j=>bif Nat.beq i j then some p else jK mv j
theorem Ki:∀{mv:Mv} {q i:Nat},fP mv q=some i->(q,i)∈mv
 | [],q,i,h=>by simp[fP]at h
 |(p,j)::mv,q,i,h=>by
  simp only[fP]at h
  cases hb:Nat.beq p q with
  |true=>simp[hb]at h;subst h;rw[cO hb];exact List.mem_cons_self
  |false=>simp[hb]at h;exact List.mem_cons_of_mem _ (Ki h)
theorem Ap:∀{mv:Mv} {q i:Nat},jK mv i=some q->(q,i)∈mv
 | [],q,i,h=>by simp[jK]at h
 |(p,j)::mv,q,i,h=>by
  simp only[jK]at h
  cases hb:Nat.beq j i with
  |true=>simp[hb]at h;subst h;rw[cO hb];exact List.mem_cons_self
  |false=>simp[hb]at h;exact List.mem_cons_of_mem _ (Ap h)
def Kj(G:Gh)(w:World)(ρ:List T)(mv:Mv):Nat->List Lf->List Value->Prop
 |_,[],[]=>True
 |q,x::xs,v::vs=>(∃t,x.eE ρ=some t∧((∃u,t=.c u∧v=u∧iY u=true)∨(t=.l []∧v=.slice none 0 0∧fP mv q=none)∨∃i,fP mv q=some i∧v=G.H i []∧dx G w i true [] t))∧Kj G w ρ mv (q+1) xs vs
 |_,_,_=>False
theorem Hq{G1:Gh}:∀{zs cs:List Ce} {vs:List Value} {k k1:Wk} {xs:List Lf} {k0:Wk} {W0:St},cG M B d up ρ G a w k0 G1->jJ k k0 W0->(∀r u,W0.look r=some u->∃j,r=.o j∧u=.un)->aE G1 w ρ cs vs->(∀i∈cT cs,M i)->
  k.bh zs cs=some (k1,xs)->∀q,k1.ct=k.ct∧k1.is=k.is∧xs.length=zs.length∧zs.length=cs.length∧∃mv W1,jJ k1 k0 (W1++W0)∧(∀p i,(p,i)∈mv->q<=p∧M i∧W1.look (.o i)=some .un∧W0.look (.o i)=none)∧(∀r u,W1.look r=some u->∃p j,r=.o j∧u=.un∧M j∧(p,j)∈mv)∧
   (∀p i,(p,i)∈mv->fP mv p=some i∧jK mv i=some p)∧
   (∀(yP:Mv),(∀p,q<=p->fP yP p=fP mv p)->(∀(j:Nat) (t:T),(∃x,xs[j]?=some x∧x.eE ρ=some t)->zs[j]?.map dU=some false->cF t=true)->Kj G1 w ρ yP q xs vs)
 | [],[],vs,k,k1,xs,k0,W0,hk,ho,hW,hr,hm,h,q=>by
  simp only[Wk.bh,aH,Prod.mk.injEq]at h
  obtain⟨rfl,rfl⟩:=h
  cases vs with
  |nil=>exact⟨rfl,rfl,rfl,rfl,[],[],ho,(λp i h=>by cases h),(λr u h=>by cases h),(λp i h=>by cases h),λ_ _ _=>trivial⟩
  |cons _ _=>exact hr.elim
 |z::zs,.p x::cs,vs,k,k1,xs,k0,W0,hk,ho,hW,hr,hm,h,q=>by
  cases vs with
  |nil=>exact hr.elim
  |cons v vs=>
   simp only[Wk.bh]at h
   cases hz:dU z with
   |true=>simp[hz]at h
   |false=>
    simp only[hz,cond_false,bU,aH,Prod.mk.injEq]at h
    obtain⟨⟨k2,ys⟩,h2,rfl,rfl⟩:=h
    obtain⟨e1,e2,e3,e4,mv,W1,e5,e6,e7,e8,e9⟩:=Hq hk ho hW hr.2 (λi hi=>hm i (by simpa[cT]using hi)) h2 (q+1)
    refine⟨e1,e2,by simp[e3],by simp[e4],mv,W1,e5,λp i hp=>by have:=e6 p i hp;exact⟨by omega,this.2⟩,e7,e8,λyP q7 lA=>?_⟩
    obtain⟨t,ht,hd⟩:=hr.1
    have cM:=lA 0 t ⟨x,rfl,ht⟩ (by simp[hz])
    obtain⟨u,rfl⟩:=DE cM
    obtain⟨rfl,hu⟩:=hd.scalar
    exact⟨⟨.c v,ht,.inl ⟨v,rfl,rfl,hu⟩⟩,e9 yP (λp hp=>q7 p (by omega)) λj t hj qz=>lA (j+1) t (by simpa using hj) (by simpa using qz)⟩
 |z::zs,.n::cs,vs,k,k1,xs,k0,W0,hk,ho,hW,hr,hm,h,q=>by
  cases vs with
  |nil=>exact hr.elim
  |cons v vs=>
   simp only[Wk.bh,bU,aH,Prod.mk.injEq]at h
   obtain⟨⟨k2,ys⟩,h2,rfl,rfl⟩:=h
   obtain⟨e1,e2,e3,e4,mv,W1,e5,e6,e7,e8,e9⟩:=Hq hk ho hW hr.2 (λi hi=>hm i (by simpa[cT]using hi)) h2 (q+1)
   refine⟨e1,e2,by simp[e3],by simp[e4],mv,W1,e5,λp i hp=>by have:=e6 p i hp;exact⟨by omega,this.2⟩,e7,e8,λyP q7 lA=>?_⟩
   have hv:v=.slice none 0 0:=hr.1
   have cN:fP mv q=none:=by
    cases hm:fP mv q with
    |none=>rfl
    |some i=>
     have:=Ki hm
     have:=(e6 q i this).1
     omega
   exact⟨⟨.l [],rfl,.inr (.inl ⟨rfl,hv,by rw[q7 q (Nat.le_refl _)];exact cN⟩)⟩,e9 yP (λp hp=>q7 p (by omega)) λj t hj qz=>lA (j+1) t (by simpa using hj) (by simpa using qz)⟩
 |z::zs,.o id []::cs,vs,k,k1,xs,k0,W0,hk,ho,hW,hr,hm,h,q=>by
  cases vs with
  |nil=>exact hr.elim
  |cons v vs=>
   simp only[Wk.bh]at h
   split at h
   ·rename_i x hx
    simp only[bU,aH,Prod.mk.injEq]at h
    obtain⟨⟨k2,ys⟩,h2,rfl,rfl⟩:=h
    have cN:W0.look (.o id)=none:=by
     cases hl:W0.look (.o id)with
     |none=>rfl
     |some u=>
      exfalso
      obtain⟨j,_,rfl⟩:=hW _ _ hl
      have:k.get (.o id)=.un:=by unfold Wk.get;rw[ho.2,hl];simp
      rw[this]at hx;cases hx
    have xe:jJ (k.set (.o id) .un) k0 ([(.o id,.un)]++W0):=⟨ho.1,λr=>by rw[show(k.set (.o id) .un).w.look r=_ from qm r,jz,ho.2,Option.or_assoc]⟩
    obtain⟨e1,e2,e3,e4,mv,W1,e5,e6,e7,e8,e9⟩:=Hq hk xe (λr u hl=>by
     rw[jz]at hl
     cases h1:St.look [(aK.o id,SV.un)] r with
     |some u'=>rw[h1]at hl;simp at hl;subst hl;rcases gJ h1 with⟨q1,q2⟩|q1;exact⟨id,q1,q2⟩;cases q1
     |none=>rw[h1]at hl;exact hW r u (by simpa using hl)) hr.2 (λi hi=>hm i (by simp[cT,hi])) h2 (q+1)
    have iX:∀p i,(p,i)∈mv->i≠id:=by
     intro p i hp he
     subst he
     have:=(e6 p i hp).2.2.2
     rw[jz,rB]at this
     simp at this
    refine⟨e1,e2,by simp[e3],by simp[e4],(q,id)::mv,W1++[(.o id,.un)],by rw[List.append_assoc];exact e5,λp i hp=>?_,λr u hl=>?_,λp i hp=>?_,λyP q7 lA=>?_⟩
    ·rcases List.mem_cons.1 hp with hp|hp
     ·cases hp
      have:W1.look (.o id)=none:=by
       cases hl:W1.look (.o id)with
       |none=>rfl
       |some u=>obtain⟨p,j,q1,_,_,q2⟩:=e7 _ _ hl;cases q1;exact absurd rfl (iX p _ q2)
      exact⟨Nat.le_refl _,hm id (by simp[cT]),by rw[jz,this,rB];simp,cN⟩
     ·obtain⟨q1,q2,q3,q4⟩:=e6 p i hp
      refine⟨by omega,q2,by rw[jz,q3];rfl,?_⟩
      rw[jz]at q4
      exact(Option.or_eq_none_iff.1 q4).2
    ·rw[jz]at hl
     cases h1:W1.look r with
     |some u'=>
      rw[h1]at hl
      simp at hl
      subst hl
      obtain⟨p,j,q1,q2,q3,q4⟩:=e7 r u' h1
      exact⟨p,j,q1,q2,q3,by simp[q4]⟩
     |none=>
      rw[h1]at hl
      simp only[Option.none_or]at hl
      rcases gJ hl with⟨q1,q2⟩|q1
      ·exact⟨q,id,q1,q2,hm id (by simp[cT]),by simp⟩
      ·cases q1
    ·rcases List.mem_cons.1 hp with hp|hp
     ·cases hp;simp[fP,jK]
     ·have h1:=(e6 p i hp).1
      have h2:=iX p i hp
      have b1:Nat.beq q p=false:=by
       cases hb:Nat.beq q p with
       |false=>rfl
       |true=>have:=cO hb;omega
      have b2:Nat.beq id i=false:=by
       cases hb:Nat.beq id i with
       |false=>rfl
       |true=>exact absurd (cO hb).symm h2
      simp only[fP,jK,b1,b2,cond_false]
      exact e8 p i hp
    ·have c_:=hk.obj id
     have su:k0.get (.o id)=.ob true x:=by rw[<-ho.get cN];exact hx
     rw[su]at c_
     obtain⟨t,ht,aW⟩:=c_
     obtain⟨p,hp,hv⟩:=hr.1
     simp only[lu,aH]at hp
     subst hp
     refine⟨⟨t,ht,.inr (.inr ⟨id,by rw[q7 q (Nat.le_refl _)];simp[fP],hv,aW⟩)⟩,e9 yP (λp hp=>?_) λj t hj qz=>lA (j+1) t (by simpa using hj) (by simpa using qz)⟩
     rw[q7 p (by omega)]
     have b1:Nat.beq q p=false:=by
      cases hb:Nat.beq q p with
      |false=>rfl
      |true=>have:=cO hb;omega
     simp only[fP,b1,cond_false]
   ·rename_i x hx
    simp only[bU,aH,Prod.mk.injEq]at h
    obtain⟨⟨k2,ys⟩,h2,rfl,rfl⟩:=h
    have cN:W0.look (.o id)=none:=by
     cases hl:W0.look (.o id)with
     |none=>rfl
     |some u=>
      exfalso
      obtain⟨j,_,rfl⟩:=hW _ _ hl
      have:k.get (.o id)=.un:=by unfold Wk.get;rw[ho.2,hl];simp
      rw[this]at hx;cases hx
    have xe:jJ (k.set (.o id) .un) k0 ([(.o id,.un)]++W0):=⟨ho.1,λr=>by rw[show(k.set (.o id) .un).w.look r=_ from qm r,jz,ho.2,Option.or_assoc]⟩
    obtain⟨e1,e2,e3,e4,mv,W1,e5,e6,e7,e8,e9⟩:=Hq hk xe (λr u hl=>by
     rw[jz]at hl
     cases h1:St.look [(aK.o id,SV.un)] r with
     |some u'=>rw[h1]at hl;simp at hl;subst hl;rcases gJ h1 with⟨q1,q2⟩|q1;exact⟨id,q1,q2⟩;cases q1
     |none=>rw[h1]at hl;exact hW r u (by simpa using hl)) hr.2 (λi hi=>hm i (by simp[cT,hi])) h2 (q+1)
    have iX:∀p i,(p,i)∈mv->i≠id:=by
     intro p i hp he
     subst he
     have:=(e6 p i hp).2.2.2
     rw[jz,rB]at this
     simp at this
    refine⟨e1,e2,by simp[e3],by simp[e4],(q,id)::mv,W1++[(.o id,.un)],by rw[List.append_assoc];exact e5,λp i hp=>?_,λr u hl=>?_,λp i hp=>?_,λyP q7 lA=>?_⟩
    ·rcases List.mem_cons.1 hp with hp|hp
     ·cases hp
      have:W1.look (.o id)=none:=by
       cases hl:W1.look (.o id)with
       |none=>rfl
       |some u=>obtain⟨p,j,q1,_,_,q2⟩:=e7 _ _ hl;cases q1;exact absurd rfl (iX p _ q2)
      exact⟨Nat.le_refl _,hm id (by simp[cT]),by rw[jz,this,rB];simp,cN⟩
     ·obtain⟨q1,q2,q3,q4⟩:=e6 p i hp
      refine⟨by omega,q2,by rw[jz,q3];rfl,?_⟩
      rw[jz]at q4
      exact(Option.or_eq_none_iff.1 q4).2
    ·rw[jz]at hl
     cases h1:W1.look r with
     |some u'=>
      rw[h1]at hl
      simp at hl
      subst hl
      obtain⟨p,j,q1,q2,q3,q4⟩:=e7 r u' h1
      exact⟨p,j,q1,q2,q3,by simp[q4]⟩
     |none=>
      rw[h1]at hl
      simp only[Option.none_or]at hl
      rcases gJ hl with⟨q1,q2⟩|q1
      ·exact⟨q,id,q1,q2,hm id (by simp[cT]),by simp⟩
      ·cases q1
    ·rcases List.mem_cons.1 hp with hp|hp
     ·cases hp;simp[fP,jK]
     ·have h1:=(e6 p i hp).1
      have h2:=iX p i hp
      have b1:Nat.beq q p=false:=by
       cases hb:Nat.beq q p with
       |false=>rfl
       |true=>have:=cO hb;omega
      have b2:Nat.beq id i=false:=by
       cases hb:Nat.beq id i with
       |false=>rfl
       |true=>exact absurd (cO hb).symm h2
      simp only[fP,jK,b1,b2,cond_false]
      exact e8 p i hp
    ·have c_:=hk.obj id
     have su:k0.get (.o id)=.fl x:=by rw[<-ho.get cN];exact hx
     rw[su]at c_
     obtain⟨_,t,ht,aW⟩:=c_
     obtain⟨p,hp,hv⟩:=hr.1
     simp only[lu,aH]at hp
     subst hp
     refine⟨⟨t,ht,.inr (.inr ⟨id,by rw[q7 q (Nat.le_refl _)];simp[fP],hv,aW⟩)⟩,e9 yP (λp hp=>?_) λj t hj qz=>lA (j+1) t (by simpa using hj) (by simpa using qz)⟩
     rw[q7 p (by omega)]
     have b1:Nat.beq q p=false:=by
      cases hb:Nat.beq q p with
      |false=>rfl
      |true=>have:=cO hb;omega
     simp only[fP,b1,cond_false]
   ·cases h
 | [],_::_,vs,k,k1,xs,k0,W0,_,_,_,_,_,h,_=>by simp[Wk.bh]at h
 |_::_,[],vs,k,k1,xs,k0,W0,_,_,_,_,_,h,_=>by simp[Wk.bh]at h
 |_::_,.d::_,vs,k,k1,xs,k0,W0,_,_,_,_,_,h,_=>by simp[Wk.bh]at h
 |_::_,.o _ (_::_)::_,vs,k,k1,xs,k0,W0,_,_,_,_,_,h,_=>by simp[Wk.bh]at h
theorem Kj.at{G1:Gh}{mv:Mv}:∀{xs:List Lf} {vs:List Value} {q:Nat},Kj G1 w ρ mv q xs vs->xs.length=vs.length∧∀(j:Nat) (t:T),(xs.map (Lf.ev ρ))[j]?=some t->∃v,vs[j]?=some v∧
  ((∃u,t=.c u∧v=u∧iY u=true)∨(t=.l []∧v=.slice none 0 0∧fP mv (q+j)=none)∨∃i,fP mv (q+j)=some i∧v=G1.H i []∧dx G1 w i true [] t)
 | [],[],q,_=>⟨rfl,λj t h=>by simp at h⟩
 |x::xs,v::vs,q,h=>by
  obtain⟨⟨t,h1,h2⟩,h3⟩:=h
  obtain⟨e1,e2⟩:=Kj.at h3
  refine⟨by simp[e1],λj t' hj=>?_⟩
  cases j with
  |zero=>
   simp only[List.map_cons,List.getElem?_cons_zero,aH]at hj
   rw[Lf.a_ h1]at hj
   subst hj
   exact⟨v,rfl,h2⟩
  |succ j=>
   have:=e2 j t' (by simpa using hj)
   rw[show q+1+j=q+(j+1) by omega]at this
   simpa using this
 | [],_::_,q,h=>h.elim
 |_::_,[],q,h=>h.elim
def Aq(mv:Mv)(sz i:Nat):Lb->Option Lb
 | .o j p=>match jK mv j with
  |some q=>some (.o i ((q/sz,q%sz)::p))
  |none=>some (.o j p)
 |l=>some l
theorem Um{mv:Mv}{sz i:Nat}(hi:i%2=0)(l l':Lb)(hq:qt l=true)(h:Aq mv sz i l=some l'):qt l'=true:=by
 cases l with
 |o j p=>
  simp only[Aq]at h
  split at h
  ·cases h;exact rp hi (by simp)
  ·cases h;exact hq
 |_=>simp[qt]at hq
def Cw(G:Gh)(mv:Mv)(sz:Nat)(v:Value):List (Nat×Nat)->Value
 | []=>v
 |(r,c)::p=>match fP mv (r*sz+c)with
  |some j=>G.H j p
  |none=>.slice none 0 0
theorem Q7:∀{zs cs:List Ce} {k k1:Wk} {xs:List Lf},k.bh zs cs=some (k1,xs)->∀id,k.get (.o id)=.un->k1.get (.o id)=.un
 | [],[],k,k1,xs,h,id,hu=>by
  simp only[Wk.bh,aH,Prod.mk.injEq]at h
  rw[<-h.1];exact hu
 |z::zs,.p x::cs,k,k1,xs,h,id,hu=>by
  simp only[Wk.bh]at h
  cases hz:dU z with
  |true=>simp[hz]at h
  |false=>
   simp only[hz,cond_false,bU,aH,Prod.mk.injEq]at h
   obtain⟨⟨k2,ys⟩,h2,rfl,_⟩:=h
   exact Q7 h2 id hu
 |z::zs,.n::cs,k,k1,xs,h,id,hu=>by
  simp only[Wk.bh,bU,aH,Prod.mk.injEq]at h
  obtain⟨⟨k2,ys⟩,h2,rfl,_⟩:=h
  exact Q7 h2 id hu
 |z::zs,.o j []::cs,k,k1,xs,h,id,hu=>by
  simp only[Wk.bh]at h
  have key:∀k2 ys,Wk.bh (k.set (.o j) .un) zs cs=some (k2,ys)->k2.get (.o id)=.un:=λk2 ys h2=>by
   refine Q7 h2 id ?_
   by_cases e:j=id
   ·subst e;exact Wk.bm _ _ _
   ·unfold Wk.get Wk.set
    rw[St.bP _ _ (by simpa using e)]
    exact hu
  split at h
  ·simp only[bU,aH,Prod.mk.injEq]at h
   obtain⟨⟨k2,ys⟩,h2,rfl,_⟩:=h
   exact key _ _ h2
  ·simp only[bU,aH,Prod.mk.injEq]at h
   obtain⟨⟨k2,ys⟩,h2,rfl,_⟩:=h
   exact key _ _ h2
  ·cases h
 | [],_::_,k,k1,xs,h,_,_=>by simp[Wk.bh]at h
 |_::_,[],k,k1,xs,h,_,_=>by simp[Wk.bh]at h
 |_::_,.d::_,k,k1,xs,h,_,_=>by simp[Wk.bh]at h
 |_::_,.o _ (_::_)::_,k,k1,xs,h,_,_=>by simp[Wk.bh]at h
theorem Q9:∀{zs cs:List Ce} {k k1:Wk} {xs:List Lf},k.bh zs cs=some (k1,xs)->∀id,.o id []∈cs->k1.get (.o id)=.un
 | [],[],k,k1,xs,h,id,hm=>by cases hm
 |z::zs,.p x::cs,k,k1,xs,h,id,hm=>by
  simp only[Wk.bh]at h
  cases hz:dU z with
  |true=>simp[hz]at h
  |false=>
   simp only[hz,cond_false,bU,aH,Prod.mk.injEq]at h
   obtain⟨⟨k2,ys⟩,h2,rfl,_⟩:=h
   exact Q9 h2 id (by simpa using hm)
 |z::zs,.n::cs,k,k1,xs,h,id,hm=>by
  simp only[Wk.bh,bU,aH,Prod.mk.injEq]at h
  obtain⟨⟨k2,ys⟩,h2,rfl,_⟩:=h
  exact Q9 h2 id (by simpa using hm)
 |z::zs,.o j []::cs,k,k1,xs,h,id,hm=>by
  simp only[Wk.bh]at h
  have key:∀k2 ys,Wk.bh (k.set (.o j) .un) zs cs=some (k2,ys)->k2.get (.o id)=.un:=λk2 ys h2=>by
   rcases List.mem_cons.1 hm with e|hm
   ·refine Q7 h2 id ?_
    cases e
    exact Wk.bm _ _ _
   ·exact Q9 h2 id hm
  split at h
  ·simp only[bU,aH,Prod.mk.injEq]at h
   obtain⟨⟨k2,ys⟩,h2,rfl,_⟩:=h
   exact key _ _ h2
  ·simp only[bU,aH,Prod.mk.injEq]at h
   obtain⟨⟨k2,ys⟩,h2,rfl,_⟩:=h
   exact key _ _ h2
  ·cases h
 | [],_::_,k,k1,xs,h,_,_=>by simp[Wk.bh]at h
 |_::_,[],k,k1,xs,h,_,_=>by simp[Wk.bh]at h
 |_::_,.d::_,k,k1,xs,h,_,_=>by simp[Wk.bh]at h
 |_::_,.o _ (_::_)::_,k,k1,xs,h,_,_=>by simp[Wk.bh]at h
def rL(k0:Wk):List Ce->St
 | []=>[]
 | .o id []::cs=>
  match k0.get (.o id)with
  | .ob true x=>rL k0 cs++[(.o id,.fz .z x)]
  |_=>rL k0 cs
 |_::cs=>rL k0 cs
theorem Ea{k0:Wk}:∀(cs:List Ce) (k:Wk),(Wk.alias k0 k cs).ct=k.ct∧(Wk.alias k0 k cs).is=k.is∧(Wk.alias k0 k cs).r=k.r∧∀r,(Wk.alias k0 k cs).w.look r=((rL k0 cs).look r).or (k.w.look r)
 | [],k=>⟨rfl,rfl,rfl,λr=>by simp[Wk.alias,rL,St.look]⟩
 | .o id []::cs,k=>by
  have Ak:∀v,k0.get (.o id)=v->(∀x,v≠.ob true x)->Wk.alias k0 k (.o id []::cs)=Wk.alias k0 k cs∧rL k0 (.o id []::cs)=rL k0 cs:=λv hv hx=>by
   simp only[Wk.alias,rL,hv]
   exact⟨trivial,trivial⟩
  by_cases hx:∃x,k0.get (.o id)=.ob true x
  ·obtain⟨x,hx⟩:=hx
   obtain⟨e1,e2,e3,e4⟩:=Ea (k0:=k0) cs (k.set (.o id) (.fz .z x))
   have f1:Wk.alias k0 k (.o id []::cs)=Wk.alias k0 (k.set (.o id) (.fz .z x)) cs:=by simp only[Wk.alias,hx]
   have f2:rL k0 (.o id []::cs)=rL k0 cs++[(.o id,.fz .z x)]:=by simp only[rL,hx]
   rw[f1,f2]
   refine⟨e1,e2,e3,λr=>?_⟩
   rw[e4,jz,Option.or_assoc]
   congr 1
   exact qm r
  ·obtain⟨f1,f2⟩:=Ak _ rfl λx e=>hx ⟨x,e⟩
   rw[f1,f2]
   exact Ea cs k
 | .p _::cs,k=>Ea (k0:=k0) cs k
 | .n::cs,k=>Ea (k0:=k0) cs k
 | .d::cs,k=>Ea (k0:=k0) cs k
 | .o _ (_::_)::cs,k=>Ea (k0:=k0) cs k
theorem Eb{k0:Wk}:∀{cs:List Ce} {r:aK} {u:SV},(rL k0 cs).look r=some u->∃id x,r=.o id∧u=.fz .z x∧.o id []∈cs∧k0.get (.o id)=.ob true x
 | [],r,u,h=>by cases h
 | .o id []::cs,r,u,h=>by
  simp only[rL]at h
  split at h
  ·rename_i x hx
   rw[jz]at h
   cases hl:(rL k0 cs).look r with
   |some u'=>
    rw[hl]at h
    simp only[Option.some_or,aH]at h
    subst h
    obtain⟨sw,x',e1,e2,e3,e4⟩:=Eb hl
    exact⟨sw,x',e1,e2,.tail _ e3,e4⟩
   |none=>
    rw[hl]at h
    simp only[Option.none_or]at h
    rcases gJ h with⟨e1,e2⟩|hl
    ·exact⟨id,x,e1,e2,.head _,hx⟩
    ·cases hl
  ·obtain⟨sw,x',e1,e2,e3,e4⟩:=Eb h
   exact⟨sw,x',e1,e2,.tail _ e3,e4⟩
 | .p _::cs,r,u,h=>by obtain⟨sw,x',e1,e2,e3,e4⟩:=Eb (cs:=cs) h;exact⟨sw,x',e1,e2,.tail _ e3,e4⟩
 | .n::cs,r,u,h=>by obtain⟨sw,x',e1,e2,e3,e4⟩:=Eb (cs:=cs) h;exact⟨sw,x',e1,e2,.tail _ e3,e4⟩
 | .d::cs,r,u,h=>by obtain⟨sw,x',e1,e2,e3,e4⟩:=Eb (cs:=cs) h;exact⟨sw,x',e1,e2,.tail _ e3,e4⟩
 | .o _ (_::_)::cs,r,u,h=>by obtain⟨sw,x',e1,e2,e3,e4⟩:=Eb (cs:=cs) h;exact⟨sw,x',e1,e2,.tail _ e3,e4⟩
theorem dx.uZ{G G':Gh}{w w':World}{id:Nat}{p:List (Nat×Nat)}{t:T}{dp:Bool}(h:dx G w id dp p t)(eV:dp=true)(fA:∀c q,G.ω c=some (.o id q)->G'.q c=none∧w'.heap[c]?=w.heap[c]?):dF G'.q w' t (G.H id p):=by
 induction h with
 |nil h=>rw[h];exact .nil
 | @l dp p xs b wd cap aN elem fr cv h1 h2 h3 h4 h5 h6 h7 h8 h9 jI ru ih=>
  obtain⟨e1,e2⟩:=fA b p h3
  rw[h1]
  refine .l (cv:=cv) h6 h2.1 e1 (Ca (e2.trans h4)) (λi j t ht=>?_) λi j t ht=>?_
  ·rw[sq (e2.trans h4),Nat.zero_add];exact h7 i j t ht
  ·cases t with
   |c v=>obtain⟨hv,hs⟩:=h8 i j v ht;rw[hv];exact .c hs
   |l ys=>rw[jI i j ys ht eV];exact ih i j ys ht eV rfl
theorem Un(cQ:dg P cx)(h:Rel M B d up s ρ G a w)(hn:∀n,o.dst=some n->n<a.tmps.size){t n:Nat}{ps:Array (Nat×Operand)}(ho:o.op=.buildSlice t n ps){ti te:TI}(eh:cx.ty t=some ti)(mK:cx.ty ti.el=some te)
  {i:TypeInfo}{z:Value}(hu:P.underlying t=some (.slice ti.el))(o5:P.info? ti.el=some i)(iU:i.size=te.sz)(yJ:i.zero=some z)(qA:z.cells.size=te.sz)(fF:0<te.sz)(hb:n*te.sz<=65536)
  (z8:aE G w ρ te.zero z.cells.toList)(qT:cT te.zero=[]){cs:List Ce}{aN:Array Value}(g1:Instr.fill (λi=>some (i*te.sz,te.sz)) (madeCells z.cells (n*z.cells.size)) (ps.toList.map λp=>(p.1,a.eval p.2))=some aN)(g2:aE G w ρ cs aN.toList∧∀i∈cT cs,M i)
  (ry:aN.size=n*te.sz){k1:Wk}{xs:List Lf}(hD:Wk.bh ⟨s.only R,[],ct,[]⟩ (ml te.zero n) cs=some (k1,xs))
  (hk:(let r:=(Wk.alias ⟨s.only R,[],ct,[]⟩ k1 cs).em (.lit te.sz (bif true then(ml te.zero n).map (λz=>!dU z)else [])) xs;bn d o {r.1.set (.o (df r.1.ct.i)) (.ob true r.2)with ct:=⟨r.1.ct.a,df r.1.ct.i+1⟩} (.v false [.o (df r.1.ct.i) []]))=k')(hd:k'.aO S ρ)(hM:∀i,ct.i<=i->i<k'.ct.i->¬M i):
  bf P (Mn M ct.i k'.ct.i) B d up ρ a w s o k'.w Q:=by
 have hw:=cG.start h R ct
 obtain⟨a1,a2,a3,a4,mv,W1,a5,a6,a7,a8,a9⟩:=Hq hw (show jJ ⟨s.only R,[],ct,[]⟩ ⟨s.only R,[],ct,[]⟩ [] from⟨rfl,λr=>by simp[St.look]⟩) (λr u h=>by cases h) g2.1 g2.2 hD 0
 rw[List.append_nil]at a5
 have hun:=Q9 hD
 obtain⟨l1,l2,l3,l4⟩:=Ea (k0:=⟨s.only R,[],ct,[]⟩) cs k1
 generalize Wk.alias ⟨s.only R,[],ct,[]⟩ k1 cs=Hr at l1 l2 l3 l4 hk
 generalize hy:Hr.em (.lit te.sz (bif true then(ml te.zero n).map (λz=>!dU z)else [])) xs=ky at hk
 obtain⟨k2,y⟩:=ky
 have xg:k2=(Hr.em (.lit te.sz (bif true then(ml te.zero n).map (λz=>!dU z)else [])) xs).1:=by rw[hy]
 have Uo:y=(Hr.em (.lit te.sz (bif true then(ml te.zero n).map (λz=>!dU z)else [])) xs).2:=by rw[hy]
 have lm:Hr.dL k2:=by rw[xg];exact Wk.aT _ _ _
 have o3:bn d o {k2.set (.o (df k2.ct.i)) (.ob true y)with ct:=⟨k2.ct.a,df k2.ct.i+1⟩} (.v false [.o (df k2.ct.i) []])=k':=hk
 have iv:k2.ct.i=ct.i:=by rw[lm.i,l1,a1]
 have gy:(Hr.em (.lit te.sz (bif true then(ml te.zero n).map (λz=>!dU z)else [])) xs).1.aO S ρ:=by
  rw[<-xg]
  rw[<-o3]at hd
  have h2:=bZ.1 hd
  exact h2
 obtain⟨xb,r,hr,me⟩:=Wk.be gy
 rw[<-Uo]at me
 have ql:te.zero.length=te.sz:=by have:=z8.length;rw[this];simpa using qA
 have u0:(xs.map (Lf.ev ρ)).length=n*te.sz:=by rw[List.length_map,a3,Q6,ql]
 have xh:r=.l (kY te.sz n (xs.map (Lf.ev ρ)))∧mQ ((ml te.zero n).map (λz=>!dU z)) (xs.map (Lf.ev ρ))=true:=by
  simp only[Prim.ev,u0,Nat.mul_div_cancel _ fF,if_pos fF,cond_true]at hr
  split at hr
  ·rename_i hm
   exact⟨(Option.some.inj hr).symm,hm⟩
  ·cases hr
 obtain⟨rfl,rM⟩:=xh
 have q7:=a9 mv (λ_ _=>rfl) λj t ⟨x,hx,ht⟩ qz=>by
  refine Kh _ _ rM j t ?_ ?_
  ·cases Ec:(ml te.zero n)[j]? with
   |none=>rw[Ec]at qz;cases qz
   |some zc=>rw[Ec]at qz;simp at qz;simp[Ec,qz]
  ·rw[List.getElem?_map,hx];simp[Lf.a_ ht]
 obtain⟨b1,b3⟩:=q7.at
 have mM:k'.ct.i=df ct.i+1:=by rw[<-o3,lH,<-iv]
 have jY:=uD ct.i
 let Hn:=Cw G mv te.sz (.slice (some ⟨w.heap.size,0,none⟩) n n)
 have lg:∀p,∃a n c,Hn p=.slice a n c:=λp=>by
  cases p with
  |nil=>exact⟨_,_,_,rfl⟩
  |cons x p=>
   obtain⟨r0,c0⟩:=x
   cases hm:fP mv (r0*te.sz+c0)with
   |none=>exact⟨none,0,0,by simp only[Hn,Cw,hm]⟩
   |some j=>obtain⟨a0,n0,c1,h0⟩:=G.hs j p;exact⟨a0,n0,c1,by simp only[Hn,Cw,hm];exact h0⟩
 have da:(Instr.buildSlice t n (ps.map λ(i,x)=>(i,a.eval x))).run P w=.ok (.slice (some ⟨w.heap.size,0,none⟩) n n) (w.alloc (.cells aN ti.el)):=by
  have z9:(ps.map λ(x:Nat×Operand)=>(x.1,a.eval x.2)).toList=ps.toList.map λp=>(p.1,a.eval p.2):=by simp
  rw[<-z9,<-iU]at g1
  exact k5_ hu o5 yJ (by rw[qA,iU]) (by rw[iU];exact hb) (by rw[iU]at g1⊢;rw[<-qA]at g1⊢;exact g1)
 have fG:(execOp a.eval o).run P w=.ok (.value (Hn [])) (w.alloc (.cells aN ti.el)):=by
  unfold execOp
  simp only[ho]
  rw[Sem.run_bind,da]
  rfl
 rw[mM,<-o3,<-iv]
 have Cy:¬M (df k2.ct.i):=hM _ (by rw[iv];exact jY) (by rw[mM,iv];omega)
 refine bf.mono (M:=Mn M (df k2.ct.i) (df k2.ct.i+1)) ?_ (λi hi=>hi.imp_right λhi=>by rw[iv]at hi⊢;exact⟨by omega,hi.2⟩)
 refine JS (nb:=some w.heap.size) (f:=Aq mv te.sz (df k2.ct.i)) (Hn:=Hn) (lg:=lg) (w':=w.alloc (.cells aN ti.el)) (k:={(⟨s.only R,[],ct,[]⟩:Wk)with ct:=⟨k2.ct.a,df k2.ct.i⟩}) (W1:=rL ⟨s.only R,[],ct,[]⟩ cs++W1) (dp:=true) (y:=y) (t:=.l (kY te.sz n (xs.map (Lf.ev ρ))))
  h (show cG M B d up ρ G a w {(⟨s.only R,[],ct,[]⟩:Wk)with ct:=⟨k2.ct.a,df k2.ct.i⟩} G from⟨hw.rel,hw.aF⟩) hn Cy (λr=>?_) (λr u hu=>?_) (λl hl=>?_) (λl l' ⟨b,hb⟩ he=>?_)
  (Um (D2 _)) (λc hc=>by cases hc;exact .inl rfl) (by simp) (λc hc=>by cases hc;simp) (λb hb _=>heap_alloc_old w _ b hb) (z_ _ _) rfl me ?_ fG
 ·show((k2.w.set (.o (df k2.ct.i)) _)).look r=_
  rw[show(k2.w.set (.o (df k2.ct.i)) (.ob true y)).look r=_ from qm (k:=k2) r]
  rw[show k2.w.look r=Hr.w.look r by rw[lm.w],l4 r,a5.2 r,<-Option.or_assoc,<-Option.or_assoc]
  congr 1
  show _=St.look ((aK.o (df k2.ct.i),_)::(rL ⟨s.only R,[],ct,[]⟩ cs++W1)) r
  simp only[St.look,jz]
  cases(aK.o (df k2.ct.i)).beq r<;>simp
 ·rw[jz]at hu
  cases hl:(rL ⟨s.only R,[],ct,[]⟩ cs).look r with
  |some u'=>
   rw[hl]at hu
   simp only[Option.some_or,aH]at hu
   subst hu
   obtain⟨id,x,e1,e2,e3,e4⟩:=Eb hl
   subst e1 e2
   have c_:=hw.obj id
   rw[e4]at c_
   obtain⟨t,ht,aW⟩:=c_
   obtain⟨q,hq⟩:∃q,(q,id)∈mv:=by
    have h0:=hun id e3
    cases mX:W1.look (.o id)with
    |none=>
     have:k1.get (.o id)=Wk.get ⟨s.only R,[],ct,[]⟩ (.o id):=by unfold Wk.get;rw[a5.2,mX,a5.1];simp
     rw[this,e4]at h0;cases h0
    |some u=>obtain⟨p,j,q1,_,_,q4⟩:=a7 _ _ mX;cases q1;exact⟨p,q4⟩
   have pS:=(a8 _ id hq).2
   have Ho:=(a6 q id hq).2.1
   have Kk:id≠df k2.ct.i:=λe=>Cy (e▸Ho)
   refine⟨id,rfl,⟨t,ht,?_,trivial⟩,Ho,λi hi=>by simp[cD]at hi⟩
   have hd:=aW.uZ (G':=G.cd (some w.heap.size) (df k2.ct.i) (Aq mv te.sz (df k2.ct.i)) Hn lg) (w':=w.alloc (.cells aN ti.el)) rfl λc p hc=>by
    have bI:=(hw.rel.fE c _ hc).2
    have cW:¬(w.heap.size=c):=by omega
    exact⟨Dt (l:=.o (df k2.ct.i) ((q/te.sz,q%te.sz)::p)) (by simp[Gh.cd,cW,hc,Aq,pS]) (rp (D2 _) (by simp)),heap_alloc_old w _ c bI⟩
   have hh:(G.cd (some w.heap.size) (df k2.ct.i) (Aq mv te.sz (df k2.ct.i)) Hn lg).H id []=G.H id []:=by simp[Gh.cd,Kk]
   rw[hh]
   exact hd
  |none=>
   rw[hl]at hu
   simp only[Option.none_or]at hu
   obtain⟨p,j,q1,q2,q3,_⟩:=a7 r u hu
   subst q2
   exact⟨j,q1,trivial,q3,λi hi=>by simp[cD]at hi⟩
 ·cases l with
  |f=>rfl
  |x b=>rfl
  |o j p=>
   have h0:=(Option.or_eq_none_iff.1 (by have:=hl j p rfl;rwa[jz]at this)).2
   have:jK mv j=none:=by
    cases hm:jK mv j with
    |none=>rfl
    |some q=>have:=(a6 q j (Ap hm)).2.2.1;rw[h0]at this;cases this
   simp[Aq,this]
 ·have iE:=hw.rel.fE b _ hb
  cases l with
  |f=>cases he;exact .inl iE.1
  |x b=>cases he;exact .inl iE.1
  |o j p=>
   simp only[Aq]at he
   split at he
   ·cases he;exact .inr rfl
   ·cases he;exact .inl iE.1
 ·have hlen:(kY te.sz n (xs.map (Lf.ev ρ))).length=n:=Uk _ _ _
  have pP:∀(ii j:Nat) (t:T),cP (kY te.sz n (xs.map (Lf.ev ρ))) ii j=some t->ii<n∧j<te.sz∧∃v,aN[ii*te.sz+j]?=some v∧
    ((∃u,t=.c u∧v=u∧iY u=true)∨(t=.l []∧v=.slice none 0 0∧fP mv (ii*te.sz+j)=none)∨∃i,fP mv (ii*te.sz+j)=some i∧v=G.H i []∧dx G w i true [] t):=by
   intro ii j t ht
   obtain⟨rr,_,hm,Cn,q1,q2⟩:=qd ht
   rw[hlen]at q1
   rw[Kg _ _ _ u0 rr hm]at q2
   rw[D_ _ _ _ _ _ u0 q1 q2]at ht
   obtain⟨v,c2,c3⟩:=b3 _ t ht
   rw[Nat.zero_add]at c3
   exact⟨q1,q2,v,by simpa using c2,c3⟩
  refine .l (wd:=te.sz) (cv:=λii j=>aN.getD (ii*te.sz+j) undef) (by rw[hlen];simp[Gh.cd,Hn,Cw]) ⟨by rw[hlen];exact Nat.le_refl _,λhe=>by have:=congrArg List.length he;rw[hlen]at this;simpa using this⟩ (by simp[Gh.cd]) (heap_alloc_new w _) ⟨ry,.inl rfl⟩ (Kg _ _ _ u0) ?_ ?_ (λ_ _ _ _ hf=>by cases hf) ?_ ?_
  ·intro ii j t ht
   obtain⟨q1,q2,v,q3,_⟩:=pP ii j t ht
   simp[Array.getD_eq_getD_getElem?,q3]
  ·intro ii j v ht
   obtain⟨q1,q2,u,q3,q4⟩:=pP ii j _ ht
   rcases q4 with⟨u',e1,e2,e3⟩|⟨e1,_⟩|⟨i',_,_,e1⟩
   ·cases e1;subst e2;exact⟨by simp[Array.getD_eq_getD_getElem?,q3],e3⟩
   ·cases e1
   ·cases e1
  ·intro ii j ys ht _
   obtain⟨q1,q2,u,q3,q4⟩:=pP ii j _ ht
   rcases q4 with⟨u',e1,e2,e3⟩|⟨e1,e2,e3⟩|⟨i',e1,e2,e3⟩
   ·cases e1
   ·simp[Array.getD_eq_getD_getElem?,q3,e2,Gh.cd,Hn,Cw,e3]
   ·simp[Array.getD_eq_getD_getElem?,q3,e2,Gh.cd,Hn,Cw,e1]
  ·intro ii j ys ht _
   obtain⟨q1,q2,u,q3,q4⟩:=pP ii j _ ht
   rcases q4 with⟨u',e1,e2,e3⟩|⟨e1,e2,e3⟩|⟨i',e1,e2,e3⟩
   ·cases e1
   ·cases e1;exact .nil (by simp[Gh.cd,Hn,Cw,e3])
   ·have pS:=(a8 _ i' (Ki e1)).2
    refine e3.move rfl (λc p hc=>?_) λp=>?_
    ·have bI:=(hw.rel.fE c _ hc).2
     have cW:¬(w.heap.size=c):=by omega
     simp only[List.nil_append]at hc
     refine⟨?_,heap_alloc_old w _ c bI⟩
     have hdiv:(ii*te.sz+j)/te.sz=ii:=by rw[Nat.add_comm,Nat.add_mul_div_right _ _ fF,Nat.div_eq_of_lt q2];omega
     have Up:(ii*te.sz+j)%te.sz=j:=by rw[Nat.add_comm,Nat.add_mul_mod_self_right,Nat.mod_eq_of_lt q2]
     simp[Gh.cd,cW,hc,Aq,pS,hdiv,Up]
    ·simp[Gh.cd,Hn,Cw,e1]
theorem Uq(cQ:dg P cx)(h:Rel M B d up s ρ G a w)(hn:∀n,o.dst=some n->n<a.tmps.size){t n:Nat}{ps:Array (Nat×Operand)}(ho:o.op=.buildSlice t n ps)
  (hk:gv cx bY dS d o oi ⟨s.only R,[],ct,[]⟩=some k')(hd:k'.aO S ρ)(hM:∀i,ct.i<=i->i<k'.ct.i->¬M i):bf P (Mn M ct.i k'.ct.i) B d up ρ a w s o k'.w Q:=by
 have hw:=cG.start h R ct
 simp only[gv,ho,bU]at hk
 obtain⟨ti,eh,te,mK,hk⟩:=hk
 cases hc:(Nat.beq ti.kd 3&&Nat.ble (n*te.sz) 65536&&Nat.blt 0 te.sz)with
 |false=>simp[hc]at hk
 |true=>
  simp only[hc,cond_true,bU,aH]at hk
  simp only[bd]at hc
  obtain⟨⟨vP,oI⟩,Q0⟩:=hc
  obtain⟨l,hl,cs,jy,⟨k1,xs,dp⟩,q9,hk⟩:=hk
  simp only at hk
  have hT:=cQ.ty _ _ eh
  have hE:=cQ.ty _ _ mK
  obtain⟨i,z,o5,iU,Hk,yJ,sR⟩:=hE.info
  have hu:=hT.sl (cO vP)
  obtain⟨z8,qT⟩:=Ch (G:=G) (w:=w) (ρ:=ρ) sR
  have qA:z.cells.size=te.sz:=by
   have:=z8.length
   rw[hE.wO]at this
   simpa using this.symm
  have fF:0<te.sz:=Nat.lt_of_succ_le (by simpa[Nat.blt]using Q0)
  obtain⟨aN,g1,g2,g3,g4⟩:=DJ (a:=a) hw (fs:=(List.range n).map λi=>(i*te.sz,te.sz)) (place:=λi=>some (i*te.sz,te.sz)) (λf o hf=>by
   rw[List.getElem?_map]at hf
   cases hr:(List.range n)[f]? with
   |none=>simp[hr]at hf
   |some f'=>
    have bI:=(List.getElem?_eq_some_iff.1 hr).1
    rw[List.getElem?_eq_getElem bI,List.getElem_range,aH]at hr
    subst hr
    rw[List.getElem?_eq_getElem bI]at hf
    simpa using hf) ps.toList l (ml te.zero n) cs (madeCells z.cells (n*z.cells.size)) hl jy (Uj z8 n) (λi hi=>by rw[Kf qT]at hi;cases hi)
  cases hD:(bif cx.fz bY dS oi then none else Wk.bh ⟨s.only R,[],ct,[]⟩ (ml te.zero n) cs)with
  |some r=>
   obtain⟨kD,xsD⟩:=r
   simp only[Wk.p9,hD,aH,Prod.mk.injEq]at q9
   obtain⟨rfl,rfl,rfl⟩:=q9
   have hD':Wk.bh ⟨s.only R,[],ct,[]⟩ (ml te.zero n) cs=some (kD,xsD):=by
    cases qY:cx.fz bY dS oi with
    |true=>rw[qY]at hD;cases hD
    |false=>rw[qY]at hD;exact hD
   exact Un cQ h hn ho eh mK hu o5 iU yJ qA fF (Nat.le_of_ble_eq_true oI) z8 qT g1 ⟨g2,g3⟩ (by rw[g4,size_madeCells,qA]) hD' hk hd hM
  |none=>
  simp only[Wk.p9,hD]at q9
  obtain⟨a1,a2,a3,G2,w2,a4,a5,a6⟩:=Kd hw g2 q9
  generalize hy:k1.em (.lit te.sz (bif dp then(ml te.zero n).map (λz=>!dU z)else [])) xs=ky at hk
  obtain⟨k2,y⟩:=ky
  have xg:k2=(k1.em (.lit te.sz (bif dp then(ml te.zero n).map (λz=>!dU z)else [])) xs).1:=by rw[hy]
  have Uo:y=(k1.em (.lit te.sz (bif dp then(ml te.zero n).map (λz=>!dU z)else [])) xs).2:=by rw[hy]
  have lm:k1.dL k2:=by rw[xg];exact Wk.aT _ _ _
  have o3:bn d o {k2.set (.o (df k2.ct.i)) (.ob dp y)with ct:=⟨k2.ct.a,df k2.ct.i+1⟩} (.v false [.o (df k2.ct.i) []])=k':=hk
  have iv:k2.ct.i=ct.i:=by rw[lm.i,a1]
  have gy:(k1.em (.lit te.sz (bif dp then(ml te.zero n).map (λz=>!dU z)else [])) xs).1.aO S ρ:=by
   rw[<-xg]
   rw[<-o3]at hd
   have h2:=bZ.1 hd
   exact h2
  obtain⟨xb,r,hr,me⟩:=Wk.be gy
  rw[<-Uo]at me
  obtain⟨b1,b2,b3⟩:=a6.at
  have ry:aN.size=n*te.sz:=by rw[g4,size_madeCells,qA]
  have u0:(xs.map (Lf.ev ρ)).length=n*te.sz:=by rw[List.length_map,b1,Array.length_toList,ry]
  have xh:r=.l (kY te.sz n (xs.map (Lf.ev ρ)))∧mQ (bif dp then(ml te.zero n).map (λz=>!dU z)else []) (xs.map (Lf.ev ρ))=true:=by
   simp only[Prim.ev,u0,Nat.mul_div_cancel _ fF,if_pos fF]at hr
   split at hr
   ·rename_i hm
    exact⟨(Option.some.inj hr).symm,hm⟩
   ·cases hr
  obtain⟨rfl,rM⟩:=xh
  have mM:k'.ct.i=df ct.i+1:=by rw[<-o3,lH,<-iv]
  have jY:=uD ct.i
  let Hn:List (Nat×Nat)->Value:=λp=>match p with| []=>.slice (some ⟨w.heap.size,0,none⟩) n n|_=>.slice none 0 0
  have lg:∀p,∃a n c,Hn p=.slice a n c:=λp=>by cases p<;>exact⟨_,_,_,rfl⟩
  have da:(Instr.buildSlice t n (ps.map λ(i,x)=>(i,a.eval x))).run P w=.ok (.slice (some ⟨w.heap.size,0,none⟩) n n) (w.alloc (.cells aN ti.el)):=by
   have z9:(ps.map λ(x:Nat×Operand)=>(x.1,a.eval x.2)).toList=ps.toList.map λp=>(p.1,a.eval p.2):=by simp
   rw[<-z9,<-iU]at g1
   have:=Nat.le_of_ble_eq_true oI
   exact k5_ hu o5 yJ (by rw[qA,iU]) (by rw[iU];omega) (by rw[iU]at g1⊢;rw[<-qA]at g1⊢;exact g1)
  have fG:(execOp a.eval o).run P w=.ok (.value (Hn [])) (w.alloc (.cells aN ti.el)):=
   by
   unfold execOp
   simp only[ho]
   rw[Sem.run_bind,da]
   rfl
  rw[mM,<-o3,<-iv]
  refine bf.mono (M:=Mn M (df k2.ct.i) (df k2.ct.i+1)) ?_ (λi hi=>hi.imp_right λhi=>by rw[iv]at hi⊢;exact⟨by omega,hi.2⟩)
  have w3:=w2.same lm
  refine JS (nb:=some w.heap.size) (f:=some) (Hn:=Hn) (lg:=lg) (w':=w.alloc (.cells aN ti.el)) (k:={k2 with ct:=⟨k2.ct.a,df k2.ct.i⟩}) (W1:=[]) (t:=.l (kY te.sz n (xs.map (Lf.ev ρ))))
   h (show cG M B d up ρ G a w {k2 with ct:=⟨k2.ct.a,df k2.ct.i⟩} G2 from⟨w3.rel,w3.aF⟩) hn (hM _ (by show ct.i<=df k2.ct.i;rw[iv];exact jY) (by rw[mM];show df k2.ct.i<_;rw[iv];omega)) (λr=>by exact qm (k:=k2) r) (λr u hu=>by cases hu) (λl _=>rfl) (λl l' ⟨b,hb⟩ he=>by cases he;exact .inl (w2.rel.fE b _ hb).1)
   (λl l' hq he=>by cases he;exact hq) (λc hc=>by cases hc;exact .inl rfl) (by simp) (λc hc=>by cases hc;simp) (λb hb _=>heap_alloc_old w _ b hb) (z_ _ _) rfl me ?_ fG
  have hlen:(kY te.sz n (xs.map (Lf.ev ρ))).length=n:=Uk _ _ _
  have oF:∀b,b<w.heap.size->G2.q b=none->(G2.cd (some w.heap.size) (df k2.ct.i) some Hn lg).q b=none∧(w.alloc (.cells aN ti.el)).heap[b]?=w.heap[b]?:=by
   intro b hb h0
   have cW:some w.heap.size≠some b:=by simp;omega
   exact⟨Ag (λl l' hq he=>by cases he;exact hq) cW h0,heap_alloc_old w _ b hb⟩
  have pP:∀(ii j:Nat) (t:T),cP (kY te.sz n (xs.map (Lf.ev ρ))) ii j=some t->ii<n∧j<te.sz∧∃v,aN[ii*te.sz+j]?=some v∧dF G2.q w t v∧(dp=true->∀ys,t=.l ys->t=.l []∧v=.slice none 0 0):=by
   intro ii j t ht
   obtain⟨rr,_,hm,Cn,q1,q2⟩:=qd ht
   rw[hlen]at q1
   rw[Kg _ _ _ u0 rr hm]at q2
   rw[D_ _ _ _ _ _ u0 q1 q2]at ht
   obtain⟨zc,v,c1,c2,c3,c4⟩:=b3 _ t ht
   refine⟨q1,q2,v,by simpa using c2,c3,λeV ys Kl=>?_⟩
   subst eV
   cases hzn:dU zc with
   |true=>exact c4 rfl hzn
   |false=>
    have:=Kh _ _ rM (ii*te.sz+j) t (by simp[c1,hzn]) ht
    subst Kl
    simp[cF]at this
  refine .l (wd:=te.sz) (cv:=λii j=>aN.getD (ii*te.sz+j) undef) (by rw[hlen];simp[Gh.cd,Hn]) ⟨by rw[hlen];exact Nat.le_refl _,λhe=>by have:=congrArg List.length he;rw[hlen]at this;simpa using this⟩ (by simp[Gh.cd]) (heap_alloc_new w _) ⟨ry,.inl rfl⟩ (Kg _ _ _ u0) ?_ ?_ ?_ ?_ ?_
  ·intro ii j t ht
   obtain⟨q1,q2,v,q3,_⟩:=pP ii j t ht
   simp[Array.getD_eq_getD_getElem?,q3]
  ·intro ii j v ht
   obtain⟨q1,q2,u,q3,q4,_⟩:=pP ii j _ ht
   obtain⟨rfl,hs⟩:=q4.scalar
   exact⟨by simp[Array.getD_eq_getD_getElem?,q3],hs⟩
  ·intro ii j ys ht eV
   obtain⟨q1,q2,u,q3,q4,_⟩:=pP ii j _ ht
   have:=q4.aF (by simp) oF
   simpa[Array.getD_eq_getD_getElem?,q3]using this
  ·intro ii j ys ht eV
   obtain⟨q1,q2,u,q3,q4,q5⟩:=pP ii j _ ht
   obtain⟨_,rfl⟩:=q5 eV ys rfl
   simp[Array.getD_eq_getD_getElem?,q3,Gh.cd,Hn]
  ·intro ii j ys ht eV
   obtain⟨q1,q2,u,q3,q4,q5⟩:=pP ii j _ ht
   obtain⟨e1,rfl⟩:=q5 eV ys rfl
   cases e1
   exact .nil (by simp[Gh.cd,Hn])
theorem Km{t:TypeId}{cs:Array Value}{off:Nat}{v:Value}(ht:(∃k,P.underlying t=some (.int k))∨P.underlying t=some .bool∨P.underlying t=some .string)(hv:cs[off]?=some v):
  (part t cs off).run P w=.ok v w:=by
 have mL:(isAgg t).run P w=.ok false w:=by
  rcases ht with⟨k,ht⟩|ht|ht<;>simp[isAgg,run_underlying ht]
 simp[part,mL,hv]
def FTy(P:Program)(t:TypeId)(k:Nat):Prop:=(k=1∧∃i,P.underlying t=some (.int i))∨(k=4∧P.underlying t=some .bool)∨(k=2∧P.underlying t=some .string)
theorem Ur{d:Nat}{t:TypeId}{k:Nat}{x y:Value}{b:Bool}(ht:FTy P t k)(h:C7 k x y=some b):(Op.equalIn (d+1) t x y).run P w=.ok b w:=by
 unfold C7 at h
 split at h
 ·rename_i k a k' b'
  obtain⟨_,i,hu⟩:=ht.resolve_right (by simp)
  split at h
  ·rename_i hk;subst hk;cases h
   exact run_equalIn_int w d t _ _ _ _ hu
  ·cases h
 ·cases h
  have hu:P.underlying t=some .bool:=by rcases ht with⟨h,_⟩|⟨_,h⟩|⟨h,_⟩<;>simp_all
  exact run_equalIn_bool' w d t _ _ hu
 ·cases h
  have hu:P.underlying t=some .string:=by rcases ht with⟨h,_⟩|⟨h,_⟩|⟨_,h⟩<;>simp_all
  rw[run_equalIn_string w d t _ _ hu,<-beq_toListBytes]
 ·cases h
theorem Us{i:Nat}{z:Ce}{zs:List Ce}{f:Field}{fs:List Field}(h:qg P i (z::zs) (f::fs)=true):f.offset=i∧f.name≠"_"∧FTy P f.type (lk z)∧qg P (i+1) zs fs=true:=by
 simp only[qg,bd,decide_eq_true_eq]at h
 obtain⟨⟨⟨h1,h2⟩,h3⟩,h4⟩:=h
 refine⟨cO h1,h2,?_,h4⟩
 split at h3
 ·rename_i k hu;exact .inl ⟨cO h3,k,hu⟩
 ·rename_i hu;exact .inr (.inl ⟨cO h3,hu⟩)
 ·rename_i hu;exact .inr (.inr ⟨cO h3,hu⟩)
 ·cases h3
theorem Ko{d:Nat}{xs ys:Array Value}:∀{fs:List Field} {zs:List Ce} {i:Nat} {us vs:List T} {b:Bool},qg P i zs fs=true->sF (zs.map lk) us vs=some b->
  (∀(j:Nat) (v:Value),us[j]?=some (.c v)->xs[i+j]?=some v)->(∀(j:Nat) (v:Value),vs[j]?=some (.c v)->ys[i+j]?=some v)->(Op.eqFields (d+1) xs ys fs).run P w=.ok b w
 | [],[],i,[],[],b,_,h,_,_=>by simp[sF]at h;subst h;rfl
 | [],[],i,[],_::_,b,_,h,_,_=>by simp[sF]at h
 | [],[],i,_::_,vs,b,_,h,_,_=>by simp[sF]at h
 | [],_::_,i,us,vs,b,hf,h,_,_=>by simp[qg]at hf
 |_::_,[],i,us,vs,b,hf,h,_,_=>by simp[qg]at hf
 |f::fs,z::zs,i,[],vs,b,hf,h,_,_=>by simp[sF]at h
 |f::fs,z::zs,i,.l _::us,vs,b,hf,h,_,_=>by simp[sF]at h
 |f::fs,z::zs,i,.c x::us,[],b,hf,h,_,_=>by simp[sF]at h
 |f::fs,z::zs,i,.c x::us,.l _::vs,b,hf,h,_,_=>by simp[sF]at h
 |f::fs,z::zs,i,.c x::us,.c y::vs,b,hf,h,hx,hy=>by
  obtain⟨h1,h2,h3,h4⟩:=Us hf
  simp only[List.map_cons,sF,bU,aH]at h
  obtain⟨b1,po,b2,mq,rfl⟩:=h
  have ht:(∃k,P.underlying f.type=some (.int k))∨P.underlying f.type=some .bool∨P.underlying f.type=some .string:=by
   rcases h3 with⟨_,h⟩|⟨_,h⟩|⟨_,h⟩
   ·exact .inl h
   ·exact .inr (.inl h)
   ·exact .inr (.inr h)
  have p1:=Km (P:=P) (w:=w) ht (show xs[f.offset]?=some x by rw[h1];exact hx 0 x rfl)
  have p2:=Km (P:=P) (w:=w) ht (show ys[f.offset]?=some y by rw[h1];exact hy 0 y rfl)
  have ih:=Ko (d:=d) (xs:=xs) (ys:=ys) h4 mq (λj v hj=>by have:=hx (j+1) v (by simpa using hj);rw[<-this];congr 1;omega) (λj v hj=>by have:=hy (j+1) v (by simpa using hj);rw[<-this];congr 1;omega)
  simp only[Op.eqFields,h2,ne_eq,not_false_iff,if_true,Sem.run_bind]
  rw[p1]
  simp only[Result.andThen_ok]
  rw[p2]
  simp only[Result.andThen_ok,Ur h3 po]
  cases b1
  ·rfl
  ·exact ih
theorem Kp{cs:List Ce}{k k1:Wk}{xs:List Lf}{G1:Gh}{vs:List Value}(h:k.ie cs=some (k1,xs))(hd:k1.aO S ρ)(hr:aE G1 w ρ cs vs)(hk:cG M B d up ρ G a w k G1):
  (xs.map (Lf.ev ρ)).length=cs.length∧∀(j:Nat) (v:Value),(xs.map (Lf.ev ρ))[j]?=some (.c v)->vs[j]?=some v:=by
 obtain⟨ts,e1,e2,_,e4⟩:=Wk.fO h hd hr hk
 refine⟨by rw[List.length_map,e4,hr.length],λj v hj=>?_⟩
 rw[e1]at hj
 have bI:j<vs.length:=by rw[<-e2.length];exact(List.getElem?_eq_some_iff.1 hj).1
 have:=(e2.get j _ vs[j] hj (List.getElem?_eq_getElem bI)).scalar
 rw[List.getElem?_eq_getElem bI,this.1]
theorem Ut(cQ:dg P cx)(h:Rel M B d up s ρ G a w)(hn:∀n,o.dst=some n->n<a.tmps.size){op:BinOp}{t yt:TypeId}{x y:Operand}(ho:o.op=.binOp op t x y yt)
  {es bs:List Ce}(uP:bC d (Wk.get ⟨s.only R,[],ct,[]⟩) x=.v true es)(zZ:bC d (Wk.get ⟨s.only R,[],ct,[]⟩) y=.v true bs)
  (hk:gv cx bY dS d o oi ⟨s.only R,[],ct,[]⟩=some k')(hd:k'.aO S ρ):bf P M B d up ρ a w s o k'.w Q∧k'.ct.i=ct.i:=by
 have hw:=cG.start h R ct
 simp only[gv,ho,uP,zZ,bU]at hk
 obtain⟨ti,eh,hk⟩:=hk
 cases hc:(Nat.beq ti.kd 5&&Nat.beq es.length ti.sz)with
 |false=>simp[hc]at hk
 |true=>
  simp only[hc,cond_true,bU]at hk
  simp only[bd]at hc
  have hT:=cQ.ty _ _ eh
  obtain⟨fs,hu,yA,hp,hg,hef⟩:=hT.eq (cO hc.1)
  have Af:=cO hc.2
  obtain⟨tV,rO⟩:=hw.f_ x
  obtain⟨Dy,hmy⟩:=hw.f_ y
  rw[uP]at tV
  rw[zZ]at Dy
  obtain⟨us,DZ,o7⟩:=tV
  obtain⟨vs,nM,me⟩:=Dy
  obtain⟨⟨k1,r1⟩,Hs,oH⟩:=hk
  simp only[I2,bU]at Hs
  obtain⟨⟨k2,xs⟩,h1,⟨k3,ys⟩,h2,Hs⟩:=Hs
  simp only at Hs
  have iZ:=Wk.fN h1
  have lm:=Wk.fN h2
  have hfo:P.fieldsOf t=fs:=by simp[Program.fieldsOf,hu]
  have Ed:∀op,(eqGuard op t x y (.agg us.toArray) (.agg vs.toArray)).run P w=.ok () w:=λop=>run_eqGuard_agg w op t x y _ _ hg
  have key:(k3.em (.oY (ti.zero.map lk)) (xs++ys)).1.aO S ρ->∃b,(k3.em (.oY (ti.zero.map lk)) (xs++ys)).2.eE ρ=some (.c (.bool b))∧(Op.equalIn 10000 t (.agg us.toArray) (.agg vs.toArray)).run P w=.ok b w:=by
   intro tX
   obtain⟨xb,r,hr,Ee⟩:=Wk.be tX
   obtain⟨l2,g2⟩:=Kp h2 xb me (hw.same iZ)
   obtain⟨l1,g1⟩:=Kp h1 (Wk.j1 h2 xb) o7 hw
   simp only[Prim.ev,List.map_append,List.length_map]at hr
   have hz:ti.zero.length=(xs.map (Lf.ev ρ)).length:=by rw[l1,Af,hT.wO]
   rw[hz,List.take_left,List.drop_left]at hr
   obtain⟨b,hb,hr⟩:=Option.bind_eq_some_iff.1 hr
   cases hr
   refine⟨b,Ee,?_⟩
   rw[run_equalIn_struct w 9999 t _ _ (by rw[hfo];exact hu) hp,hfo]
   exact Ko (d:=9998) hef hb (λj v hj=>by simpa using g1 j v hj) (λj v hj=>by simpa using g2 j v hj)
  have fin:∀(kk:Wk) (y1:Lf) (b:Bool),bn d o kk (.v false [.p y1])=k'->cG M B d up ρ G a w kk G->kk.ct.i=ct.i->y1.eE ρ=some (.c (.bool b))->
    ((do eqGuard op t x y (a.eval x) (a.eval y);binOp op t (a.eval x) (a.eval y):Sem Value)).run P w=.ok (.bool b) w->bf P M B d up ρ a w s o k'.w Q∧k'.ct.i=ct.i:=by
   intro kk y1 b hp pJ hi hv hr
   subst hp
   refine⟨qh h pJ hn ?_ (QQ (v:=.bool b) hv rfl) (λi hi=>by simp[cD,cT]at hi) Q,by rw[lH];exact hi⟩
   unfold execOp
   rw[ho]
   show Sem.run P (do let v <-(do eqGuard op t x y (a.eval x) (a.eval y);binOp op t (a.eval x) (a.eval y):Sem Value);pure (Next.value v)) w=_
   rw[Sem.run_bind,hr];rfl
  have pJ:=((hw.same iZ).same lm).same (Wk.aT k3 (.oY (ti.zero.map lk)) (xs++ys))
  have iv:(k3.em (.oY (ti.zero.map lk)) (xs++ys)).1.ct.i=ct.i:=by rw[(Wk.aT _ _ _).i,lm.i,iZ.i]
  have hpd:∀{kk:Wk} {y1:Lf},bn d o kk (.v false [.p y1])=k'->kk.aO S ρ:=λhp=>by rw[<-hp]at hd;exact bZ.1 hd
  cases op<;>simp only at Hs<;>try cases Hs
  ·have hp:bn d o (k3.em (.oY (ti.zero.map lk)) (xs++ys)).1 (.v false [.p (k3.em (.oY (ti.zero.map lk)) (xs++ys)).2])=k':=Option.some.inj oH
   obtain⟨b,hb,da⟩:=key (hpd hp)
   refine fin _ _ b hp pJ iv hb ?_
   rw[DZ,nM,Sem.run_bind,Ed]
   simp only[Result.andThen_ok]
   rw[run_eql_struct,da];rfl
  ·have hp:bn d o ((k3.em (.oY (ti.zero.map lk)) (xs++ys)).1.em (.un .not) [(k3.em (.oY (ti.zero.map lk)) (xs++ys)).2]).1 (.v false [.p ((k3.em (.oY (ti.zero.map lk)) (xs++ys)).1.em (.un .not) [(k3.em (.oY (ti.zero.map lk)) (xs++ys)).2]).2])=k':=Option.some.inj oH
   obtain⟨tX,r,hr,Ee⟩:=Wk.be (hpd hp)
   obtain⟨b,hb,da⟩:=key tX
   simp only[List.map_cons,List.map_nil,Lf.a_ hb,Prim.ev,T.val,Option.bind_some,QM,aH]at hr
   subst hr
   refine fin _ _ (!b) hp (pJ.same (Wk.aT _ _ _)) (by rw[(Wk.aT _ _ _).i];exact iv) Ee ?_
   rw[DZ,nM,Sem.run_bind,Ed]
   simp only[Result.andThen_ok]
   rw[run_neq_struct,da];rfl
end
def Gh.stored(G:Gh)(id i off n:Nat)(mv:Mv):Gh where
 ω:=λc=>match G.ω c with
  |some (.o j p)=>if j=id then(match p with
    | []=>some (.o id [])
    |(r,k)::p=>if r=i∧off<=k∧k<off+n then none else some (.o id ((r,k)::p)))
   else(match jK mv j with
    |some q=>some (.o id ((i,off+q)::p))
    |none=>some (.o j p))
  |l=>l
 β:=G.β
 H:=λj p=>if j=id then(match p with
   | []=>G.H id []
   |(r,k)::p=>if r=i∧off<=k∧k<off+n then(match fP mv (k-off)with
     |some j2=>G.H j2 p
     |none=>.slice none 0 0)
    else G.H id ((r,k)::p))
  else G.H j p
 hs:=λj p=>by
  by_cases hj:j=id
  ·simp only[hj,if_true]
   cases p with
   |nil=>exact G.hs id []
   |cons x p=>
    obtain⟨r,k⟩:=x
    by_cases hc:r=i∧off<=k∧k<off+n
    ·simp only[if_pos hc]
     cases fP mv (k-off)with
     |none=>exact⟨_,_,_,rfl⟩
     |some j2=>exact G.hs j2 p
    ·simp only[if_neg hc];exact G.hs id _
  ·simp only[hj,if_false];exact G.hs j p
section
variable {M:Nat->Prop} {B:dE} {d:Nat} {up:Nat->Nat->Value} {ρ:List T} {G:Gh} {a:Act} {w:World} {S:Nat->ai} {P:Program}
variable {cx:Cx} {bY dS oi:Nat} {s:St} {R:List aK} {ct:Ct} {k':Wk} {o:Oper} {Q:Exit->Act->World->Prop}
theorem Gh.u4{G:Gh}{id i off n:Nat}{mv:Mv}(jY:id%4=0){c:Nat}{l:Lb}(hl:G.ω c=some l)(hq:qt l=true):
  (G.stored id i off n mv).ω c=none∨∃l',(G.stored id i off n mv).ω c=some l'∧qt l'=true:=by
 cases l with
 |o j p=>
  simp only[Gh.stored,hl]
  by_cases hj:j=id
  ·subst hj
   rw[if_pos rfl]
   cases p with
   |nil=>exact absurd hq (by rw[zQ (by omega)];simp)
   |cons x p=>
    obtain⟨r,k⟩:=x
    simp only
    split
    ·exact .inl rfl
    ·exact .inr ⟨_,rfl,hq⟩
  ·rw[if_neg hj]
   cases jK mv j with
   |some q=>exact .inr ⟨_,rfl,rp (by omega) (by simp)⟩
   |none=>exact .inr ⟨_,rfl,hq⟩
 |_=>simp[qt]at hq
theorem Uu{x ix:Lf}{ms:List Bool}{wd off i:Nat}{xs:List (List T)}{ts:List T}{t:T}(hx:x.eE ρ=some (.l xs))(hi:k_ ρ ix=some i)
  (h:Prim.ev (.mj ms wd off) (x.ev ρ::ix.ev ρ::ts)=some t):∃r,xs[i]?=some r∧r.length=wd∧off+ts.length<=r.length∧mQ ms ts=true∧t=.l (setRow xs i off ts):=by
 obtain⟨k,hk⟩:=Hc hi
 rw[Lf.a_ hx,hk]at h
 simp only[Prim.ev,Ja,T.rows,T.int,Option.bind_some,Int.toNat_natCast]at h
 cases hr:xs[i]? with
 |none=>simp[hr]at h
 |some r=>
  simp only[hr,Option.bind_some]at h
  split at h
  ·rename_i g1
   split at h
   ·rename_i g2
    split at h
    ·rename_i g3
     simp only[aH]at h
     exact⟨r,rfl,g1,by omega,g3,h.symm⟩
    ·cases h
   ·cases h
  ·cases h
theorem Uv(cQ:dg P cx)(h:Rel M B d up s ρ G a w)(hn:∀n,o.dst=some n->n<a.tmps.size){t:Nat}{x y:Operand}(ho:o.op=.store t x y)
  (hk:∃k1,C8 cx ⟨s.only R,[],ct,[]⟩ t (bC d (Wk.get ⟨s.only R,[],ct,[]⟩) x) (bC d (Wk.get ⟨s.only R,[],ct,[]⟩) y)=some k1∧bn d o k1 .un=k')(hd:k'.aO S ρ):bf P M B d up ρ a w s o k'.w Q∧k'.ct.i=ct.i:=by
 have hw:=cG.start h R ct
 obtain⟨k1,cM,rfl⟩:=hk
 have gy:=bZ.1 hd
 unfold C8 at cM
 split at cM
 ·rename_i id ix wd off hx
  simp only[bU]at cM
  obtain⟨ti,eh,cs,jy,cM⟩:=cM
  cases hl:(Nat.beq cs.length ti.sz&&ti.zero.any dU&&Nat.beq (id%4) 0)with
  |false=>simp[hl]at cM
  |true=>
   simp only[hl,cond_true]at cM
   simp only[bd]at hl
   have hlen:=cO hl.1.1
   have jY:id%4=0:=cO hl.2
   split at cM
   ·rename_i x0 su
    simp only[bU]at cM
    obtain⟨⟨k2,xs⟩,q9,cM⟩:=cM
    simp only at cM
    split at cM
    ·rename_i x1 Cz
     simp only[aH]at cM
     subst cM
     obtain⟨hr,hm⟩:=hw.f_ y
     obtain⟨tV,_⟩:=hw.f_ x
     rw[hx]at tV
     obtain⟨p,b,n,cap,i,hp,hH,hi,pN,Uw⟩:=tV
     simp only[lu,aH]at hp
     subst hp
     unfold cellsOf at jy
     split at jy
     ·rename_i ag es0 dh
      cases jy
      rw[dh]at hr hm
      have qW:=Jv hr
      have mX:=qW.length
      have Ef:(a.eval y).cells.toList.length=ti.sz:=by rw[<-mX,hlen]
      obtain⟨a1,a2,a3,a4,mv,W1,a5,a6,a7,a8,a9⟩:=Hq hw (show jJ ⟨s.only R,[],ct,[]⟩ ⟨s.only R,[],ct,[]⟩ [] from⟨rfl,λr=>by simp[St.look]⟩) (λr u h=>by cases h) qW hm q9 0
      rw[List.append_nil]at a5
      have c_:=hw.obj id
      rw[su]at c_
      obtain⟨tt,vR,aW⟩:=c_
      have t_:W1.look (.o id)=none:=by
       cases hl:W1.look (.o id)with
       |none=>rfl
       |some u=>
        obtain⟨_,j,_,rfl,_,_⟩:=a7 _ _ hl
        have:k2.get (.o id)=.un:=by unfold Wk.get;rw[a5.2,hl];simp
        rw[this]at Cz;cases Cz
      have Kq:∀q j,(q,j)∈mv->j≠id:=by
       intro q j hq he
       subst he
       have:=(a6 q j hq).2.2.1
       rw[t_]at this;cases this
      have ahX:jK mv id=none:=by
       cases hm:jK mv id with
       |none=>rfl
       |some q=>exact absurd rfl (Kq q id (Ap hm))
      obtain⟨ahY,t',mu,yG⟩:=Wk.be gy
      cases aW with
      |nil qs=>rw[hH]at qs;cases qs
      | @l _ _ rows b' z6 qk aN elem fr cv g1 g2 g3 g4 g5 g6 g7 g8 g9 qU wQ=>
       rw[hH]at g1
       cases g1
       simp only[List.map_cons]at mu
       obtain⟨r,nF,rz,yH,rM,rfl⟩:=Uu vR hi mu
       have q7:=a9 mv (λ_ _=>rfl) λj t ⟨xx,hxx,ht⟩ qz=>by
        refine Kh _ _ rM j t ?_ ?_
        ·cases Ec:ti.zero[j]? with
         |none=>rw[Ec]at qz;cases qz
         |some zc=>rw[Ec]at qz;simp at qz;simp[Ec,qz]
        ·rw[List.getElem?_map,hxx];simp[Lf.a_ ht]
       obtain⟨b1,b3⟩:=q7.at
       have hrw:r.length=z6:=g6 r (List.mem_of_getElem? nF)
       have mf:wd=z6:=by rw[<-rz,hrw]
       subst mf
       have mV:(xs.map (Lf.ev ρ)).length=(a.eval y).cells.toList.length:=by rw[List.length_map,b1]
       have hT:=cQ.ty _ _ eh
       have hib:i<rows.length:=(List.getElem?_eq_some_iff.1 nF).1
       have jZ:i*wd+off+(a.eval y).cells.toList.length<=aN.size:=by
        rw[g5.1]
        have:(i+1)*wd<=cap*wd:=Nat.mul_le_mul_right _ (by omega)
        rw[Nat.add_mul]at this
        omega
       have da:=QU (P:=P) (t:=t) hT (b:=b) (off:=i*wd+off) (v:=a.eval y) (by rw[<-Ef];simp) g4 g5.2 (by simpa using jZ) (λu hu=>qW.one u hu)
       rw[<-Uw]at da
       have fG:=QV (P:=P) ho da
       generalize Kr:(aN.toList.take (i*wd+off)++(a.eval y).cells.toList++aN.toList.drop (i*wd+off+(a.eval y).cells.toList.length)).toArray=gI at fG
       have xi:gI=uT (a.eval y).cells.toList (i*wd+off) aN:=by
        rw[<-Kr]
        exact Array.ext' (by rw[QR _ _ _ jZ])
       have wX:∀k,gI[k]?=if i*wd+off<=k∧k<i*wd+off+(a.eval y).cells.toList.length then(a.eval y).cells.toList[k-(i*wd+off)]? else aN[k]?:=λk=>by rw[xi];exact Hi _ _ _ _ jZ
       have rP:M id:=(hw.rel.fE b _ g3).1
       have Ar:∀i' j' ,i'<rows.length->j'<wd->((i*wd+off<=i'*wd+j'∧i'*wd+j'<i*wd+off+(a.eval y).cells.toList.length)↔(i'=i∧off<=j'∧j'<off+(a.eval y).cells.toList.length)):=by
        intro i' j' bw ss
        rw[mV]at yH
        constructor
        ·rintro⟨h1,h2⟩
         have qe:i'=i:=by
          rcases Nat.lt_trichotomy i' i with bI|heq|DP
          ·have:(i'+1)*wd<=i*wd:=Nat.mul_le_mul_right _ bI
           rw[Nat.add_mul]at this;omega
          ·exact heq
          ·have:(i+1)*wd<=i'*wd:=Nat.mul_le_mul_right _ DP
           rw[Nat.add_mul]at this;omega
         subst qe
         exact⟨rfl,by omega,by omega⟩
        ·rintro⟨rfl,h1,h2⟩
         omega
       let ts:=xs.map (Lf.ev ρ)
       let G':=G.stored id i off (a.eval y).cells.toList.length mv
       have hK:cJ (mU (dN d o .un++((aK.o id,SV.ob true (k2.em (.mj (ti.zero.map λz=>!dU z) wd off) (x0::ix::xs)).2)::W1))) (λ_=>False) G w G' (w.setRow b gI):=by
        have sZ:∀j p,¬mU (dN d o .un++((aK.o id,SV.ob true (k2.em (.mj (ti.zero.map λz=>!dU z) wd off) (x0::ix::xs)).2)::W1)) (.o j p)->j≠id∧jK mv j=none:=by
         intro j p hj
         constructor
         ·intro e
          subst e
          refine hj ?_
          show St.look _ (aK.o j)≠none
          rw[jz]
          intro e
          have:=(Option.or_eq_none_iff.1 e).2
          simp[St.look,aK.beq]at this
         ·cases hm:jK mv j with
          |none=>rfl
          |some q=>
           exfalso
           refine hj ?_
           show St.look _ (aK.o j)≠none
           rw[jz]
           intro e
           have h1:=(Option.or_eq_none_iff.1 e).2
           have h2:=(a6 q j (Ap hm)).2.2.1
           simp only[St.look]at h1
           cases hb:(aK.o id).beq (.o j)with
           |true=>rw[hb]at h1;cases h1
           |false=>rw[hb]at h1;simp only[cond_false]at h1;rw[h2]at h1;cases h1
        refine⟨by rw[Co];exact Nat.le_refl _,λc hc h0=>⟨B' h0 (λh1=>by simp[G',Gh.stored,h1]) λl hl hq=>?_,setRow_other _ _ _ _ λe=>?_⟩,λc hc h0=>by simp[G',Gh.stored,h0],λc l hc hn=>⟨?_,setRow_other _ _ _ _ λe=>?_⟩,λj _=>⟨rfl,λp hp=>?_⟩⟩
        ·exact Gh.u4 (by omega) hl hq
        ·subst e;exact B_ g3 (zQ (by omega)) h0
        ·cases l with
         |f=>simp[G',Gh.stored,hc]
         |x j=>simp[G',Gh.stored,hc]
         |o j p=>obtain⟨h1,h2⟩:=sZ j p hn;simp[G',Gh.stored,hc,h1,h2]
        ·subst e
         rw[g3]at hc
         cases hc
         exact(sZ id [] hn).1 rfl
        ·by_cases hj:j=id
         ·subst hj
          rcases hp with rfl|hp|hp
          ·simp[G',Gh.stored]
          ·omega
          ·exact absurd rfl (sZ j [] (hp [])).1
         ·simp[G',Gh.stored,hj]
       refine⟨?_,by rw[lH];show k2.ct.i=ct.i;rw[a1]⟩
       simp only[bf,Oper.wp,fG,Oper.upon]
       have hWk:∀r',(bn d o ((k2.em (.mj (ti.zero.map λz=>!dU z) wd off) (x0::ix::xs)).1.set (.o id) (.ob true (k2.em (.mj (ti.zero.map λz=>!dU z) wd off) (x0::ix::xs)).2)) .un).w.look r'=
         (St.look (dN d o .un++((aK.o id,SV.ob true (k2.em (.mj (ti.zero.map λz=>!dU z) wd off) (x0::ix::xs)).2)::W1)) r').or (St.look (Wk.w ⟨s.only R,[],ct,[]⟩) r'):=by
        refine DM (W2:=(aK.o id,SV.ob true (k2.em (.mj (ti.zero.map λz=>!dU z) wd off) (x0::ix::xs)).2)::W1) (λr'=>?_)
        rw[show((k2.em (.mj (ti.zero.map λz=>!dU z) wd off) (x0::ix::xs)).1.set (.o id) (.ob true (k2.em (.mj (ti.zero.map λz=>!dU z) wd off) (x0::ix::xs)).2)).w.look r'=_ from qm r']
        rw[show(k2.em (.mj (ti.zero.map λz=>!dU z) wd off) (x0::ix::xs)).1.w.look r'=k2.w.look r' from rfl,a5.2 r',<-Option.or_assoc]
        congr 1
        simp only[St.look]
        cases(aK.o id).beq r'<;>simp
       refine⟨G',Ci h hw (W2:=dN d o .un++((aK.o id,SV.ob true (k2.em (.mj (ti.zero.map λz=>!dU z) wd off) (x0::ix::xs)).2)::W1)) hWk hK (λi hi=>hi.elim) (λi hi=>hi) (λn n9=>Cl n9) (DR _ _ _) ?_,vN _ _ _⟩
       have xj:∀c,c≠b->(w.setRow b gI).heap[c]?=w.heap[c]?:=λc hc=>setRow_other _ _ _ _ hc
       have Kt:(w.setRow b gI).heap[b]?=some (.cells gI elem fr):=setRow_heap _ _ _ _ _ _ g4
       have Ku:dx G' (w.setRow b gI) id true [] (.l (setRow rows i off ts)):=by
        have Eg:=λi' j'=>DO (xs:=rows) (ts:=ts) nF yH i' j'
        have Ht:ts.length=(a.eval y).cells.toList.length:=mV
        refine .l (wd:=wd) (cv:=λi' j'=>gI.getD (i'*wd+j') undef) (by rw[yF];simpa[G',Gh.stored]using hH) ⟨by rw[yF];exact g2.1,λhe=>g2.2 (by have:=congrArg List.length he;rw[yF]at this;exact List.eq_nil_of_length_eq_zero this)⟩ (by simp[G',Gh.stored,g3]) Kt
         (by rw[xi,Cg];exact g5) (JB g6 nF yH) ?_ ?_ (λ_ _ _ _ hf=>by cases hf) ?_ ?_
        all_goals
         intro i' j'
         have As:∀t,cP (setRow rows i off ts) i' j'=some t->i'<rows.length∧j'<wd:=by
          intro t ht
          obtain⟨rr,_,il,_,q1,q2⟩:=qd ht
          rw[yF]at q1
          exact⟨q1,by rw[<-JB g6 nF yH rr il];exact q2⟩
        ·intro t ht
         obtain⟨q1,q2⟩:=As t ht
         have bI:i'*wd+j'<gI.size:=by
          rw[xi,Cg,g5.1]
          exact Nat.lt_of_lt_of_le (w8 q1 q2) (Nat.mul_le_mul_right _ g2.1)
         simp[Array.getD_eq_getD_getElem?,bI]
        ·intro v ht
         obtain⟨q1,q2⟩:=As _ ht
         rw[Eg]at ht
         rw[Array.getD_eq_getD_getElem?,wX]
         split at ht
         ·rename_i hc
          rw[Ht]at hc
          rw[if_pos ((Ar i' j' q1 q2).2 hc)]
          obtain⟨u,hu,my⟩:=b3 (j'-off) _ ht
          rw[show i'*wd+j'-(i*wd+off)=j'-off by rw[hc.1];omega,hu]
          rcases my with⟨u',e1,e2,e3⟩|⟨e1,_⟩|⟨_,_,_,e1⟩
          ·cases e1;subst e2;exact⟨rfl,e3⟩
          ·cases e1
          ·cases e1
         ·rename_i hc
          rw[Ht]at hc
          rw[if_neg (λhh=>hc ((Ar i' j' q1 q2).1 hh)),g7 i' j' _ ht]
          exact g8 i' j' v ht
        ·intro ys ht _
         obtain⟨q1,q2⟩:=As _ ht
         rw[Eg]at ht
         rw[Array.getD_eq_getD_getElem?,wX]
         split at ht
         ·rename_i hc
          rw[Ht]at hc
          rw[if_pos ((Ar i' j' q1 q2).2 hc)]
          obtain⟨u,hu,my⟩:=b3 (j'-off) _ ht
          rw[show i'*wd+j'-(i*wd+off)=j'-off by rw[hc.1];omega,hu]
          rw[Nat.zero_add]at my
          rcases my with⟨u',e1,_⟩|⟨e1,e2,e3⟩|⟨i2,e1,e2,_⟩
          ·cases e1
          ·have Au:i'=i∧off<=j'∧j'<off+(a.eval y).cells.size:=by simpa using hc
           simp[G',Gh.stored,Au,e2,e3]
          ·have Au:i'=i∧off<=j'∧j'<off+(a.eval y).cells.size:=by simpa using hc
           simp[G',Gh.stored,Au,e2,e1]
         ·rename_i hc
          rw[Ht]at hc
          rw[if_neg (λhh=>hc ((Ar i' j' q1 q2).1 hh)),g7 i' j' _ ht]
          have:=qU i' j' ys ht rfl
          simp only[List.nil_append]at this
          simp only[Option.getD_some,this,List.nil_append]
          show _=(if id=id then _ else _)
          rw[if_pos rfl]
          simp only[if_neg hc]
        ·intro ys ht _
         obtain⟨q1,q2⟩:=As _ ht
         rw[Eg]at ht
         split at ht
         ·rename_i hc
          rw[Ht]at hc
          obtain⟨u,hu,my⟩:=b3 (j'-off) _ ht
          rw[Nat.zero_add]at my
          rcases my with⟨u',e1,_⟩|⟨e1,e2,e3⟩|⟨i2,e1,e2,e3⟩
          ·cases e1
          ·cases e1
           have Au:i'=i∧off<=j'∧j'<off+(a.eval y).cells.size:=by simpa using hc
           exact .nil (by simp[G',Gh.stored,Au,e3])
          ·have pS:=(a8 _ i2 (Ki e1)).2
           have cW:=Kq _ i2 (Ki e1)
           refine e3.move rfl (λc q oI=>?_) λq=>?_
           ·simp only[List.nil_append]at oI
            refine⟨?_,xj c λe=>?_⟩
            ·simp only[G',Gh.stored,oI,if_neg cW,pS]
             rw[hc.1,show off+(j'-off)=j' by omega]
             rfl
            ·subst e;rw[g3]at oI;cases oI;exact cW rfl
           ·simp only[G',Gh.stored,List.nil_append,List.cons_append,if_true,if_pos hc,e1]
         ·rename_i hc
          rw[Ht]at hc
          have:=wQ i' j' ys ht rfl
          simp only[List.nil_append]at this⊢
          refine this.move rfl (λc q oI=>?_) λq=>?_
          ·refine⟨?_,xj c λe=>?_⟩
           ·simp only[List.cons_append,List.nil_append]at oI⊢
            simp only[G',Gh.stored,oI,if_true,if_neg hc]
           ·subst e;rw[g3]at oI;cases oI
          ·simp only[G',Gh.stored,List.cons_append,List.nil_append,if_true,if_neg hc]
       refine⟨λe n u he hl=>?_,λb u hl=>?_,λj u hl=>?_,λr u hl j hj=>?_,λj hj=>?_,λc l hc=>?_⟩
       ·rcases iW hl with⟨n',fi,e1,rfl⟩|hl
        ·trivial
        ·rcases gJ hl with⟨e1,_⟩|hl
         ·cases e1
         ·obtain⟨_,j,e1,_⟩:=a7 _ _ hl;cases e1
       ·rcases iW hl with⟨n',fi,e1,rfl⟩|hl
        ·cases e1
        ·rcases gJ hl with⟨e1,_⟩|hl
         ·cases e1
         ·obtain⟨_,j,e1,_⟩:=a7 _ _ hl;cases e1
       ·rcases iW hl with⟨n',fi,e1,rfl⟩|hl
        ·cases e1
        ·rcases gJ hl with⟨e1,rfl⟩|hl
         ·cases e1;exact⟨_,yG,Ku⟩
         ·obtain⟨_,j',e1,rfl,_⟩:=a7 _ _ hl;trivial
       ·rcases iW hl with⟨n',fi,e1,rfl⟩|hl
        ·simp[cD]at hj
        ·rcases gJ hl with⟨e1,rfl⟩|hl
         ·simp[cD]at hj
         ·obtain⟨_,j',e1,rfl,_⟩:=a7 _ _ hl;simp[cD]at hj
       ·have:∀r:aK,(r=.x j∨r=.o j)->St.look (dN d o .un++((aK.o id,SV.ob true (k2.em (.mj (ti.zero.map λz=>!dU z) wd off) (x0::ix::xs)).2)::W1)) r≠none->M j:=by
         intro r hr hl
         obtain⟨u,hu⟩:=Option.ne_none_iff_exists'.1 hl
         rcases iW hu with⟨n',fi,e1,rfl⟩|hl
         ·rcases hr with rfl|rfl<;>cases e1
         ·rcases gJ hl with⟨e1,_⟩|hl
          ·rcases hr with rfl|rfl
           ·cases e1
           ·cases e1;exact rP
          ·obtain⟨_,j',e1,_,hm,_⟩:=a7 _ _ hl
           rcases hr with rfl|rfl
           ·cases e1
           ·cases e1;exact hm
        rcases hj with hj|hj
        ·exact this _ (.inl rfl) hj
        ·exact this _ (.inr rfl) hj
       ·rw[Co]
        cases Kv:G.ω c with
        |none=>simp[G',Gh.stored,Kv]at hc
        |some l'=>
         have gx:=hw.rel.fE c l' Kv
         refine⟨?_,gx.2⟩
         cases l' with
         |f=>simp[G',Gh.stored,Kv]at hc;subst hc;exact gx.1
         |x j=>simp[G',Gh.stored,Kv]at hc;subst hc;exact gx.1
         |o j p=>
          simp only[G',Gh.stored,Kv]at hc
          split at hc
          ·rename_i hj
           subst hj
           split at hc
           ·cases hc;exact rP
           ·split at hc
            ·cases hc
            ·cases hc;exact rP
          ·split at hc
           ·cases hc;exact rP
           ·cases hc;exact gx.1
     ·cases jy
    ·cases cM
   ·cases cM
 ·cases cM
theorem Kw{k kw:Wk}{G1 G2:Gh}{j:Nat}{W1:St}{V:SV}{val:Value}(h:Rel M B d up s ρ G a w)(hk:cG M B d up ρ G a w k G1)(hn:∀n,o.dst=some n->n<a.tmps.size)(hM:¬M j)
  (K:cJ (mU W1) (λi=>i=j) G1 w G2 w)(JT:∀r,kw.w.look r=(W1.look r).or (k.w.look r))
  (t_:∀r u,W1.look r=some u->∃i,r=.o i∧cb G2 w ρ i u∧(M i∨i=j)∧∀x∈cD u,M x∨x=j)
  (hV:ca G2 w ρ V val)(iX:∀i∈cD V,M i∨i=j)(iE:∀b l,G2.ω b=some l->(M l.id∨l.id=j)∧b<w.heap.size)
  (hx:(execOp a.eval o).run P w=.ok (.value val) w):bf P (Mn M j (j+1)) B d up ρ a w s o (bn d o kw V).w Q:=by
 have mn:∀{i:Nat},(M i∨i=j)->Mn M j (j+1) i:=λh=>h.imp_right λe=>by subst e;exact⟨Nat.le_refl _,Nat.lt_succ_self _⟩
 have K2:cJ (mU (dN d o V++W1)) (λi=>i=j) G1 w G2 w:=K.mono (λl hl=>by
  cases l with
  |f=>exact hl
  |x b=>
   exfalso
   obtain⟨u,hu⟩:=Option.ne_none_iff_exists'.1 hl
   obtain⟨i,e1,_⟩:=t_ _ _ hu
   cases e1
  |o i p=>
   show St.look _ (aK.o i)≠none
   rw[jz]
   exactλe=>hl (Option.or_eq_none_iff.1 e).2) λ_ hi=>hi
 simp only[bf,Oper.wp,hx,Oper.upon]
 refine⟨G2,Ci h hk (W2:=dN d o V++W1) (DM (W2:=W1) JT) K2 (λi hi=>by subst hi;exact hM) (λi hi=>.inl hi) (λn n9=>Cl n9) ⟨rfl,rfl,rfl⟩ ?_,vN _ _ _⟩
 refine⟨λe n u he hl=>?_,λb u hl=>?_,λi u hl=>?_,λr u hl i hi=>?_,λi hi=>?_,λb l hb=>⟨mn (iE b l hb).1,(iE b l hb).2⟩⟩
 ·rcases iW hl with⟨n',fi,e1,rfl⟩|hl
  ·cases e1
   rw[fi,Hb (hn _ fi)]
   exact hV
  ·obtain⟨i,e1,_⟩:=t_ _ _ hl;cases e1
 ·rcases iW hl with⟨n',fi,e1,rfl⟩|hl
  ·cases e1
  ·obtain⟨i,e1,_⟩:=t_ _ _ hl;cases e1
 ·rcases iW hl with⟨n',fi,e1,rfl⟩|hl
  ·cases e1
  ·obtain⟨i',e1,e2,_⟩:=t_ _ _ hl;cases e1;exact e2
 ·rcases iW hl with⟨n',fi,e1,rfl⟩|hl
  ·exact mn (iX i hi)
  ·obtain⟨i',e1,_,_,e4⟩:=t_ _ _ hl;exact mn (e4 i hi)
 ·have:∀r:aK,(r=.x i∨r=.o i)->St.look (dN d o V++W1) r≠none->Mn M j (j+1) i:=by
   intro r hr hl
   obtain⟨u,hu⟩:=Option.ne_none_iff_exists'.1 hl
   rcases iW hu with⟨n',fi,e1,rfl⟩|hl
   ·rcases hr with rfl|rfl<;>cases e1
   ·obtain⟨i',e1,_,e3,_⟩:=t_ _ _ hl
    rcases hr with rfl|rfl
    ·cases e1
    ·cases e1;exact mn e3
  rcases hi with hi|hi
  ·exact this _ (.inl rfl) hi
  ·exact this _ (.inr rfl) hi
def Gh.al(G:Gh)(j:Nat)(v:Value)(hv:∃a n c,v=.slice a n c):Gh where
 ω:=G.ω
 β:=G.β
 H:=λi=>if i=j thenλ_=>v else G.H i
 hs:=λi p=>by
  by_cases h:i=j
  ·simp only[h,if_true];exact hv
  ·simp only[h,if_false];exact G.hs i p
theorem Ux{j:Nat}{v:Value}{hv:∃a n c,v=.slice a n c}{I:Lb->Prop}:cJ I (λi=>i=j) G w (G.al j v hv) w:=
 ⟨Nat.le_refl _,λb _ hb=>⟨hb,rfl⟩,λb _ hb=>hb,λb l hl _=>⟨hl,rfl⟩,λi hi=>⟨rfl,λp _=>by simp[Gh.al,hi]⟩⟩
theorem Uy{ω:Nat->Option Lb}{H:List (Nat×Nat)->Value}{n l h sz:Nat}{ao:Option Addr}{len cap:Nat}{xs:List (List T)}(hd:dF ω w (.l xs) (.slice ao len cap))(hh:nD w H n (.slice ao len cap) xs)(sW:l<=h)(hx:h<=xs.length)(j3:xs.length<=cap)(dP:okW sz xs=true):
  nD w H (n+l) (sliced ao l h cap sz) ((xs.take h).drop l):=by
 intro b off k c hv
 unfold sliced at hv
 by_cases he:l=h
 ·refine⟨0,λr hr=>?_,λi j ys aS=>?_⟩
  ·subst he;simp at hr
  ·subst he;simp[cP]at aS
 ·have cW:¬(cap=l):=by omega
  rw[if_neg cW]at hv
  cases hd with
  |nil=>simp at hx;omega
  | @l _ b0 xk wd0 _ cv0 g1 g2 g3 g4 g5 g6=>
   simp only[Option.map_some,Addr.add_lit]at hv
   cases hv
   obtain⟨wd,h1,h2⟩:=hh b xk _ _ rfl
   have mf:wd=sz:=by
    cases xs with
    |nil=>simp at hx;omega
    |cons r xs=>rw[<-h1 r (by simp)];exact cO dP
   subst mf
   refine⟨wd,λr hr=>h1 r (List.mem_of_mem_take (List.mem_of_mem_drop hr)),λi j ys aS=>?_⟩
   have:=h2 _ _ _ (DU aS)
   rw[Nat.add_mul]at this
   rw[show xk+l*wd+(i*wd+j)=xk+(l*wd+i*wd+j) by omega,this,Nat.add_assoc]
theorem Uz{k k1:Wk}{G1:Gh}(hk:cG M B d up ρ G a w k G1){x:Operand}{ls:List Lf}{f:Operand->SV}(hf:ca G1 w ρ (f x) (a.eval x))
  (h:nN k f (some x)=some (k1,ls))(hd:k1.aO S ρ):∃y t,ls=[y]∧y.eE ρ=some t∧dF (er G1.ω) w t (a.eval x):=by
 simp only[nN,bU,aH,Prod.mk.injEq]at h
 obtain⟨⟨k2,y⟩,h1,rfl,rfl⟩:=h
 obtain⟨_,_,t,e3,e4⟩:=Wk.eK hk h1 hd hf
 exact⟨y,t,rfl,e3,e4⟩
theorem UA(cQ:dg P cx)(h:Rel M B d up s ρ G a w)(hn:∀n,o.dst=some n->n<a.tmps.size){t:Nat}{x:Operand}{lo hi mx:Option Operand}(ho:o.op=.slice t x lo hi mx)
  {kv:Wk×SV}(fQ:(bif mx.isSome then none else wy cx ⟨s.only R,[],ct,[]⟩ t (bC d (Wk.get ⟨s.only R,[],ct,[]⟩) x) (lo.map (bC d (Wk.get ⟨s.only R,[],ct,[]⟩))) (hi.map (bC d (Wk.get ⟨s.only R,[],ct,[]⟩))))=some kv)
  (hk:bn d o kv.1 kv.2=k')(hd:k'.aO S ρ)(hM:∀i,ct.i<=i->i<k'.ct.i->¬M i):bf P (Mn M ct.i k'.ct.i) B d up ρ a w s o k'.w Q:=by
 have hw:=cG.start h R ct
 cases mx with
 |some m=>simp at fQ
 |none=>
  simp only[Option.isSome_none,cond_false]at fQ
  have JN:=(hw.f_ x).1
  have rO:=(hw.f_ x).2
  unfold wy at fQ
  split at fQ
  ·rename_i id dh
   rw[dh]at JN rO
   split at fQ
   ·rename_i tk x0 l0 y iX
    simp only[bU]at fQ
    obtain⟨ti,eh,te,mK,fQ⟩:=fQ
    cases hc:(Nat.beq ti.kd 3&&B6 l0)with
    |false=>simp[hc]at fQ
    |true=>
     simp only[hc,cond_true,bU,aH]at fQ
     simp only[bd]at hc
     obtain⟨⟨k3,ls⟩,h1,⟨k4,hs⟩,h2,u5⟩:=fQ
     have mW:nN ⟨s.only R,[],ct,[]⟩ (bC d (Wk.get ⟨s.only R,[],ct,[]⟩)) lo=some (k3,ls):=by
      cases lo with
      |none=>exact h1
      |some l=>exact h1
     have sX:nN k3 (bC d (Wk.get ⟨s.only R,[],ct,[]⟩)) hi=some (k4,hs):=by
      cases hi with
      |none=>exact h2
      |some l=>exact h2
     subst u5
     have dG:bn d o {((k4.em (.sub te.sz lo.isSome hi.isSome) (y::(ls++hs))).1.set (.o (df k4.ct.i)) (.fz (.w tk x0 (ls.headD (.k (.int .i64 0)))) (k4.em (.sub te.sz lo.isSome hi.isSome) (y::(ls++hs))).2))with
       ct:=⟨(k4.em (.sub te.sz lo.isSome hi.isSome) (y::(ls++hs))).1.ct.a,df k4.ct.i+1⟩} (.v false [.o (df k4.ct.i) []])=k':=by
      rw[<-hk]
      cases lo<;>cases hi<;>rfl
     have gy:(k4.em (.sub te.sz lo.isSome hi.isSome) (y::(ls++hs))).1.aO S ρ:=by
      rw[<-dG]at hd
      have h2:=bZ.1 hd
      exact h2
     obtain⟨Cf,r,hr,me⟩:=Wk.be gy
     have f_:∀z,ca G w ρ (bC d (Wk.get ⟨s.only R,[],ct,[]⟩) z) (a.eval z):=λz=>(hw.f_ z).1
     have CA:∀{ka kb:Wk} {b:Option Operand} {zs:List Lf},nN ka (bC d (Wk.get ⟨s.only R,[],ct,[]⟩)) b=some (kb,zs)->ka.dL kb:=by
      intro ka kb b zs hb
      unfold nN at hb
      split at hb
      ·simp only[aH,Prod.mk.injEq]at hb;obtain⟨rfl,_⟩:=hb;exact .refl _
      ·simp only[bU,aH,Prod.mk.injEq]at hb
       obtain⟨⟨k5,y5⟩,h5,rfl,_⟩:=hb
       unfold Wk.one at h5
       split at h5
       ·exact Wk.cX h5
       ·cases h5
     have s3:=CA mW
     have s4:=CA sX
     obtain⟨tX,_,mq⟩:=QY (hw.same s3) (f:=bC d (Wk.get ⟨s.only R,[],ct,[]⟩)) (λz _=>f_ z) sX Cf
     obtain⟨_,_,po⟩:=QY hw (f:=bC d (Wk.get ⟨s.only R,[],ct,[]⟩)) (λz _=>f_ z) mW tX
     have c_:=hw.obj id
     rw[iX]at c_
     obtain⟨tz,hy,db,Ao,F,n0,zs,hF,rK,rfl,uX,rA,wT⟩:=c_
     have uS:n0=0:=DF hc.2 rK
     subst uS
     simp only[List.map_cons,Lf.a_ hy]at hr
     obtain⟨xs,hxs,dP,hr⟩:=JM hr
     cases hxs
     obtain⟨l,hh,CB,mX,qX⟩:=DV (F:=λl h=>if 0<=l then(if l<=h then(if h<=zs.length then some (T.l ((zs.take h.toNat).drop l.toNat))else none)else none)else none) po mq hr
     split at CB
     ·rename_i h0
      split at CB
      ·rename_i sW
       split at CB
       ·rename_i JP
        simp only[aH]at CB
        subst CB
        obtain⟨e,he,n_,_⟩:=JN
        cases he
        obtain⟨p,hp,dM⟩:=n_
        simp only[lu,aH]at hp
        subst hp
        have uW:=db
        rw[<-dM]at uW
        obtain⟨ao,cap,qV,j3⟩:=uW.rows
        have hT:=cQ.ty _ _ eh
        have hE:=cQ.ty _ _ mK
        obtain⟨i,zz,o5,iU,_⟩:=hE.info
        have qs:zs.length<=cap:=by
         by_cases hz:zs=[]
         ·subst hz;simp
         ·exact j3 hz
        have nG:=k8_ (P:=P) (w:=w) (hT.sl (cO hc.1)) ⟨i,o5,iU⟩ (ao:=ao) qs mX qX h0 sW JP
        rw[<-qV]at nG
        have fG:(execOp a.eval o).run P w=.ok (.value (sliced ao l.toNat hh.toNat cap te.sz)) w:=
         yD (x:=Instr.sliceAt t (a.eval x) (lo.map a.eval) (hi.map a.eval) none) (by unfold execOp;rw[ho];rfl) nG
        have hsv:∃a n c,sliced ao l.toNat hh.toNat cap te.sz=.slice a n c:=by unfold sliced;exact⟨_,_,_,rfl⟩
        rw[qV]at uW
        have i_:=uW.sub (l:=l.toNat) (h:=hh.toNat) (sz:=te.sz) (by omega) (by omega) dP
        have iv:k4.ct.i=ct.i:=by rw[s4.i,s3.i]
        have mM:k'.ct.i=df ct.i+1:=by rw[<-dG,lH,<-iv]
        have jY:=uD ct.i
        rw[mM,<-dG,<-iv]
        refine bf.mono (M:=Mn M (df k4.ct.i) (df k4.ct.i+1)) ?_ (λi hi=>hi.imp_right λhi=>by rw[iv]at hi⊢;exact⟨by omega,hi.2⟩)
        have rP:M id:=rO id (by simp[cD,cT])
        have xl:M tk:=hw.rel.eY (.o id) tk (by rw[<-Wk.aD,iX];simp[cD])
        have Cy:¬M (df k4.ct.i):=hM _ (by rw[iv];exact jY) (by rw[mM,iv];omega)
        have cW:tk≠df k4.ct.i:=λe=>Cy (e▸xl)
        refine Kw (j:=df k4.ct.i) (G2:=G.al (df k4.ct.i) (sliced ao l.toNat hh.toNat cap te.sz) hsv) (W1:=[(.o (df k4.ct.i),.fz (.w tk x0 (ls.headD (.k (.int .i64 0)))) (k4.em (.sub te.sz lo.isSome hi.isSome) (y::(ls++hs))).2)])
         h (hw.same (s3.trans (s4.trans (Wk.aT k4 (.sub te.sz lo.isSome hi.isSome) (y::(ls++hs)))))) hn Cy Ux (λr=>by rw[rB];exact qm (k:=(k4.em (.sub te.sz lo.isSome hi.isSome) (y::(ls++hs))).1) r▸(by rw[rB])) (λr u hl=>?_) ?_ (λi hi=>by simp[cD,cT]at hi;exact .inr hi) (λb l hb=>⟨.inl (hw.rel.fE b l hb).1,(hw.rel.fE b l hb).2⟩) fG
        ·rcases gJ hl with⟨e1,e2⟩|hl
         ·subst e1 e2
          refine⟨_,rfl,⟨_,me,?_,Ao,F,l.toNat,_,hF,?_,rfl,λi r hg=>?_,?_,λrK b off k c hv=>?_⟩,.inr rfl,λi hi=>by simp[cD]at hi;subst hi;exact .inl xl⟩
          ·simpa[Gh.al,Gh.q]using i_
          ·rcases mX with⟨e1,rfl⟩|⟨kk,e1⟩
           ·rcases po with⟨rfl,rfl⟩|⟨z,yy,tt,rfl,_⟩
            ·simp[k_,Lf.eE,iY]
            ·simp at e1
           ·cases lo with
            |none=>simp at e1
            |some z=>
             obtain⟨yy,tt,e5,ht,lz⟩:=Uz hw (f_ z) mW tX
             subst e5
             simp only[Option.map_some,aH]at e1
             rw[e1]at lz
             have htt:tt=.c (.int kk l):=by
              generalize hq:Value.int kk l=q at lz
              cases lz with
              |c _=>rfl
              |nil=>cases hq
              |l=>cases hq
             rw[htt]at ht
             simp only[List.headD_cons]
             exact Jr ht h0
          ·rw[List.getElem?_drop,List.getElem?_take]at hg
           split at hg
           ·have:=uX _ _ hg
            rw[Nat.zero_add]at this
            exact this
           ·cases hg
          ·have h3:nD w (G.H tk) 0 (.slice ao zs.length cap) zs:=by rw[<-qV,dM];exact rA
           have h4:=Uy uW h3 (l:=l.toNat) (h:=hh.toNat) (sz:=te.sz) (by omega) (by omega) qs dP
           rw[Nat.zero_add]at h4
           simpa[Gh.al,cW]using h4
          ·simp only[Gh.al,if_true]at hv
           have hl:l.toNat=0:=rK
           unfold sliced at hv
           rw[hl]at hv
           split at hv
           ·cases hv
            exact wT rfl b off _ _ (by rw[<-dM];exact qV)
           ·generalize qS:Value.slice ao zs.length cap=vv at uW
            cases uW with
            |nil=>
             cases qS
             rename_i aa _
             cases ao with
             |none=>simp at hv
             |some ad=>
              obtain⟨b0,xk,r0⟩:=ad
              cases r0 with
              |none=>
               simp only[Option.map_some,Addr.add_lit,Nat.zero_mul,Nat.add_zero]at hv
               cases hv
               exact wT rfl b off _ _ (by rw[<-dM];exact qV)
              |some sp=>simp[Addr.add]at hv
            | @l _ b0 xk wd0 _ cv0 g1 g2 g3 g4 g5 g6=>
             cases qS
             simp only[Option.map_some,Addr.add_lit,Nat.zero_mul,Nat.add_zero]at hv
             cases hv
             exact wT rfl b off _ _ (by rw[<-dM];exact qV)
         ·cases hl
        ·exact⟨_,rfl,⟨[],rfl,by simp[Gh.al]⟩,λz hz=>by unfold sliced at hz;cases hz⟩
       ·cases CB
      ·cases CB
     ·cases CB
   ·cases fQ
  ·cases fQ
theorem Wk.m0:∀(zs:List Ce) (k:Wk) (y ix:Lf) (j wd off:Nat),k.dL (k.lE y ix j wd off zs).1
 | [],k,_,_,_,_,_=>.refl k
 |z::zs,k,y,ix,j,wd,off=>by
  unfold Wk.lE
  cases dU z with
  |true=>exact(Wk.aT k _ _).trans (Wk.m0 zs _ y ix j wd (off+1))
  |false=>exact(Wk.aT k _ _).trans (Wk.m0 zs _ y ix j wd (off+1))
theorem Wk.mz:∀(zs:List Ce) (k:Wk) (y ix:Lf) (j wd off:Nat),(k.lE y ix j wd off zs).1.aO S ρ->k.aO S ρ
 | [],_,_,_,_,_,_,h=>h
 |z::zs,k,y,ix,j,wd,off,h=>by
  unfold Wk.lE at h
  cases hz:dU z with
  |true=>rw[hz]at h;exact(Wk.be (Wk.mz zs _ y ix j wd (off+1) h)).1
  |false=>rw[hz]at h;exact(Wk.be (Wk.mz zs _ y ix j wd (off+1) h)).1
theorem Wk.oM{y ix:Lf}{xs:List (List T)}{i wd j b base:Nat}{Hd:Nat->Value}(hx:y.eE ρ=some (.l xs))(hi:k_ ρ ix=some i)
  (fC:∀r,xs[i]?=some r->r.length=wd->∀c t,r[c]?=some t->∃u,w.cell? ⟨b,base+c,none⟩=some u∧(∀v,t=.c v->u=v∧iY v=true)∧∀ys,t=.l ys->u=Hd c):
  ∀(zs:List Ce) (k:Wk) (off:Nat),(k.lE y ix j wd off zs).1.aO S ρ->
   ∃vs:List Value,vs.length=zs.length∧(∀c v,vs[c]?=some v->w.cell? ⟨b,base+off+c,none⟩=some v)∧(∀i∈cT (k.lE y ix j wd off zs).2.1,i=j)∧
    ((zs.filter dU).length=0->∀G1:Gh,aE G1 w ρ (k.lE y ix j wd off zs).2.1 vs)∧
    ((zs.filter dU).length=1->∃r c0 ys,xs[i]?=some r∧r.length=wd∧r[c0]?=some (.l ys)∧(k.lE y ix j wd off zs).2.2.eE ρ=some (.l ys)∧∀G1:Gh,G1.H j []=Hd c0->aE G1 w ρ (k.lE y ix j wd off zs).2.1 vs)
 | [],k,off,_=>⟨[],rfl,λc v hc=>by simp at hc,λi hi=>by simp[Wk.lE,cT]at hi,λ_ _=>trivial,λh=>by simp at h⟩
 |z::zs,k,off,hd=>by
  unfold Wk.lE at hd⊢
  cases hz:dU z with
  |true=>
   rw[hz]at hd
   simp only[cond_true]at hd⊢
   obtain⟨_,t,ht,yG⟩:=Wk.be (Wk.mz zs _ _ _ _ _ (off+1) hd)
   obtain⟨ys,rfl,aS,r,h1,h2⟩:=zX hx hi ht
   have h3:r[off]?=some (.l ys):=by simpa[cP,h1]using aS
   obtain⟨u,h5,_,h6⟩:=fC r h1 h2 off _ h3
   obtain⟨vs,g1,g2,g3,g4,g5⟩:=Wk.oM hx hi fC zs _ (off+1) hd
   refine⟨u::vs,by simp[g1],λc v hc=>?_,λi hi=>?_,λh0=>by simp[hz]at h0,λUB=>⟨r,off,ys,h1,h2,h3,yG,λG1 hG=>⟨⟨[],rfl,by rw[h6 ys rfl,hG]⟩,g4 (by simpa[hz]using UB) G1⟩⟩⟩
   ·cases c with
    |zero=>simp at hc;subst hc;simpa using h5
    |succ c=>
     have:=g2 c v (by simpa using hc)
     rwa[show base+(off+1)+c=base+off+(c+1) by omega]at this
   ·simp only[cT,List.mem_cons]at hi
    rcases hi with hi|hi
    ·exact hi
    ·exact g3 i hi
  |false=>
   rw[hz]at hd
   simp only[cond_false]at hd⊢
   obtain⟨_,t,ht,yG⟩:=Wk.be (Wk.mz zs _ _ _ _ _ (off+1) hd)
   obtain⟨r,h1,h2,h3,h4⟩:=DD (sc:=true) hx hi ht
   obtain⟨c,rfl⟩:=DE (h4 rfl)
   obtain⟨u,h5,h6,_⟩:=fC r h1 h2 off _ h3
   obtain⟨rfl,hs⟩:=h6 c rfl
   obtain⟨vs,g1,g2,g3,g4,g5⟩:=Wk.oM hx hi fC zs _ (off+1) hd
   refine⟨u::vs,by simp[g1],λc v hc=>?_,λi hi=>g3 i (by simpa[cT]using hi),λh0 G1=>⟨⟨.c u,yG,.c hs⟩,g4 (by simpa[hz]using h0) G1⟩,λUB=>?_⟩
   ·cases c with
    |zero=>simp at hc;subst hc;simpa using h5
    |succ c=>
     have:=g2 c v (by simpa using hc)
     rwa[show base+(off+1)+c=base+off+(c+1) by omega]at this
   ·obtain⟨r',c0,ys,e1,e2,e3,e4,e5⟩:=g5 (by simpa[hz]using UB)
    exact⟨r',c0,ys,e1,e2,e3,e4,λG1 hG=>⟨⟨.c u,yG,.c hs⟩,e5 G1 hG⟩⟩
theorem UC{m i r:T}(h:Prim.ev .wu [m,i]=some r):∃us kk n,m=.l us∧i=.c (.int kk n)∧0<=n∧n.toNat+1<=us.length∧wv us n.toNat 1=true∧r=.l (B4 us n.toNat 1):=by
 cases m with
 |c v=>simp[Prim.ev]at h
 |l us=>
  cases i with
  |l _=>simp[Prim.ev]at h
  |c v=>
   cases v with
   |int kk n=>
    simp only[Prim.ev]at h
    split at h
    ·split at h
     ·split at h
      ·cases h
       exact⟨us,kk,n,rfl,rfl,by assumption,by assumption,by assumption,rfl⟩
      ·cases h
     ·cases h
    ·cases h
   |_=>simp[Prim.ev]at h
def Gh.jc(G:Gh)(tk j i c0:Nat):Gh where
 ω:=λb=>match G.ω b with
  |some (.o n ((r,c)::p))=>if n=tk∧r=i∧c=c0 then some (.o j p)else some (.o n ((r,c)::p))
  |l=>l
 β:=G.β
 H:=λn=>if n=j thenλp=>G.H tk ((i,c0)::p)else G.H n
 hs:=λn p=>by
  by_cases h:n=j
  ·simp only[h,if_true];exact G.hs tk _
  ·simp only[h,if_false];exact G.hs n p
theorem UD{tk j i c0:Nat}(h4:j%4=2){I:Lb->Prop}(hI:∀p,I (.o tk p)):cJ I (λn=>n=j) G w (G.jc tk j i c0) w:=by
 refine⟨Nat.le_refl _,λb _ hb=>⟨B' hb (λh0=>by simp[Gh.jc,h0]) λl hl hq=>?_,rfl⟩,λb _ hb=>by simp[Gh.jc,hb],λb l hl hn=>⟨?_,rfl⟩,λn hn=>⟨rfl,λp _=>by simp[Gh.jc,hn]⟩⟩
 ·cases l with
  |o n p=>
   cases p with
   |nil=>exact .inr ⟨_,by simp[Gh.jc,hl],hq⟩
   |cons x p=>
    obtain⟨r,c⟩:=x
    simp only[Gh.jc,hl]
    split
    ·exact .inr ⟨_,rfl,Dv h4⟩
    ·exact .inr ⟨_,rfl,hq⟩
  |_=>simp[qt]at hq
 ·cases l with
  |o n p=>
   cases p with
   |nil=>simp[Gh.jc,hl]
   |cons x p=>
    obtain⟨r,c⟩:=x
    have:n≠tk:=λe=>hn (e▸hI _)
    simp[Gh.jc,hl,this]
  |_=>simp[Gh.jc,hl]
theorem UE(cQ:dg P cx)(h:Rel M B d up s ρ G a w)(hn:∀n,o.dst=some n->n<a.tmps.size){x:Operand}{t:Nat}(ho:o.op=.load t x){kv:Wk×SV}
  (fQ:C_ cx ⟨s.only R,[],ct,[]⟩ t (bC d (Wk.get ⟨s.only R,[],ct,[]⟩) x)=some kv)(hk:bn d o kv.1 kv.2=k')(hd:k'.aO S ρ)(hM:∀i,ct.i<=i->i<k'.ct.i->¬M i):
  bf P (Mn M ct.i k'.ct.i) B d up ρ a w s o k'.w Q:=by
 have hw:=cG.start h R ct
 obtain⟨hr,hm⟩:=hw.f_ x
 unfold C_ at fQ
 split at fQ
 ·rename_i id ix wd off dh
  rw[dh]at hr hm
  simp only[bU]at fQ
  obtain⟨ti,eh,fQ⟩:=fQ
  split at fQ
  ·rename_i tk x0 lo y iX
   split at fQ
   ·rename_i y0 m Ao
    cases hc:(B6 lo&&x0.beq y0&&Nat.beq (ti.zero.filter dU).length 1&&Nat.beq ti.zero.length ti.sz)with
    |false=>simp[hc]at fQ
    |true=>
     simp only[hc,cond_true,aH]at fQ
     simp only[bd]at hc
     obtain⟨⟨⟨c1,c2⟩,c3⟩,c4⟩:=hc
     have J_:=Lf.beq_eq c2
     subst J_
     have mY:=cO c3
     have ql:=cO c4
     subst fQ
     obtain⟨kr,Q_⟩:∃kr,(Wk.lE ⟨s.only R,[],ct,[]⟩ y ix (mb ct.i) wd off ti.zero)=kr:=⟨_,rfl⟩
     have dG:bn d o {(((kr.1.em .wu [m,ix]).1.set (.o tk) (.tk x0 (kr.1.em .wu [m,ix]).2)).set (.o (mb ct.i)) (.fl kr.2.2))with ct:=⟨(kr.1.em .wu [m,ix]).1.ct.a,mb ct.i+1⟩} (.v ti.ag kr.2.1)=k':=by
      rw[<-hk,<-Q_]
     have gy:(kr.1.em .wu [m,ix]).1.aO S ρ:=by
      rw[<-dG]at hd
      have h2:=bZ.1 hd
      exact h2
     obtain⟨xb,r1,nF,me⟩:=Wk.be gy
     rw[<-Q_]at xb
     obtain⟨p,b,n,cap,i,e1,e2,e3,e4,e5⟩:=hr
     simp only[lu,aH]at e1
     subst e1
     have obj:=hw.obj id
     have J':=hw.obj tk
     rw[iX]at obj
     rw[Ao]at J'
     obtain⟨tt,ht,db,UF,F,n0,zs,hF,mW,rfl,uX,rA,_⟩:=obj
     have uS:n0=0:=DF c1 mW
     subst uS
     obtain⟨_,F',u,Ka,hu,hlen,lB⟩:=J'
     rw[hF]at Ka
     cases Ka
     rw[e2]at db
     obtain⟨yI,w1,w2⟩:=rA b 0 n cap e2
     obtain⟨vs,g1,g2,g3,_,g5⟩:=Wk.oM (S:=S) (w:=w) (b:=b) (base:=i*wd) (j:=mb ct.i) (Hd:=λc=>G.H tk [(i,c)]) (wd:=wd) ht e3 (λr ij hl c t' iN=>by
      obtain⟨v',hc,n9⟩:=(db.row ij hl).2.2 c t' iN
      rw[Nat.zero_add]at hc
      refine⟨v',hc,λv he=>by subst he;exact n9.scalar,λys he=>?_⟩
      subst he
      have mf:yI=wd:=by rw[<-w1 r (List.mem_of_getElem? ij),hl]
      have aS:cP zs i c=some (.l ys):=by simp[cP,ij,iN]
      have:=w2 i c ys aS
      rw[Nat.zero_add,Nat.zero_add,mf,hc]at this
      exact Option.some.inj this) ti.zero _ off xb
     rw[Q_]at g3 g5
     obtain⟨row,c0,ys,q1,q2,q3,q4,q5⟩:=g5 mY
     have hT:=cQ.ty _ _ eh
     have da:=Jj (P:=P) (w:=w) hT (b:=b) (off:=i*wd+off) (vs:=vs) (by rw[g1,ql]) g2
     have fG:(execOp a.eval o).run P w=.ok (.value (if ti.ag then .agg vs.toArray else vs.getD 0 undef)) w:=by
      refine yD (x:=Instr.loadAt t (a.eval x)) (by unfold execOp;rw[ho]) ?_
      rw[e5];exact da
     obtain⟨kk,hix⟩:=Hc e3
     simp only[List.map_cons,List.map_nil,Lf.a_ hu,hix]at nF
     obtain⟨us,kk2,n2,f1,f2,f3,f4,f5,rfl⟩:=UC nF
     cases f1
     cases f2
     have iU:((i:Int)).toNat=i:=Int.toNat_natCast i
     rw[iU]at f4 f5 me
     have s1:Wk.dL ⟨s.only R,[],ct,[]⟩ kr.1:=by rw[<-Q_];exact Wk.m0 _ _ _ _ _ _ _
     have mM:k'.ct.i=mb ct.i+1:=by rw[<-dG,lH]
     have hle:=IZ ct.i
     rw[mM,<-dG]
     refine bf.mono (M:=Mn M (mb ct.i) (mb ct.i+1)) ?_ (λi hi=>hi.imp_right λhi=>⟨by omega,hi.2⟩)
     have xl:M tk:=hw.rel.eY (.o id) tk (by rw[<-Wk.aD,iX];simp[cD])
     have Cy:¬M (mb ct.i):=hM _ hle (by rw[mM];omega)
     have cW:tk≠mb ct.i:=λe=>Cy (e▸xl)
     have uQ:=I0 ct.i
     have free:=J8 f4 f5 (i:=0) (by omega)
     obtain⟨r',UG,UH⟩:=free
     obtain⟨o1,o2⟩:=lB _ _ UG UH
     have CC:=uX _ _ q1
     rw[Nat.zero_add]at CC
     rw[Nat.add_zero,CC]at o1
     cases o1
     have aW:=o2 c0 ys q3
     rw[Nat.add_zero]at aW
     have sZ:∀q,mU [(aK.o (mb ct.i),SV.fl kr.2.2),(aK.o tk,SV.tk x0 (kr.1.em .wu [m,ix]).2)] (.o tk q):=by
      intro q
      show St.look _ (aK.o tk)≠none
      simp only[St.look]
      cases(aK.o (mb ct.i)).beq (.o tk)<;>simp[(aK.beq_iff (r:=aK.o tk)).2 rfl]
     refine Kw (j:=mb ct.i) (G2:=G.jc tk (mb ct.i) i c0) (W1:=[(.o (mb ct.i),.fl kr.2.2),(.o tk,.tk x0 (kr.1.em .wu [m,ix]).2)])
      h (hw.same (s1.trans (Wk.aT kr.1 .wu [m,ix]))) hn Cy (UD uQ sZ) (λr=>?_) (λr u' hl=>?_) ?_ (λi hi=>.inr (g3 i hi)) (λb l hb=>?_) fG
     ·show(((kr.1.em .wu [m,ix]).1.w.set (.o tk) _).set (.o (mb ct.i)) _).look r=_
      simp only[St.look]
      by_cases h1:aK.o (mb ct.i)=r
      ·subst h1;rw[St.aJ];simp[(aK.beq_iff (r:=aK.o (mb ct.i))).2 rfl]
      ·have b1:(aK.o (mb ct.i)).beq r=false:=by
        cases hb:(aK.o (mb ct.i)).beq r with
        |false=>rfl
        |true=>exact absurd (aK.beq_iff.1 hb) h1
       rw[St.bP _ _ h1,b1]
       by_cases h2:aK.o tk=r
       ·subst h2;rw[St.aJ];simp[(aK.beq_iff (r:=aK.o tk)).2 rfl]
       ·have b2:(aK.o tk).beq r=false:=by
         cases hb:(aK.o tk).beq r with
         |false=>rfl
         |true=>exact absurd (aK.beq_iff.1 hb) h2
        rw[St.bP _ _ h2,b2];simp
     ·rcases gJ hl with⟨e1,e2⟩|hl
      ·subst e1 e2
       refine⟨_,rfl,⟨uQ,_,q4,?_⟩,.inr rfl,λi hi=>by simp[cD]at hi⟩
       refine aW.move rfl (λb q hb=>⟨?_,rfl⟩) λq=>?_
       ·simp only[List.cons_append,List.nil_append]at hb⊢
        simp only[Gh.jc,hb]
        rw[if_pos (by refine⟨?_,?_,?_⟩<;>trivial)]
       ·simp[Gh.jc]
      ·rcases gJ hl with⟨e1,e2⟩|hl
       ·subst e1 e2
        refine⟨tk,rfl,⟨UF,F,_,hF,me,by rw[J6 f4];exact hlen,λi' r hg Kx=>?_⟩,.inl xl,λi hi=>by simp[cD]at hi⟩
        obtain⟨g1,g2⟩:=J7 f4 hg Kx
        obtain⟨g3,g4⟩:=lB i' r g1 Kx
        refine⟨g3,λc l' pR=>(g4 c l' pR).move rfl (λb q hb=>⟨?_,rfl⟩) λq=>?_⟩
        ·simp only[List.cons_append,List.nil_append]at hb⊢
         simp only[Gh.jc,hb]
         rw[if_neg (by omega)]
        ·simp[Gh.jc,cW]
       ·cases hl
     ·exact Jl hT (q5 _ (by simp[Gh.jc])) (by rw[g1,ql])
     ·cases hg:G.ω b with
      |none=>simp[Gh.jc,hg]at hb
      |some l0=>
       have rK:=hw.rel.fE b l0 hg
       refine⟨?_,rK.2⟩
       cases l0 with
       |o n' p=>
        cases p with
        |nil=>simp[Gh.jc,hg]at hb;subst hb;exact .inl rK.1
        |cons x p=>
         obtain⟨r,c⟩:=x
         simp only[Gh.jc,hg]at hb
         split at hb
         ·cases hb;exact .inr rfl
         ·cases hb;exact .inl rK.1
       |_=>simp[Gh.jc,hg]at hb;subst hb;exact .inl rK.1
   ·cases fQ
  ·cases fQ
 ·cases fQ
end
def bz(G:Gh)(w:World):List Ck->List Value->List T->List (Option Nat)->Prop
 | [],[],[],[]=>True
 | .s::ks,v::vs,t::ts,x::is=>x=none∧dF G.q w t v∧cF t=true∧bz G w ks vs ts is
 | .p::ks,v::vs,t::ts,x::is=>x=none∧dF G.q w t v∧bz G w ks vs ts is
 | .o dp::ks,v::vs,t::ts,none::is=>v=.slice none 0 0∧t=.l []∧bz G w ks vs ts is
 | .o dp::ks,v::vs,t::ts,some id::is=>v=G.H id []∧dx G w id dp [] t∧bz G w ks vs ts is
 |_,_,_,_=>False
def Ky(G:Gh)(w:World)(r:Bool×List Ck)(c:Value)(ts:List T)(is:List (Option Nat)):Prop:=
 match r.1 with
 |true=>∃vs:List Value,c=.agg vs.toArray∧bz G w r.2 vs ts is
 |false=>bz G w r.2 [c] ts is∧∀x,c≠.agg x
def gK(G:Gh)(w:World):List (Bool×List Ck)->List Value->List T->List (Option Nat)->Prop
 | [],[],[],[]=>True
 |r::rs,v::vs,ts,is=>∃t1 t2 i1 i2,ts=t1++t2∧is=i1++i2∧Ky G w r v t1 i1∧gK G w rs vs t2 i2
 |_,_,_,_=>False
def Eh(G:Gh)(w:World)(rs:List (Bool×List Ck))(v:Value)(ts:List T)(is:List (Option Nat)):Prop:=
 match rs with
 | []=>ts=[]∧is=[]
 | [r]=>gK G w [r] [v] ts is
 |rs=>∃vs:List Value,v=.tuple vs.toArray∧gK G w rs vs ts is
section
variable {w:World}
def gg(G:Gh)(w:World)(bl:Nat->Option Nat):Nat->List PS->List T->Prop
 |_,[],ts=>ts=[]
 |i,.v _ _::ps,ts=>gg G w bl (i+1) ps ts
 |i,.x n::ps,ts=>∃b aN elem t1 t2,bl i=some b∧G.ω b=some (.x i)∧w.heap[b]?=some (.cells aN elem (0,0))∧ts=t1++t2∧t1.length=n∧dy G.q w t1 aN.toList∧
   gg G w bl (i+1) ps t2
def u6(ω:Nat->Option Lb)(w:World)(bl:Nat->Option Nat):Nat->List PS->List Value->List T->Prop
 |_,[],args,ts=>args=[]∧ts=[]
 |i,.v ag n::ps,args,ts=>∃c dQ vs t1 t2,args=c::dQ∧ts=t1++t2∧t1.length=n∧(match ag with|true=>c=.agg vs.toArray|false=>vs=[c]∧∀x,c≠.agg x)∧dy ω w t1 vs∧
   u6 ω w bl (i+1) ps dQ t2
 |i,.x n::ps,args,ts=>∃c dQ b aN elem t1 t2,args=c::dQ∧c=.pointer (some ⟨b,0,none⟩)∧bl i=some b∧ω b=some (.x i)∧w.heap[b]?=some (.cells aN elem (0,0))∧ts=t1++t2∧t1.length=n∧dy ω w t1 aN.toList∧
   u6 ω w bl (i+1) ps dQ t2
structure ua (sg:mR) (mJ:Nat->Option Lb) (bl:Nat->Option Nat) (w:World):Prop where
 fE:∀b l,mJ b=some l->b<w.heap.size∧(l=.f∨∃i,l=.x i∧bl i=some b)
 bl:∀i b,bl i=some b->i<sg.ps.length∧mJ b=some (.x i)
 gl:zV mJ w
structure mA (sg:mR) (w:World) (mJ:Nat->Option Lb) (bl:Nat->Option Nat) (outs:List T) (v:Value) (w':World) (G:Gh) (is:List (Option Nat)) (o1 o2:List T):Prop where
 so:iw w w'
 size:w.heap.size<=w'.heap.size
 free:∀b,b<w.heap.size->mJ b=none->G.ω b=none∧w'.heap[b]?=w.heap[b]?
 yz:∀b,mJ b=some .f->G.ω b=some .f∧w'.heap[b]?=w.heap[b]?
 fE:∀b l,G.ω b=some l->b<w'.heap.size
 qq:ou sg=true->∀b,G.q b=none->G.ω b=none
 outs:outs=o1++o2
 nodup:(is.filterMap id).Nodup
 ret:Eh G w' sg.rs v o1 is
 box:gg G w' bl 0 sg.ps o2
def Av(P:Program)(sg:mR)(f:FuncId)(F:ai):Prop:=
 ∀(w:World) (mJ:Nat->Option Lb) (bl:Nat->Option Nat) (args:List Value) (ts outs:List T),F ts=some outs->ua sg mJ bl w->u6 mJ w bl 0 sg.ps args ts->
  Calls P f args.toArray w λe w'=>∃v G is o1 o2,e=.returned v∧mA sg w mJ bl outs v w' G is o1 o2
structure gh (G G':Gh):Prop where
 o:∀b,G'.ω b=G.ω b∨(G'.ω b=none∧∃i p,G.ω b=some (.o i p))
 β:G'.β=G.β
 H:G'.H=G.H
theorem gh.refl(G:Gh):gh G G:=⟨λ_=>.inl rfl,rfl,rfl⟩
theorem gh.trans{G1 G2 G3:Gh}(h:gh G1 G2)(h':gh G2 G3):gh G1 G3:=by
 refine⟨λb=>?_,h'.β.trans h.β,h'.H.trans h.H⟩
 rcases h'.o b with h1|⟨h1,i,p,h2⟩
 ·rcases h.o b with h3|⟨h3,h4⟩
  ·exact .inl (h1.trans h3)
  ·exact .inr ⟨h1.trans h3,h4⟩
 ·rcases h.o b with h3|⟨h3,h4⟩
  ·exact .inr ⟨h1,i,p,by rw[<-h3];exact h2⟩
  ·rw[h3]at h2;cases h2
theorem gh.UI{G G':Gh}(h:gh G G'){b:Nat}(hb:G.ω b=none):G'.ω b=none:=by
 rcases h.o b with h1|⟨h1,_⟩
 ·rw[h1,hb]
 ·exact h1
theorem gh.q{G G':Gh}(h:gh G G'){b:Nat}(hb:G.q b=none):G'.q b=none:=by
 refine B' hb h.UI λl hl hq=>?_
 rcases h.o b with h1|⟨h1,_⟩
 ·exact .inr ⟨l,by rw[h1,hl],hq⟩
 ·exact .inl h1
theorem gh.x{G G':Gh}(h:gh G G'){b:Nat}{l:Lb}(hb:G.ω b=some l)(hl:∀i p,l≠.o i p):G'.ω b=some l:=by
 rcases h.o b with h1|⟨_,i,p,h1⟩
 ·rw[h1,hb]
 ·rw[hb]at h1;cases h1;exact absurd rfl (hl i p)
theorem gh.er{G G':Gh}(h:gh G G'){b:Nat}(hb:er G.ω b=none):er G'.ω b=none:=by
 unfold Go.Proofs.YtbhplkilhknciaaC.er at hb⊢
 cases hg:G.ω b with
 |none=>rw[h.UI hg]
 |some l=>
  rw[hg]at hb
  cases l with
  |f=>cases hb
  |x i=>cases hb
  |o i p=>
   rcases h.o b with h1|⟨h1,_⟩
   ·rw[h1,hg]
   ·rw[h1]
theorem gh.aF{G G':Gh}(h:gh G G')(w:World):cJ (λl=>∃i p,l=.o i p) (λ_=>False) G w G' w:=
 ⟨Nat.le_refl _,λb _ hb=>⟨h.q hb,rfl⟩,λb _ hb=>h.UI hb,λb l hb hl=>⟨h.x hb λi p e=>hl ⟨i,p,e⟩,rfl⟩,λ_ _=>⟨by rw[h.β],λ_ _=>by rw[h.H]⟩⟩
theorem Gh.m_(G:Gh)(id:Nat)(all:Bool):gh G (G.free id all):=by
 refine⟨λb=>?_,rfl,rfl⟩
 cases hg:G.ω b with
 |none=>exact .inl (Gh.fM hg)
 |some l=>
  cases l with
  |f=>exact .inl (by simp[Gh.free,hg])
  |x i=>exact .inl (by simp[Gh.free,hg])
  |o i p=>
   simp only[Gh.free,hg]
   split
   ·exact .inr ⟨rfl,i,p,rfl⟩
   ·exact .inl rfl
variable {M:Nat->Prop} {B:dE} {d:Nat} {up:Nat->Nat->Value} {ρ:List T} {G:Gh} {a:Act} {S:Nat->ai} {P:Program}
theorem cG.Kz{k k':Wk}{G1:Gh}(h:cG M B d up ρ G a w k G1){id:Nat}(hk:k.lj id=some k'):∃G2,cG M B d up ρ G a w k' G2∧gh G1 G2:=by
 unfold Wk.lj at hk
 split at hk
 ·rename_i dp x hx
  cases hk
  rw[Wk.aD]at hx
  refine⟨_,⟨(h.rel.lj hx).congr (Cc _ _ _ _),(h.aF.mono (λl hl=>Cb hl) λ_ hn=>hn).trans ((G1.ek id true w).mono ?_ λ_ hn=>hn)⟩,G1.m_ id true⟩
  rintro l ⟨p,rfl⟩
  show(k.w.set _ _).look (.o id)≠none
  rw[St.aJ];simp
 ·cases hk;exact⟨G1,h,.refl _⟩
 ·cases hk
theorem cG.na:∀{cs:List Ce} {k k1:Wk} {G1:Gh},cG M B d up ρ G a w k G1->k.dv cs=some k1->∃G2,cG M B d up ρ G a w k1 G2∧gh G1 G2
 | [],k,k1,G1,h,hk=>by
  simp[Wk.dv]at hk
  subst hk
  exact⟨G1,h,.refl _⟩
 |c::cs,k,k1,G1,h,hk=>by
  cases c with
  |o id q=>
   simp only[Wk.dv,bU]at hk
   obtain⟨k2,h1,h2⟩:=hk
   obtain⟨G2,g1,g2⟩:=h.Kz h1
   obtain⟨G3,f1,f2⟩:=cG.na g1 h2
   exact⟨G3,f1,g2.trans f2⟩
  |p x=>exact cG.na h (show k.dv cs=some k1 from hk)
  |n=>exact cG.na h (show k.dv cs=some k1 from hk)
  |d=>exact cG.na h (show k.dv cs=some k1 from hk)
def cA(G:Gh)(w:World)(ρ:List T):List SV->List Value->Prop
 | [],[]=>True
 |v::vs,c::cs=>ca G w ρ v c∧cA G w ρ vs cs
 |_,_=>False
theorem cA.aF{I:Lb->Prop}{G G':Gh}{w w':World}(k:cJ I (λ_=>False) G w G' w'):∀{vs:List SV} {cs:List Value},cA G w ρ vs cs->cA G' w' ρ vs cs
 | [],[],_=>trivial
 |_::_,_::_,h=>⟨h.1.aF k λ_ _ hf=>hf,cA.aF k h.2⟩
 | [],_::_,h=>h.elim
 |_::_,[],h=>h.elim
def rQ(G:Gh)(w:World)(ρ:List T)(pl:Bool):List PS->List Value->List Lf->List (Nat×Bool×Nat)->Prop
 | [],args,xs,bs=>args=[]∧xs=[]∧bs=[]
 | .v ag n::ps,args,xs,bs=>∃c dQ vs x1 x2,args=c::dQ∧xs=x1++x2∧x1.length=n∧(match ag with|true=>c=.agg vs.toArray|false=>vs=[c]∧∀x,c≠.agg x)∧dy (er G.ω) w (x1.map (Lf.ev ρ)) vs∧
   (pl=true->dy G.q w (x1.map (Lf.ev ρ)) vs)∧rQ G w ρ pl ps dQ x2 bs
 | .x n::ps,args,xs,bs=>∃c dQ bx ag uU aN elem x1 x2,args=c::dQ∧bs=(bx,ag,n)::uU∧c=.pointer (some ⟨G.β bx,0,none⟩)∧G.ω (G.β bx)=some (.x bx)∧w.heap[G.β bx]?=some (.cells aN elem (0,0))∧
   xs=x1++x2∧x1.length=n∧dy G.q w (x1.map (Lf.ev ρ)) aN.toList∧rQ G w ρ pl ps dQ x2 uU
theorem Ei{pl:Bool}:∀{ps:List PS} {vs:List SV} {cs:List Value} {k k1:Wk} {xs:List Lf} {bs:List (Nat×Bool×Nat)} {G1:Gh},cG M B d up ρ G a w k G1->cA G1 w ρ vs cs->(pl=true->wW k (sG vs))->
  k.args vs ps=some (k1,xs,bs)->k1.aO S ρ->k.aO S ρ∧k1.ct.i=k.ct.i∧∃G2,cG M B d up ρ G a w k1 G2∧gh G1 G2∧
   ∀G3,gh G2 G3->rQ G3 w ρ pl ps cs xs bs
 | [],[],cs,k,k1,xs,bs,G1,hk,hr,hf,h,hd=>by
  simp only[Wk.args,aH,Prod.mk.injEq]at h
  obtain⟨rfl,rfl,rfl⟩:=h
  cases cs with
  |nil=>exact⟨hd,rfl,G1,hk,.refl _,λ_ _=>⟨rfl,rfl,rfl⟩⟩
  |cons _ _=>exact hr.elim
 | .v tR n::ps,.v ag es::vs,cs,k,k1,xs,bs,G1,hk,hr,hf,h,hd=>by
  cases cs with
  |nil=>exact hr.elim
  |cons c cs=>
   simp only[Wk.args]at h
   cases hc:((ag==tR)&&Nat.beq es.length n)with
   |false=>simp[hc]at h
   |true=>
    simp only[hc,cond_true,bU,aH,Prod.mk.injEq]at h
    simp only[bd,beq_iff_eq]at hc
    obtain⟨rfl,hn⟩:=hc
    obtain⟨⟨k2,x1⟩,h1,⟨k3,x2,bs2⟩,h2,rfl,rfl,rfl⟩:=h
    have hs:=Wk.fN h1
    obtain⟨d2,i2,G2,w2,l2,f2⟩:=Ei (hk.same hs) hr.2 (λhp id iX=>by
     obtain⟨pv,x,hx⟩:=hf hp id (by simp only[sG];rw[DH];exact List.mem_append_right _ iX)
     exact⟨pv,x,by rw[hs.get];exact hx⟩) h2 hd
    have gy:=Wk.j1 h1 d2
    refine⟨gy,i2.trans hs.i,G2,w2,l2,λG3 l3=>?_⟩
    have bI:=l2.trans l3
    have hlen:x1.length=n:=by
     have:=cO hn
     obtain⟨rR,nM⟩:∃rR:List Value,aE G1 w ρ es rR:=by
      have h0:=hr.1
      cases ag with
      |true=>obtain⟨rR,_,h0⟩:=h0;exact⟨rR,h0⟩
      |false=>obtain⟨e,rfl,h0,_⟩:=h0;exact⟨[c],h0,trivial⟩
     obtain⟨_,_,_,_,e4⟩:=Wk.fO h1 d2 nM hk
     rw[e4,<-nM.length,this]
    have key:∀rR:List Value,aE G1 w ρ es rR->dy (er G3.ω) w (x1.map (Lf.ev ρ)) rR∧(pl=true->dy G3.q w (x1.map (Lf.ev ρ)) rR):=by
     intro rR nM
     obtain⟨ts,e1,e2,e3,e4⟩:=Wk.fO h1 d2 nM hk
     rw[e1]
     refine⟨e2.aF (Nat.le_refl _) λb _ hb=>⟨bI.er hb,rfl⟩,λhp=>(e3 λid iX=>hf hp id ?_).aF (Nat.le_refl _) λb _ hb=>⟨bI.q hb,rfl⟩⟩
     simp only[sG,zm]
     rw[DH]
     exact List.mem_append_left _ iX
    have h0:=hr.1
    cases ag with
    |true=>
     obtain⟨rR,rfl,h0⟩:=h0
     obtain⟨q1,q2⟩:=key rR h0
     exact⟨_,cs,rR,x1,x2,rfl,rfl,hlen,rfl,q1,q2,f2 G3 l3⟩
    |false=>
     obtain⟨e,rfl,h0,h0'⟩:=h0
     obtain⟨q1,q2⟩:=key [c] ⟨h0,trivial⟩
     exact⟨c,cs,[c],x1,x2,rfl,rfl,hlen,⟨rfl,h0'⟩,q1,q2,f2 G3 l3⟩
 | .x n::ps,.pt bx 0::vs,cs,k,k1,xs,bs,G1,hk,hr,hf,h,hd=>by
  cases cs with
  |nil=>exact hr.elim
  |cons c cs=>
   simp only[Wk.args]at h
   split at h
   ·rename_i ag es sr
    cases hc:Nat.beq es.length n with
    |false=>simp[hc]at h
    |true=>
     simp only[hc,cond_true,bU,aH,Prod.mk.injEq]at h
     obtain⟨k2,h0,⟨k3,x1⟩,h1,⟨k4,x2,bs2⟩,h2,rfl,rfl,rfl⟩:=h
     obtain⟨Gt,wt,lt⟩:=hk.na h0
     obtain⟨_,_,_,_,t4,t5,tf,t7,_⟩:=hk.dv h0
     have hs:=Wk.fN h1
     obtain⟨d2,i2,G2,w2,l2,f2⟩:=Ei (wt.same hs) (hr.2.aF (lt.aF w)) (λhp id iX=>by
      obtain⟨pv,x,hx⟩:=hf hp id (by simp only[sG];rw[DH];exact List.mem_append_right _ iX)
      exact⟨pv,x,by rw[hs.get];exact t7 _ _ _ hx⟩) h2 hd
     have gy:=Wk.j1 h1 d2
     have KA:k.aO S ρ:=by unfold Wk.aO at gy⊢;rw[<-t4,<-t5];exact gy
     have oN:=hk.rel.bx bx
     rw[<-Wk.aD,sr]at oN
     obtain⟨b1,aN,elem,b2,b3⟩:=oN
     obtain⟨ts,e1,e2,e3,e4⟩:=Wk.fO h1 d2 (b3.aF (lt.aF w) λ_ _ hf=>hf) wt
     have hp:c=.pointer (some ⟨G1.β bx,0,none⟩):=hr.1
     refine⟨KA,by rw[i2,hs.i,t4],G2,w2,lt.trans l2,λG3 l3=>?_⟩
     have qB:=(lt.trans l2).trans l3
     refine⟨c,cs,bx,ag,bs2,aN,elem,x1,x2,rfl,rfl,by rw[qB.β];exact hp,by rw[qB.β];exact qB.x b1 (λ_ _ e=>by cases e),by rw[qB.β];exact b2,rfl,?_,?_,f2 G3 l3⟩
     ·rw[e4,<-b3.length];exact cO hc
     ·rw[e1];exact(e3 tf).aF (Nat.le_refl _) λb _ hb=>⟨(l2.trans l3).q hb,rfl⟩
   ·cases h
 | [],_::_,cs,k,k1,xs,bs,G1,hk,hr,hf,h,hd=>by simp[Wk.args]at h
 |_::_,[],cs,k,k1,xs,bs,G1,hk,hr,hf,h,hd=>by simp[Wk.args]at h
 | .x _::_,.pt _ (_+1)::_,cs,k,k1,xs,bs,G1,hk,hr,hf,h,hd=>by simp[Wk.args]at h
 | .v _ _::_,.un::_,cs,k,k1,xs,bs,G1,hk,hr,hf,h,hd=>by simp[Wk.args]at h
 | .v _ _::_,.pt _ _::_,cs,k,k1,xs,bs,G1,hk,hr,hf,h,hd=>by simp[Wk.args]at h
 | .v _ _::_,.ep _ _ _ _ _::_,cs,k,k1,xs,bs,G1,hk,hr,hf,h,hd=>by simp[Wk.args]at h
 | .v _ _::_,.fp _ _ _ _::_,cs,k,k1,xs,bs,G1,hk,hr,hf,h,hd=>by simp[Wk.args]at h
 | .v _ _::_,.tp _::_,cs,k,k1,xs,bs,G1,hk,hr,hf,h,hd=>by simp[Wk.args]at h
 | .v _ _::_,.cl _ _::_,cs,k,k1,xs,bs,G1,hk,hr,hf,h,hd=>by simp[Wk.args]at h
 | .v _ _::_,.ob _ _::_,cs,k,k1,xs,bs,G1,hk,hr,hf,h,hd=>by simp[Wk.args]at h
 | .v _ _::_,.fz _ _::_,cs,k,k1,xs,bs,G1,hk,hr,hf,h,hd=>by simp[Wk.args]at h
 | .v _ _::_,.tk _ _::_,cs,k,k1,xs,bs,G1,hk,hr,hf,h,hd=>by simp[Wk.args]at h
 | .v _ _::_,.fl _::_,cs,k,k1,xs,bs,G1,hk,hr,hf,h,hd=>by simp[Wk.args]at h
 | .v _ _::_,.fr _::_,cs,k,k1,xs,bs,G1,hk,hr,hf,h,hd=>by simp[Wk.args]at h
 | .x _::_,.un::_,cs,k,k1,xs,bs,G1,hk,hr,hf,h,hd=>by simp[Wk.args]at h
 | .x _::_,.v _ _::_,cs,k,k1,xs,bs,G1,hk,hr,hf,h,hd=>by simp[Wk.args]at h
 | .x _::_,.ep _ _ _ _ _::_,cs,k,k1,xs,bs,G1,hk,hr,hf,h,hd=>by simp[Wk.args]at h
 | .x _::_,.fp _ _ _ _::_,cs,k,k1,xs,bs,G1,hk,hr,hf,h,hd=>by simp[Wk.args]at h
 | .x _::_,.tp _::_,cs,k,k1,xs,bs,G1,hk,hr,hf,h,hd=>by simp[Wk.args]at h
 | .x _::_,.cl _ _::_,cs,k,k1,xs,bs,G1,hk,hr,hf,h,hd=>by simp[Wk.args]at h
 | .x _::_,.ob _ _::_,cs,k,k1,xs,bs,G1,hk,hr,hf,h,hd=>by simp[Wk.args]at h
 | .x _::_,.fz _ _::_,cs,k,k1,xs,bs,G1,hk,hr,hf,h,hd=>by simp[Wk.args]at h
 | .x _::_,.tk _ _::_,cs,k,k1,xs,bs,G1,hk,hr,hf,h,hd=>by simp[Wk.args]at h
 | .x _::_,.fl _::_,cs,k,k1,xs,bs,G1,hk,hr,hf,h,hd=>by simp[Wk.args]at h
 | .x _::_,.fr _::_,cs,k,k1,xs,bs,G1,hk,hr,hf,h,hd=>by simp[Wk.args]at h
end
theorem Aw{W:St}{r:aK}{u:SV}(h:W.look r=some u):(r,u)∈W:=by
 induction W with
 |nil=>cases h
 |cons x W ih=>
  obtain⟨r',v⟩:=x
  rcases gJ h with⟨rfl,rfl⟩|h
  ·exact List.mem_cons_self
  ·exact List.mem_cons_of_mem _ (ih h)
def jB:Nat->List Ck->List (Option Nat)->mc
 |i,.o _::ks,x::is=>(mH i,x)::jB (mH i+1) ks is
 |i,_::ks,_::is=>jB i ks is
 |_,_,_=>[]
theorem Ej:∀{ks:List Ck} {is:List (Option Nat)} {i j:Nat} {x:Option Nat},(j,x)∈jB i ks is->i<=j∧x∈is
 | [],is,i,j,x,h=>by simp[jB]at h
 |_::_,[],i,j,x,h=>by simp[jB]at h
 | .o _::ks,y::is,i,j,x,h=>by
  simp only[jB,List.mem_cons,Prod.mk.injEq]at h
  have KB:=C9 i
  rcases h with⟨rfl,rfl⟩|h
  ·exact⟨KB,by simp⟩
  ·have:=Ej h;exact⟨by omega,by simp[this.2]⟩
 | .s::ks,y::is,i,j,x,h=>by have:=Ej (show(j,x)∈jB i ks is from h);exact⟨this.1,by simp[this.2]⟩
 | .p::ks,y::is,i,j,x,h=>by have:=Ej (show(j,x)∈jB i ks is from h);exact⟨this.1,by simp[this.2]⟩
theorem Ax:∀{ks:List Ck} {is:List (Option Nat)} {i j:Nat} {x:Option Nat},(j,x)∈jB i ks is->mI (jB i ks is) j=some x
 | [],is,i,j,x,h=>by simp[jB]at h
 |_::_,[],i,j,x,h=>by simp[jB]at h
 | .o _::ks,y::is,i,j,x,h=>by
  simp only[jB,List.mem_cons,Prod.mk.injEq]at h
  rcases h with⟨rfl,rfl⟩|h
  ·simp[jB,mI]
  ·have h1:=(Ej h).1
   have:Nat.beq (mH i) j=false:=by
    cases hb:Nat.beq (mH i) j with
    |false=>rfl
    |true=>have:=cO hb;omega
   simp only[jB,mI,this,cond_false]
   exact Ax h
 | .s::ks,y::is,i,j,x,h=>Ax (ks:=ks) (is:=is) h
 | .p::ks,y::is,i,j,x,h=>Ax (ks:=ks) (is:=is) h
theorem KC:∀{ks:List Ck} {is:List (Option Nat)} {i j k:Nat},(is.filterMap id).Nodup->(j,some k)∈jB i ks is->mo (jB i ks is) k=some j
 | [],is,i,j,k,_,h=>by simp[jB]at h
 |_::_,[],i,j,k,_,h=>by simp[jB]at h
 | .o _::ks,none::is,i,j,k,hn,h=>by
  simp only[jB,List.mem_cons,Prod.mk.injEq]at h
  rcases h with⟨_,h⟩|h
  ·cases h
  ·simp only[jB,mo];exact KC (by simpa using hn) h
 | .o _::ks,some y::is,i,j,k,hn,h=>by
  simp only[List.filterMap_cons_some (f:=id) (a:=some y) rfl,List.nodup_cons]at hn
  simp only[jB,List.mem_cons,Prod.mk.injEq]at h
  rcases h with⟨rfl,h⟩|h
  ·cases h;simp[jB,mo]
  ·have cW:Nat.beq y k=false:=by
    cases hb:Nat.beq y k with
    |false=>rfl
    |true=>
     have:=cO hb
     subst this
     exact absurd (show y∈is.filterMap id from List.mem_filterMap.2 ⟨some y,(Ej h).2,rfl⟩) hn.1
   simp only[jB,mo,cW,cond_false]
   exact KC hn.2 h
 | .s::ks,y::is,i,j,k,hn,h=>by
  refine KC (ks:=ks) (is:=is) ?_ h
  cases y with
  |none=>simpa using hn
  |some y=>simp only[List.filterMap_cons_some (f:=id) (a:=some y) rfl,List.nodup_cons]at hn;exact hn.2
 | .p::ks,y::is,i,j,k,hn,h=>by
  refine KC (ks:=ks) (is:=is) ?_ h
  cases y with
  |none=>simpa using hn
  |some y=>simp only[List.filterMap_cons_some (f:=id) (a:=some y) rfl,List.nodup_cons]at hn;exact hn.2
theorem Hu:∀{rn:mc} {k j:Nat},mo rn k=some j->(j,some k)∈rn
 | [],k,j,h=>by simp[mo]at h
 |(i,none)::rn,k,j,h=>List.mem_cons_of_mem _ (Hu (show mo rn k=some j from h))
 |(i,some y)::rn,k,j,h=>by
  simp only[mo]at h
  cases hb:Nat.beq y k with
  |true=>simp[hb]at h;subst h;rw[cO hb];exact List.mem_cons_self
  |false=>simp[hb]at h;exact List.mem_cons_of_mem _ (Hu h)
theorem Hv:∀{rn:mc} {j:Nat} {x:Option Nat},mI rn j=some x->(j,x)∈rn
 | [],k,j,h=>by simp[mI]at h
 |(i,y)::rn,j,x,h=>by
  simp only[mI]at h
  cases hb:Nat.beq i j with
  |true=>simp[hb]at h;subst h;rw[cO hb];exact List.mem_cons_self
  |false=>simp[hb]at h;exact List.mem_cons_of_mem _ (Hv h)
def kP:Ck->Bool
 | .p| .o false=>true
 |_=>false
theorem dx.oO{G G':Gh}{w:World}{id j:Nat}{t:T}(h:dx G w id false [] t)(fA:∀c,G.ω c=some (.o id [])->G'.ω c=some (.o j []))(hH:G'.H j []=G.H id [])
  (hn:∀b,G.q b=none->G'.q b=none):dx G' w j false [] t:=by
 cases h with
 |nil h=>exact .nil (by rw[hH];exact h)
 | @l _ _ xs b wd cap aN elem fr cv h1 h2 h3 h4 h5 h6 h7 h8 h9 jI ru=>
  exact .l (by rw[hH];exact h1) h2 (fA _ h3) h4 h5 h6 h7 h8 (λi j ys hy hd=>(h9 i j ys hy hd).aF (Nat.le_refl _) λb _ hb=>⟨hn b hb,rfl⟩) (λ_ _ _ _ hd=>by cases hd) λ_ _ _ _ hd=>by cases hd
section
variable {w':World} {ρ:List T} {G' G2:Gh}
theorem xm{rn:mc}(hH:∀j x,mI rn j=some x->G2.H j=match x with|some id=>G'.H id|none=>λ_=>.slice none 0 0)
  (fA:∀j id,mo rn id=some j->∀c r,G'.ω c=some (.o id r)->G2.ω c=some (.o j r)):
  ∀{ks:List Ck} {us:List Value} {ts:List T} {is:List (Option Nat)} {ct:Ct},bz G' w' ks us ts is->(∀j t,ts[j]?=some t->ρ[ct.a+j]?=some t)->
   (∀k∈ks,kP k=true->∀b,G'.q b=none->G2.q b=none)->(∀j x,(j,x)∈jB ct.i ks is->mI rn j=some x)->(∀j id,(j,some id)∈jB ct.i ks is->mo rn id=some j)->
   aE G2 w' ρ (eC ct ks).2.1 us∧(eC ct ks).1.a=ct.a+ts.length∧ct.i<=(eC ct ks).1.i∧(∀i∈cT (eC ct ks).2.1,ct.i<=i∧i<(eC ct ks).1.i)∧
   (∀j x,(j,x)∈jB ct.i ks is->j<(eC ct ks).1.i)∧
   ∀r u,(r,u)∈(eC ct ks).2.2->∃j,r=.o j∧ct.i<=j∧j<(eC ct ks).1.i∧cb G2 w' ρ j u∧cD u=[]
 | [],[],[],[],ct,_,_,_,_,_=>⟨trivial,rfl,Nat.le_refl _,λi hi=>by simp[eC,cT]at hi,λj x h=>by simp[jB]at h,λr u h=>by simp[eC]at h⟩
 | .s::ks,u::us,t::ts,x::is,ct,h,mg,hp,h1,h2=>by
  obtain⟨rfl,hd,hs,h⟩:=h
  obtain⟨g1,g2,g3,g4,g5,g6⟩:=xm hH fA (ct:=⟨ct.a+1,ct.i⟩) h (λj t' hj=>by have:=mg (j+1) t' (by simpa using hj);rw[<-this];congr 1;show ct.a+1+j=_;omega) (λk hk=>hp k (by simp[hk])) h1 h2
  have h0:ρ[ct.a]?=some t:=mg 0 t rfl
  obtain⟨v,rfl⟩:=DE hs
  obtain⟨rfl,hv⟩:=hd.scalar
  refine⟨⟨⟨.c u,h0,.c hv⟩,g1⟩,?_,g3,?_,g5,g6⟩
  ·simp only[eC,List.length_cons];rw[g2];show ct.a+1+_=_;omega
  ·intro i hi;simp only[eC,cT]at hi;exact g4 i hi
 | .p::ks,u::us,t::ts,x::is,ct,h,mg,hp,h1,h2=>by
  obtain⟨rfl,hd,h⟩:=h
  obtain⟨g1,g2,g3,g4,g5,g6⟩:=xm hH fA (ct:=⟨ct.a+1,ct.i⟩) h (λj t' hj=>by have:=mg (j+1) t' (by simpa using hj);rw[<-this];congr 1;show ct.a+1+j=_;omega) (λk hk=>hp k (by simp[hk])) h1 h2
  have h0:ρ[ct.a]?=some t:=mg 0 t rfl
  refine⟨⟨⟨t,h0,hd.aF (Nat.le_refl _) λb _ hb=>⟨hp .p (by simp) rfl b hb,rfl⟩⟩,g1⟩,?_,g3,?_,g5,g6⟩
  ·simp only[eC,List.length_cons];rw[g2];show ct.a+1+_=_;omega
  ·intro i hi;simp only[eC,cT]at hi;exact g4 i hi
 | .o dp::ks,u::us,t::ts,none::is,ct,h,mg,hp,h1,h2=>by
  obtain⟨rfl,rfl,h⟩:=h
  obtain⟨g1,g2,g3,g4,g5,g6⟩:=xm hH fA (ct:=⟨ct.a+1,mH ct.i+1⟩) h (λj t' hj=>by have:=mg (j+1) t' (by simpa using hj);rw[<-this];congr 1;show ct.a+1+j=_;omega) (λk hk=>hp k (by simp[hk]))
   (λj x hj=>h1 j x (by simp[jB,hj])) (λj id hj=>h2 j id (by simp[jB,hj]))
  have h0:ρ[ct.a]?=some (.l []):=mg 0 _ rfl
  have hr:=hH (mH ct.i) none (h1 (mH ct.i) none (by simp[jB]))
  simp only at hr
  have g3':mH ct.i+1<=(eC ⟨ct.a+1,mH ct.i+1⟩ ks).1.i:=g3
  have KB:=C9 ct.i
  refine⟨⟨⟨[],rfl,by rw[hr]⟩,g1⟩,?_,by simp only[eC];omega,?_,?_,?_⟩
  ·simp only[eC,List.length_cons];rw[g2];show ct.a+1+_=_;omega
  ·intro i hi
   simp only[eC,cT,List.mem_cons]at hi⊢
   rcases hi with rfl|hi
   ·omega
   ·have:=g4 i hi
    have h3:mH ct.i+1<=i:=this.1
    omega
  ·intro j x hj
   simp only[jB,List.mem_cons,Prod.mk.injEq]at hj
   simp only[eC]
   rcases hj with⟨rfl,_⟩|hj
   ·omega
   ·exact g5 j x hj
  ·intro r u' o7
   simp only[eC,List.mem_cons,Prod.mk.injEq]at o7⊢
   rcases o7 with⟨rfl,rfl⟩|o7
   ·exact⟨mH ct.i,rfl,KB,by omega,⟨.l [],h0,.nil (by rw[hr])⟩,rfl⟩
   ·obtain⟨j,e1,e2,e3,e4,e5⟩:=g6 r u' o7
    have e2':mH ct.i+1<=j:=e2
    exact⟨j,e1,by omega,e3,e4,e5⟩
 | .o dp::ks,u::us,t::ts,some id::is,ct,h,mg,hp,h1,h2=>by
  obtain⟨rfl,aW,h⟩:=h
  obtain⟨g1,g2,g3,g4,g5,g6⟩:=xm hH fA (ct:=⟨ct.a+1,mH ct.i+1⟩) h (λj t' hj=>by have:=mg (j+1) t' (by simpa using hj);rw[<-this];congr 1;show ct.a+1+j=_;omega) (λk hk=>hp k (by simp[hk]))
   (λj x hj=>h1 j x (by simp[jB,hj])) (λj id hj=>h2 j id (by simp[jB,hj]))
  have h0:ρ[ct.a]?=some t:=mg 0 _ rfl
  have hr:=hH (mH ct.i) (some id) (h1 (mH ct.i) (some id) (by simp[jB]))
  simp only at hr
  have ht:=fA (mH ct.i) id (h2 (mH ct.i) id (by simp[jB]))
  have g3':mH ct.i+1<=(eC ⟨ct.a+1,mH ct.i+1⟩ ks).1.i:=g3
  have KB:=C9 ct.i
  refine⟨⟨⟨[],rfl,by rw[hr]⟩,g1⟩,?_,by simp only[eC];omega,?_,?_,?_⟩
  ·simp only[eC,List.length_cons];rw[g2];show ct.a+1+_=_;omega
  ·intro i hi
   simp only[eC,cT,List.mem_cons]at hi⊢
   rcases hi with rfl|hi
   ·omega
   ·have:=g4 i hi
    have h3:mH ct.i+1<=i:=this.1
    omega
  ·intro j x hj
   simp only[jB,List.mem_cons,Prod.mk.injEq]at hj
   simp only[eC]
   rcases hj with⟨rfl,_⟩|hj
   ·omega
   ·exact g5 j x hj
  ·intro r u' o7
   simp only[eC,List.mem_cons,Prod.mk.injEq]at o7⊢
   rcases o7 with⟨rfl,rfl⟩|o7
   ·refine⟨mH ct.i,rfl,KB,by omega,⟨t,h0,?_⟩,rfl⟩
    cases dp with
    |true=>exact aW.move rfl (λc r hc=>⟨ht c r hc,rfl⟩) λr=>by rw[hr]
    |false=>exact aW.oO (λc hc=>ht c [] hc) (by rw[hr]) (hp (.o false) (by simp) rfl)
   ·obtain⟨j,e1,e2,e3,e4,e5⟩:=g6 r u' o7
    have e2':mH ct.i+1<=j:=e2
    exact⟨j,e1,by omega,e3,e4,e5⟩
 | [],_::_,_,_,ct,h,_,_,_,_=>by simp[bz]at h
 | [],[],_::_,_,ct,h,_,_,_,_=>by simp[bz]at h
 | [],[],[],_::_,ct,h,_,_,_,_=>by simp[bz]at h
 |k::_,[],_,_,ct,h,_,_,_,_=>by cases k<;>simp[bz]at h
 |k::_,_::_,[],_,ct,h,_,_,_,_=>by cases k<;>simp[bz]at h
 |k::_,_::_,_::_,[],ct,h,_,_,_,_=>by cases k<;>simp[bz]at h
theorem Hw:∀(k1 k2:List Ck) (ct:Ct),eC ct (k1++k2)=((eC (eC ct k1).1 k2).1,(eC ct k1).2.1++(eC (eC ct k1).1 k2).2.1,(eC ct k1).2.2++(eC (eC ct k1).1 k2).2.2)
 | [],k2,ct=>by simp[eC]
 | .o dp::k1,k2,ct=>by simp[eC,Hw k1 k2]
 | .s::k1,k2,ct=>by simp[eC,Hw k1 k2]
 | .p::k1,k2,ct=>by simp[eC,Hw k1 k2]
def lJ:List (Bool×List Ck)->List Ck
 | []=>[]
 |r::rs=>r.2++lJ rs
theorem KD:∀(rs:List (Bool×List Ck)) (ct:Ct),(mS ct rs).1=(eC ct (lJ rs)).1∧(mS ct rs).2.2=(eC ct (lJ rs)).2.2
 | [],ct=>⟨rfl,rfl⟩
 |r::rs,ct=>by
  obtain⟨h1,h2⟩:=KD rs (eC ct r.2).1
  simp only[mS,lJ,Hw]
  exact⟨h1,by rw[h2]⟩
theorem aE.split{G:Gh}{w:World}:∀{c1 c2:List Ce} {v1 v2:List Value},c1.length=v1.length->aE G w ρ (c1++c2) (v1++v2)->aE G w ρ c1 v1∧aE G w ρ c2 v2
 | [],_,[],_,_,h=>⟨trivial,h⟩
 | [],_,_::_,_,h,_=>by simp at h
 |_::_,_,[],_,h,_=>by simp at h
 |c::c1,_,v::v1,_,h,hr=>by
  obtain⟨h1,h2⟩:=aE.split (by simpa using h) hr.2
  exact⟨⟨hr.1,h1⟩,h2⟩
theorem KF:∀(ks:List Ck) (ct:Ct),(eC ct ks).2.1.length=ks.length
 | [],ct=>rfl
 | .o dp::ks,ct=>by simp[eC,KF ks]
 | .s::ks,ct=>by simp[eC,KF ks]
 | .p::ks,ct=>by simp[eC,KF ks]
theorem bz.len:∀{ks:List Ck} {us:List Value} {ts:List T} {is:List (Option Nat)},bz G' w' ks us ts is->us.length=ks.length∧ts.length=ks.length∧is.length=ks.length
 | [],[],[],[],_=>⟨rfl,rfl,rfl⟩
 | .s::ks,_::us,_::ts,x::is,h=>by have:=bz.len h.2.2.2;simp[this]
 | .p::ks,_::us,_::ts,x::is,h=>by have:=bz.len h.2.2;simp[this]
 | .o _::ks,_::us,_::ts,none::is,h=>by have:=bz.len h.2.2;simp[this]
 | .o _::ks,_::us,_::ts,some _::is,h=>by have:=bz.len h.2.2;simp[this]
 | [],_::_,_,_,h=>by simp[bz]at h
 | [],[],_::_,_,h=>by simp[bz]at h
 | [],[],[],_::_,h=>by simp[bz]at h
 |k::_,[],_,_,h=>by cases k<;>simp[bz]at h
 |k::_,_::_,[],_,h=>by cases k<;>simp[bz]at h
 |k::_,_::_,_::_,[],h=>by cases k<;>simp[bz]at h
theorem bz.append:∀{k1:List Ck} {u1:List Value} {t1:List T} {i1:List (Option Nat)} {k2:List Ck} {u2:List Value} {t2:List T} {i2:List (Option Nat)},bz G' w' k1 u1 t1 i1->bz G' w' k2 u2 t2 i2->
  bz G' w' (k1++k2) (u1++u2) (t1++t2) (i1++i2)
 | [],[],[],[],_,_,_,_,_,h=>h
 | .s::ks,_::us,_::ts,x::is,_,_,_,_,h,h'=>⟨h.1,h.2.1,h.2.2.1,bz.append h.2.2.2 h'⟩
 | .p::ks,_::us,_::ts,x::is,_,_,_,_,h,h'=>⟨h.1,h.2.1,bz.append h.2.2 h'⟩
 | .o _::ks,_::us,_::ts,none::is,_,_,_,_,h,h'=>⟨h.1,h.2.1,bz.append h.2.2 h'⟩
 | .o _::ks,_::us,_::ts,some _::is,_,_,_,_,h,h'=>⟨h.1,h.2.1,bz.append h.2.2 h'⟩
 | [],_::_,_,_,_,_,_,_,h,_=>by simp[bz]at h
 | [],[],_::_,_,_,_,_,_,h,_=>by simp[bz]at h
 | [],[],[],_::_,_,_,_,_,h,_=>by simp[bz]at h
 |k::_,[],_,_,_,_,_,_,h,_=>by cases k<;>simp[bz]at h
 |k::_,_::_,[],_,_,_,_,_,h,_=>by cases k<;>simp[bz]at h
 |k::_,_::_,_::_,[],_,_,_,_,h,_=>by cases k<;>simp[bz]at h
theorem KG:∀{rs:List (Bool×List Ck)} {vs:List Value} {ts:List T} {is:List (Option Nat)},gK G' w' rs vs ts is->
  ∃us:List Value,bz G' w' (lJ rs) us ts is∧∀(G2:Gh) (w2:World) (ct:Ct),aE G2 w2 ρ (eC ct (lJ rs)).2.1 us->fo G2 w2 ρ (mS ct rs).2.1 vs
 | [],[],[],[],_=>⟨[],trivial,λ_ _ _ _=>trivial⟩
 |r::rs,v::vs,ts,is,h=>by
  obtain⟨t1,t2,i1,i2,rfl,rfl,h1,h2⟩:=h
  obtain⟨us,g1,g2⟩:=KG h2
  obtain⟨ag,ks⟩:=r
  have key:∀u1:List Value,bz G' w' ks u1 t1 i1->(∀(G2:Gh) (w2:World) (cs:List Ce),aE G2 w2 ρ cs u1->cs.length=ks.length->dW G2 w2 ρ ag cs v)->
    ∃us:List Value,bz G' w' (lJ ((ag,ks)::rs)) us (t1++t2) (i1++i2)∧∀(G2:Gh) (w2:World) (ct:Ct),aE G2 w2 ρ (eC ct (lJ ((ag,ks)::rs))).2.1 us->fo G2 w2 ρ (mS ct ((ag,ks)::rs)).2.1 (v::vs):=by
   intro u1 hu hv
   refine⟨u1++us,hu.append g1,λG2 w2 ct hr=>?_⟩
   simp only[lJ,Hw]at hr
   obtain⟨r1,r2⟩:=aE.split (by rw[KF,(bz.len hu).1]) hr
   exact⟨hv G2 w2 _ r1 (KF _ _),g2 G2 w2 _ r2⟩
  cases ag with
  |true=>
   obtain⟨u1,rfl,hu⟩:=h1
   exact key u1 hu λG2 w2 cs hr _=>⟨u1,rfl,hr⟩
  |false=>
   obtain⟨hu,z5⟩:=h1
   refine key [v] hu λG2 w2 cs hr hl=>?_
   have:=(bz.len hu).1
   rw[<-this]at hl
   match cs,hl with
   | [c],_=>exact⟨c,rfl,hr.1,z5⟩
 | [],[],_::_,_,h=>h.elim
 | [],[],[],_::_,h=>h.elim
 | [],_::_,_,_,h=>h.elim
 |_::_,[],_,_,h=>h.elim
def fR:Nat->List PS->List (Nat×Bool×Nat)->List (Nat×Nat)
 |i,.v _ _::ps,bs=>fR (i+1) ps bs
 |i,.x _::ps,b::bs=>(i,b.1)::fR (i+1) ps bs
 |_,_,_=>[]
def CD:List (Nat×Bool×Nat)->Nat
 | []=>0
 |b::bs=>b.2.2+CD bs
theorem KH:∀(bs:List (Nat×Bool×Nat)) (a:Nat),(rl a bs).1=a+CD bs
 | [],a=>rfl
 |b::bs,a=>by obtain⟨bx,ag,n⟩:=b;simp only[rl,CD,KH bs];omega
theorem Q'{w:World}{G:Gh}:∀{n a:Nat} {ts:List T} {vs:List Value},ts.length=n->dy G.q w ts vs->(∀j t,ts[j]?=some t->ρ[a+j]?=some t)->aE G w ρ (yw a n) vs∧cT (yw a n)=[]
 |0,a,[],[],_,_,_=>⟨trivial,rfl⟩
 |0,a,[],_::_,_,h,_=>h.elim
 |0,a,_::_,_,h,_,_=>by simp at h
 |n+1,a,[],_,h,_,_=>by simp at h
 |n+1,a,_::_,[],_,h,_=>h.elim
 |n+1,a,t::ts,v::vs,hl,h,mg=>by
  obtain⟨g1,g2⟩:=Q' (a:=a+1) (by simpa using hl) h.2 (λj t' hj=>by have:=mg (j+1) t' (by simpa using hj);rw[<-this];congr 1;omega)
  exact⟨⟨⟨t,mg 0 t rfl,h.1⟩,g1⟩,by simp[yw,cT,g2]⟩
theorem Ek{bl:Nat->Option Nat}(hn:∀b,G'.q b=none->G2.q b=none){G1:Gh}{w:World}{pl:Bool}:
  ∀{ps:List PS} {args:List Value} {xs:List Lf} {bs:List (Nat×Bool×Nat)} {i a:Nat} {ts:List T},rQ G1 w ρ pl ps args xs bs->gg G' w' bl i ps ts->(∀j t,ts[j]?=some t->ρ[a+j]?=some t)->
   (∀j bx,(j,bx)∈fR i ps bs->bl j=some (G2.β bx)∧G2.ω (G2.β bx)=some (.x bx))->
   ts.length=CD bs∧∀r u,(r,u)∈(rl a bs).2->∃j bx,(j,bx)∈fR i ps bs∧r=.x bx∧eX G2 w' ρ bx u∧cD u=[]
 | [],args,xs,bs,i,a,ts,hA,hB,mg,hp=>by
  obtain⟨_,_,rfl⟩:=hA
  cases hB
  exact⟨rfl,λr u h=>by simp[rl]at h⟩
 | .v ag n::ps,args,xs,bs,i,a,ts,hA,hB,mg,hp=>by
  obtain⟨c,dQ,vs,x1,x2,_,_,_,_,_,_,hA⟩:=hA
  exact Ek (ps:=ps) (i:=i+1) hn hA hB mg hp
 | .x n::ps,args,xs,bs,i,a,ts,hA,hB,mg,hp=>by
  obtain⟨c,dQ,bx,ag,uU,UJ,KI,x1,x2,_,rfl,_,_,_,_,_,_,hA⟩:=hA
  obtain⟨b,aN,elem,t1,t2,hb,fA,hh,rfl,hl,hd,hB⟩:=hB
  obtain⟨q1,q2⟩:=hp i bx (by simp[fR])
  rw[hb]at q1
  cases q1
  obtain⟨g1,g2⟩:=Ek hn (a:=a+n) hA hB (λj t hj=>by
   have:=mg (n+j) t (by rw[List.getElem?_append_right (by omega)];rw[hl];simpa using hj)
   rw[<-this];congr 1;omega) (λj bx hj=>hp j bx (by simp[fR,hj]))
  obtain⟨g3,g4⟩:=Q' (a:=a) (G:=G2) (w:=w') hl (hd.aF (Nat.le_refl _) λb _ hb=>⟨hn b hb,rfl⟩) (λj t hj=>mg j t (by rw[List.getElem?_append_left (List.getElem?_eq_some_iff.1 hj).1];exact hj))
  refine⟨by simp[CD,hl,g1],λr u o7=>?_⟩
  simp only[rl,List.mem_cons,Prod.mk.injEq]at o7
  rcases o7 with⟨rfl,rfl⟩|o7
  ·exact⟨i,bx,by simp[fR],rfl,⟨q2,aN,elem,hh,g3⟩,g4⟩
  ·obtain⟨j,ub,e1,e2⟩:=g2 r u o7
   exact⟨j,ub,by simp[fR,e1],e2⟩
end
def mB(P:Program)(g:FuncId):Prop:=∃fn,P.funcs[g]?=some fn∧(fn.name== "runtime.NumGoroutine")=false∧fn.body.isNone=false
theorem KJ{P:Program}{w:World}{g:FuncId}(h:mB P g)(args:Array Value):(callFunc g args).run P w=.ok (.enter g args) w:=by
 obtain⟨fn,h1,h2,h3⟩:=h
 simp only[callFunc,Sem.run_bind,run_program,Result.andThen_ok,h1,h2,h3,du,if_false,Sem.run_pure]
section
variable {M:Nat->Prop} {B:dE} {d:Nat} {up:Nat->Nat->Value} {ρ:List T} {G:Gh} {a:Act} {w:World} {S:Nat->ai} {P:Program}
variable {cx:Cx} {bY dS oi:Nat} {s:St} {R:List aK} {ct:Ct} {k':Wk} {o:Oper} {Q:Exit->Act->World->Prop}
theorem El:∀{l:List Nat},C' l=true->l.Nodup
 | [],_=>List.nodup_nil
 |x::xs,h=>by
  simp only[C',bd,Bool.not_eq_true']at h
  refine List.nodup_cons.2 ⟨λhm=>?_,El h.2⟩
  have:=h.1
  rw[List.any_eq_false]at this
  exact this x hm (by simp)
theorem KK:∀{ps:List PS} {bs:List (Nat×Bool×Nat)} {i j bx:Nat},(j,bx)∈fR i ps bs->i<=j∧j<i+ps.length
 | [],bs,i,j,bx,h=>by simp[fR]at h
 | .v _ _::ps,bs,i,j,bx,h=>by have:=KK (show(j,bx)∈fR (i+1) ps bs from h);simp only[List.length_cons];omega
 | .x _::ps,[],i,j,bx,h=>by simp[fR]at h
 | .x _::ps,b::bs,i,j,bx,h=>by
  simp only[fR,List.mem_cons,Prod.mk.injEq]at h
  simp only[List.length_cons]
  rcases h with⟨rfl,_⟩|h
  ·omega
  ·have:=KK h;omega
theorem KL:∀{ps:List PS} {bs:List (Nat×Bool×Nat)} {i j bx:Nat},(j,bx)∈fR i ps bs->bx∈bs.map (·.1)
 | [],bs,i,j,bx,h=>by simp[fR]at h
 | .v _ _::ps,bs,i,j,bx,h=>KL (show(j,bx)∈fR (i+1) ps bs from h)
 | .x _::ps,[],i,j,bx,h=>by simp[fR]at h
 | .x _::ps,b::bs,i,j,bx,h=>by
  simp only[fR,List.mem_cons,Prod.mk.injEq]at h
  rcases h with⟨_,rfl⟩|h
  ·simp
  ·have:=KL h;simp only[List.map_cons,List.mem_cons];exact .inr this
theorem Em:∀{ps:List PS} {bs:List (Nat×Bool×Nat)} {i:Nat},(bs.map (·.1)).Nodup->
  (∀j bx ub,(j,bx)∈fR i ps bs->(j,ub)∈fR i ps bs->bx=ub)∧(∀j j' bx,(j,bx)∈fR i ps bs->(j',bx)∈fR i ps bs->j=j')
 | [],bs,i,_=>⟨λ_ _ _ h=>by simp[fR]at h,λ_ _ _ h=>by simp[fR]at h⟩
 | .v _ _::ps,bs,i,hn=>Em (ps:=ps) (i:=i+1) hn
 | .x _::ps,[],i,_=>⟨λ_ _ _ h=>by simp[fR]at h,λ_ _ _ h=>by simp[fR]at h⟩
 | .x _::ps,b::bs,i,hn=>by
  simp only[List.map_cons,List.nodup_cons]at hn
  obtain⟨g1,g2⟩:=Em (ps:=ps) (i:=i+1) hn.2
  constructor
  ·intro j bx ub h h'
   simp only[fR,List.mem_cons,Prod.mk.injEq]at h h'
   rcases h with⟨rfl,rfl⟩|h<;>rcases h' with⟨h1,rfl⟩|h'
   ·rfl
   ·have:=KK h';omega
   ·have:=KK h;omega
   ·exact g1 j bx ub h h'
  ·intro j j' bx h h'
   simp only[fR,List.mem_cons,Prod.mk.injEq]at h h'
   rcases h with⟨rfl,rfl⟩|h<;>rcases h' with⟨h1,h2⟩|h'
   ·exact h1.symm
   ·exact absurd (KL h') hn.1
   ·subst h2;exact absurd (KL h) hn.1
   ·exact g2 j j' bx h h'
def rS(β:Nat->Nat)(pr:List (Nat×Nat))(j:Nat):Option Nat:=(pr.find? λp=>p.1==j).map λp=>β p.2
def u7(pr:List (Nat×Nat))(bx:Nat):Option Nat:=(pr.find? λp=>p.2==bx).map (·.1)
theorem KM{β:Nat->Nat}{pr:List (Nat×Nat)}{j b:Nat}(h:rS β pr j=some b):∃bx,(j,bx)∈pr∧b=β bx:=by
 unfold rS at h
 cases hf:pr.find? (λp=>p.1==j)with
 |none=>simp[hf]at h
 |some p=>
  simp[hf]at h
  have h1:=List.mem_of_find?_eq_some hf
  have h2:=List.find?_some hf
  simp at h2
  exact⟨p.2,by rw[<-h2];exact h1,h.symm⟩
theorem UK{β:Nat->Nat}{pr:List (Nat×Nat)}{j bx:Nat}(hi:∀j bx ub,(j,bx)∈pr->(j,ub)∈pr->bx=ub)(h:(j,bx)∈pr):rS β pr j=some (β bx):=by
 cases hf:rS β pr j with
 |none=>
  unfold rS at hf
  simp only[Option.map_eq_none_iff,List.find?_eq_none]at hf
  exact absurd (by simp) (hf _ h)
 |some b=>
  obtain⟨ub,h1,rfl⟩:=KM hf
  rw[hi j bx ub h h1]
theorem KN{pr:List (Nat×Nat)}{bx j:Nat}(h:u7 pr bx=some j):(j,bx)∈pr:=by
 unfold u7 at h
 cases hf:pr.find? (λp=>p.2==bx)with
 |none=>simp[hf]at h
 |some p=>
  simp[hf]at h
  have h1:=List.mem_of_find?_eq_some hf
  have h2:=List.find?_some hf
  simp at h2
  rw[<-h,<-h2];exact h1
theorem UL{pr:List (Nat×Nat)}{j bx:Nat}(hi:∀j j' bx,(j,bx)∈pr->(j',bx)∈pr->j=j')(h:(j,bx)∈pr):u7 pr bx=some j:=by
 cases hf:u7 pr bx with
 |none=>
  unfold u7 at hf
  simp only[Option.map_eq_none_iff,List.find?_eq_none]at hf
  exact absurd (by simp) (hf _ h)
 |some j'=>rw[hi j j' bx h (KN hf)]
theorem qx{G:Gh}{b bx:Nat}(h:G.ω b=some (.x bx)):G.q b=some (.x bx):=wK h rfl
def q_(pl:Bool)(G:Gh)(pr:List (Nat×Nat))(b:Nat):Option Lb:=
 match G.q b with
 |none=>none
 |some .f=>some .f
 |some (.o _ _)=>if pl then some .f else none
 |some (.x bx)=>if b=G.β bx then(match u7 pr bx with|some j=>some (.x j)|none=>some .f)else some .f
theorem UM{pl:Bool}{pr:List (Nat×Nat)}{b:Nat}(h:(if pl then G.q b else er G.ω b)=none):q_ pl G pr b=none:=by
 unfold q_
 cases hg:G.q b with
 |none=>rfl
 |some l=>
  cases pl with
  |true=>simp[hg]at h
  |false=>
   have Jp:=Du hg
   cases l<;>simp[er,Jp]at h⊢
theorem En{pl:Bool}{UN:Nat->Option Lb}{bl:Nat->Option Nat}(fA:∀b,(if pl then G.q b else er G.ω b)=none->UN b=none):
  ∀{ps:List PS} {args:List Value} {xs:List Lf} {bs:List (Nat×Bool×Nat)} {i:Nat},rQ G w ρ pl ps args xs bs->(∀j bx,(j,bx)∈fR i ps bs->bl j=some (G.β bx)∧UN (G.β bx)=some (.x j))->
   u6 UN w bl i ps args (xs.map (Lf.ev ρ))∧∀j bx,(j,bx)∈fR i ps bs->G.ω (G.β bx)=some (.x bx)
 | [],args,xs,bs,i,h,_=>by
  obtain⟨rfl,rfl,rfl⟩:=h
  exact⟨⟨rfl,rfl⟩,λj bx h=>by simp[fR]at h⟩
 | .v ag n::ps,args,xs,bs,i,h,hp=>by
  obtain⟨c,dQ,vs,x1,x2,rfl,rfl,hl,mL,gy,n4,h⟩:=h
  obtain⟨g1,g2⟩:=En fA h (i:=i+1) hp
  refine⟨⟨c,dQ,vs,_,_,rfl,List.map_append,by rw[List.length_map];exact hl,mL,?_,g1⟩,g2⟩
  cases pl with
  |true=>exact(n4 rfl).aF (Nat.le_refl _) λb _ hb=>⟨fA b (by simpa using hb),rfl⟩
  |false=>exact gy.aF (Nat.le_refl _) λb _ hb=>⟨fA b (by simpa using hb),rfl⟩
 | .x n::ps,args,xs,bs,i,h,hp=>by
  obtain⟨c,dQ,bx,ag,uU,aN,elem,x1,x2,rfl,rfl,hc,hb,hh,rfl,hl,hd,h⟩:=h
  obtain⟨g1,g2⟩:=En fA h (i:=i+1) λj bx hj=>hp j bx (by simp[fR,hj])
  obtain⟨q1,q2⟩:=hp i bx (by simp[fR])
  refine⟨⟨c,dQ,G.β bx,aN,elem,_,_,rfl,hc,q1,q2,hh,List.map_append,by rw[List.length_map];exact hl,?_,g1⟩,λj ub hj=>?_⟩
  ·refine hd.aF (Nat.le_refl _) λb _ lF=>⟨fA b ?_,rfl⟩
   cases pl with
   |true=>simpa using lF
   |false=>simpa using Jb lF
  ·simp only[fR,List.mem_cons,Prod.mk.injEq]at hj
   rcases hj with⟨_,rfl⟩|hj
   ·exact hb
   ·exact g2 j ub hj
theorem Eo{pl:Bool}:∀{ps:List PS} {args:List Value} {xs:List Lf} {bs:List (Nat×Bool×Nat)} {i:Nat},rQ G w ρ pl ps args xs bs->∀j bx,(j,bx)∈fR i ps bs->G.ω (G.β bx)=some (.x bx)
 | [],args,xs,bs,i,h,j,bx,hj=>by simp[fR]at hj
 | .v ag n::ps,args,xs,bs,i,h,j,bx,hj=>by
  obtain⟨c,dQ,vs,x1,x2,rfl,rfl,hl,mL,gy,n4,h⟩:=h
  exact Eo (ps:=ps) (i:=i+1) h j bx hj
 | .x n::ps,args,xs,bs,i,h,j,bx,hj=>by
  obtain⟨c,dQ,ub,ag,uU,aN,elem,x1,x2,rfl,rfl,hc,hb,hh,rfl,hl,hd,h⟩:=h
  simp only[fR,List.mem_cons,Prod.mk.injEq]at hj
  rcases hj with⟨_,rfl⟩|hj
  ·exact hb
  ·exact Eo (ps:=ps) (i:=i+1) h j bx hj
def Gh.call(G G':Gh)(sz:Nat)(rn:mc):Gh where
 ω:=λb=>if b<sz then G.ω b else match G'.ω b with
  |some (.o id p)=>(mo rn id).map λj=>.o j p
  |_=>none
 β:=G.β
 H:=λj=>match mI rn j with
  |some (some id)=>G'.H id
  |some none=>λ_=>.slice none 0 0
  |none=>G.H j
 hs:=λj p=>by
  rcases hr:mI rn j with _|(_|id)
  ·exact G.hs j p
  ·exact⟨_,_,_,rfl⟩
  ·exact G'.hs _ p
theorem KO{sg:mR}(h:ou sg=false):(∀k∈lJ sg.rs,kP k=false)∧∀p∈sg.ps,∀n,p≠.x n:=by
 simp only[ou,Bool.or_eq_false_iff]at h
 obtain⟨h1,h2⟩:=h
 constructor
 ·generalize sg.rs=rs at h1
  induction rs with
  |nil=>intro k hk;simp[lJ]at hk
  |cons r rs ih=>
   simp only[List.any_cons,Bool.or_eq_false_iff]at h1
   intro k hk
   simp only[lJ,List.mem_append]at hk
   rcases hk with hk|hk
   ·have:=List.any_eq_false.1 h1.1 k hk
    cases k with
    |s=>rfl
    |p=>simp at this
    |o dp=>cases dp<;>simp at this⊢;rfl
   ·exact ih h1.2 k hk
 ·intro p hp n he
  subst he
  have:=List.any_eq_false.1 h2 _ hp
  simp at this
theorem KQ{pl:Bool}:∀{ps:List PS} {args:List Value} {xs:List Lf} {bs:List (Nat×Bool×Nat)},(∀p∈ps,∀n,p≠.x n)->rQ G w ρ pl ps args xs bs->bs=[]
 | [],_,_,_,_,h=>h.2.2
 | .v _ _::ps,args,xs,bs,hp,h=>by
  obtain⟨c,dQ,vs,x1,x2,_,_,_,_,_,_,h⟩:=h
  exact KQ (λp qC=>hp p (by simp[qC])) h
 | .x n::ps,args,xs,bs,hp,h=>absurd rfl (hp (.x n) (by simp) n)
theorem Ep{pl:Bool}{G':Gh}{w':World}{bl:Nat->Option Nat}:∀{ps:List PS} {args:List Value} {xs:List Lf} {bs:List (Nat×Bool×Nat)} {i:Nat} {ts:List T},rQ G w ρ pl ps args xs bs->gg G' w' bl i ps ts->ts.length=CD bs
 | [],args,xs,bs,i,ts,hA,hB=>by
  obtain⟨_,_,rfl⟩:=hA
  cases hB
  rfl
 | .v _ _::ps,args,xs,bs,i,ts,hA,hB=>by
  obtain⟨c,dQ,vs,x1,x2,_,_,_,_,_,_,hA⟩:=hA
  exact Ep (ps:=ps) (i:=i+1) hA hB
 | .x n::ps,args,xs,bs,i,ts,hA,hB=>by
  obtain⟨c,dQ,bx,ag,uU,UJ,KI,x1,x2,_,rfl,_,_,_,_,_,_,hA⟩:=hA
  obtain⟨b,aN,elem,t1,t2,hb,fA,hh,rfl,hl,hd,hB⟩:=hB
  have:=Ep hA hB
  simp[CD,hl,this]
theorem Ay:∀(ks:List Ck) (ct:Ct),(eC ct ks).1.a=ct.a+ks.length
 | [],ct=>rfl
 | .o dp::ks,ct=>by simp only[eC,Ay ks,List.length_cons];omega
 | .s::ks,ct=>by simp only[eC,Ay ks,List.length_cons];omega
 | .p::ks,ct=>by simp only[eC,Ay ks,List.length_cons];omega
theorem KR:∀{bs:List (Nat×Bool×Nat)} {a bx:Nat},bx∈bs.map (·.1)->(rl a bs).2.look (.x bx)≠none
 | [],a,bx,h=>by simp at h
 |b::bs,a,bx,h=>by
  obtain⟨b0,ag,n⟩:=b
  simp only[rl,St.look]
  cases hb:(aK.x b0).beq (.x bx)with
  |true=>simp
  |false=>
   simp only[List.map_cons,List.mem_cons]at h
   rcases h with rfl|h
   ·simp[aK.beq]at hb
   ·exact KR h
theorem UO{G':Gh}{w':World}{rs:List (Bool×List Ck)}{v:Value}{ts:List T}{is:List (Option Nat)}(h:Eh G' w' rs v ts is):∃vs:List Value,gK G' w' rs vs ts is∧
  ∀(G2:Gh) (w2:World) (ct:Ct),fo G2 w2 ρ (mS ct rs).2.1 vs->ca G2 w2 ρ (B7 (mS ct rs).2.1) v:=by
 match rs,h with
 | [],h=>obtain⟨rfl,rfl⟩:=h;exact⟨[],trivial,λ_ _ _ _=>trivial⟩
 | [r],h=>exact⟨[v],h,λG2 w2 ct hr=>hr.1⟩
 |r::r'::rs,h=>
  obtain⟨vs,hv,h'⟩:=h
  exact⟨vs,h',λG2 w2 ct hr=>⟨vs,hv,hr⟩⟩
theorem KS:∀(rs:List (Bool×List Ck)) (ct:Ct),qb (mS ct rs).2.1=cT (eC ct (lJ rs)).2.1
 | [],ct=>rfl
 |r::rs,ct=>by
  simp only[mS,lJ,Hw,qb,DH]
  rw[KS rs]
theorem UP(vs:List (Bool×List Ce)):∀i∈cD (B7 vs),i∈qb vs:=by
 intro i hi
 match vs,hi with
 | [],hi=>simp[B7,cD]at hi
 | [v],hi=>simpa[B7,cD,qb]using hi
 |v::v'::vs,hi=>exact hi
theorem UQ(h:Rel M B d up s ρ G a w)(hn:∀n,o.dst=some n->n<a.tmps.size){c:Call}{g:Nat}(ho:o.op=.call c)(hc:c.callee=.value (.func g))(hg:mB P g)
  {sg:mR}(Ra:cx.sg g=some sg)(hC:Av P sg g (S g))(hk:gv cx bY dS d o oi ⟨s.only R,[],ct,[]⟩=some k')(hd:k'.aO S ρ)(hM:∀i,ct.i<=i->i<k'.ct.i->¬M i):
  bf P (Mn M ct.i k'.ct.i) B d up ρ a w s o k'.w Q:=by
 have hw:=cG.start h R ct
 simp only[gv,ho,hc,Ra,Option.bind_some]at hk
 unfold I1 at hk
 simp only[bU]at hk
 obtain⟨k1,uV,⟨k2,xs,bs⟩,dH,hk⟩:=hk
 cases yQ:C' (bs.map (·.1))with
 |false=>simp[yQ]at hk
 |true=>
  simp only[yQ,cond_true,aH]at hk
  have UR:=El yQ
  have Er:∀G1,gh G G1->cA G1 w ρ (c.args.toList.map λx=>bC d (Wk.get ⟨s.only R,[],ct,[]⟩) x) (c.args.toList.map a.eval):=by
   intro G1 hl
   generalize c.args.toList=l
   induction l with
   |nil=>trivial
   |cons x l ih=>exact⟨(hw.f_ x).1.aF (hl.aF w) λ_ _ hf=>hf,ih⟩
  obtain⟨pl,yE⟩:∃pl,pl=ou sg:=⟨_,rfl⟩
  obtain⟨G1,w1,l1,i1,qY,hD1⟩:∃G1,cG M B d up ρ G a w k1 G1∧gh G G1∧k1.ct=ct∧(pl=true->wW k1 (sG (c.args.toList.map λx=>bC d (Wk.get ⟨s.only R,[],ct,[]⟩) x)))∧k1.is=[]:=by
   cases hp:ou sg with
   |false=>
    rw[hp]at uV
    simp only[cond_false,aH]at uV
    subst uV
    exact⟨G,hw,.refl _,rfl,(λhe=>by rw[yE,hp]at he;cases he),rfl⟩
   |true=>
    rw[hp]at uV
    simp only[cond_true]at uV
    obtain⟨G1,q1,q2⟩:=hw.na uV
    obtain⟨_,_,_,_,q3,q4,q5,_⟩:=hw.dv uV
    exact⟨G1,q1,q2,q3,λ_=>q5,q4⟩
  have KA:aO S ρ k'.ct.a k'.is:=hd
  rw[<-hk]at KA
  simp only at KA
  obtain⟨n0,outs,e1,hS,aS,n4⟩:=KA
  obtain⟨f1,f2⟩:=KD sg.rs k2.ct
  have hma:k2.ct.a<=(mS k2.ct sg.rs).1.a:=by
   have key:∀(ks:List Ck) (ct:Ct),ct.a<=(eC ct ks).1.a:=by
    intro ks
    induction ks with
    |nil=>intro ct;exact Nat.le_refl _
    |cons k ks ih=>
     intro ct
     cases k with
     |s=>have:=ih ⟨ct.a+1,ct.i⟩;simp only[eC]at this⊢;omega
     |p=>have:=ih ⟨ct.a+1,ct.i⟩;simp only[eC]at this⊢;omega
     |o dp=>have:=ih ⟨ct.a+1,mH ct.i+1⟩;simp only[eC]at this⊢;omega
   rw[f1];exact key _ _
  have hba:=KH bs (mS k2.ct sg.rs).1.a
  have uS:n0=k2.ct.a:=by omega
  subst uS
  have US:k2.aO S ρ:=n4
  obtain⟨_,i2,G2,w2,l2,hA⟩:=Ei (pl:=pl) w1 (Er G1 l1) qY dH US
  have hA:=hA G2 (.refl _)
  have hlG:gh G G2:=l1.trans l2
  have Es:=Em (ps:=sg.ps) (i:=0) UR
  have hx:=Eo (i:=0) hA
  have vU:∀j bx,(j,bx)∈fR 0 sg.ps bs->rS G2.β (fR 0 sg.ps bs) j=some (G2.β bx)∧q_ pl G2 (fR 0 sg.ps bs) (G2.β bx)=some (.x j):=by
   intro j bx hj
   refine⟨UK Es.1 hj,?_⟩
   simp only[q_,qx (hx j bx hj),if_true,UL Es.2 hj]
  obtain⟨pN,_⟩:=En (w:=w) (λb hb=>UM (pr:=fR 0 sg.ps bs) hb) hA vU
  have cM:ua sg (q_ pl G2 (fR 0 sg.ps bs)) (rS G2.β (fR 0 sg.ps bs)) w:=by
   constructor
   ·intro b l hb
    cases qD:G2.q b with
    |none=>simp[q_,qD]at hb
    |some l0=>
     refine⟨(w2.rel.fE b l0 (Du qD)).2,?_⟩
     cases l0 with
     |f=>simp[q_,qD]at hb;exact .inl hb.symm
     |o i p=>cases pl<;>simp[q_,qD]at hb;exact .inl hb.symm
     |x bx=>
      simp only[q_,qD]at hb
      split at hb
      ·rename_i hbe
       split at hb
       ·rename_i j hj
        cases hb
        exact .inr ⟨j,rfl,by rw[hbe];exact(vU j bx (KN hj)).1⟩
       ·cases hb;exact .inl rfl
      ·cases hb;exact .inl rfl
   ·intro i b hb
    obtain⟨bx,h1,rfl⟩:=KM hb
    exact⟨by have:=KK h1;omega,(vU i bx h1).2⟩
   ·intro x hx
    obtain⟨h1,h2,h3⟩:=w2.rel.base.SA x hx
    exact⟨h1,by simp[q_,show G2.q x.1=none from uN h2],h3⟩
  have xn:=hC w _ _ (c.args.toList.map a.eval) _ outs hS cM pN
  have fG:(execOp a.eval o).run P w=.ok (.enter g (c.args.toList.map a.eval).toArray) w:=by
   unfold execOp
   rw[ho]
   show Sem.run P (do let d <-resolve a.eval c o.type;invoke d.target d.args) w=_
   simp only[resolve,hc,Act.eval,Deferred.ofValue,pure_bind,invoke]
   rw[KJ hg]
   congr 2
   exact Array.ext' (by simp)
  simp only[bf,Oper.wp,fG,Oper.upon]
  refine xn.mono ?_
  rintro e w' ⟨v,G',is,o1,o2,rfl,fH⟩
  simp only
  let ks:=lJ sg.rs
  obtain⟨rn,Rb⟩:∃rn,rn=jB k2.ct.i ks is:=⟨_,rfl⟩
  let GG:=G2.call G' w.heap.size rn
  have hold:∀b,b<w.heap.size->GG.ω b=G2.ω b:=λb hb=>by show(if b<w.heap.size then _ else _)=_;rw[if_pos hb]
  have xo:∀b,¬b<w.heap.size->GG.ω b=match G'.ω b with|some (.o id p)=>(mo rn id).map λj=>.o j p|_=>none:=λb hb=>by show(if b<w.heap.size then _ else _)=_;rw[if_neg hb]
  have UT:∀b,G2.q b=none->q_ pl G2 (fR 0 sg.ps bs) b=none:=λb hb=>by simp[q_,hb]
  have oN:∀j bx,(j,bx)∈fR 0 sg.ps bs->G'.ω (G2.β bx)=some (.x j):=by
   intro j bx hj
   have key:∀{ps:List PS} {i0:Nat} {ts:List T} {uU:List (Nat×Bool×Nat)},gg G' w' (rS G2.β (fR 0 sg.ps bs)) i0 ps ts->(j,bx)∈fR i0 ps uU->G'.ω (G2.β bx)=some (.x j):=by
    intro ps
    induction ps with
    |nil=>intro i0 ts uU _ hm;simp[fR]at hm
    |cons p ps ih=>
     intro i0 ts uU hB hm
     cases p with
     |v ag n=>exact ih (i0:=i0+1) hB hm
     |x n=>
      obtain⟨b',aN,elem,t1,t2,lF,UU,hh',_,_,_,hB⟩:=hB
      cases uU with
      |nil=>simp[fR]at hm
      |cons b0 bs0=>
       simp only[fR,List.mem_cons,Prod.mk.injEq]at hm
       rcases hm with⟨rfl,_⟩|hm
       ·rw[(vU j bx hj).1]at lF;cases lF;exact UU
       ·exact ih hB hm
   exact key fH.box hj
  have Et:∀b,b<w.heap.size->∀i p,G'.ω b≠some (.o i p):=by
   intro b hb i p hi
   cases qw:q_ pl G2 (fR 0 sg.ps bs) b with
   |none=>have:=(fH.free b hb qw).1;rw[hi]at this;cases this
   |some l=>
    rcases(cM.fE b l qw).2 with rfl|⟨j,rfl,hj⟩
    ·have:=(fH.yz b qw).1;rw[hi]at this;cases this
    ·obtain⟨bx,h1,rfl⟩:=KM hj
     rw[oN j bx h1]at hi;cases hi
  have cN:pl=true->∀b,G'.q b=none->GG.q b=none:=by
   intro hp b hb
   replace hb:=fH.qq (by rw[<-yE];exact hp) b hb
   by_cases bI:b<w.heap.size
   ·rw[Gh.sO (hold b bI)]
    cases qw:q_ pl G2 (fR 0 sg.ps bs) b with
    |none=>
     cases qD:G2.q b with
     |none=>rfl
     |some l=>
      exfalso
      cases l with
      |f=>simp[q_,qD]at qw
      |o i p=>simp[q_,qD,hp]at qw
      |x bx=>
       simp only[q_,qD]at qw
       split at qw
       ·split at qw<;>cases qw
       ·cases qw
    |some l=>
     exfalso
     rcases(cM.fE b l qw).2 with rfl|⟨j,rfl,hj⟩
     ·have:=(fH.yz b qw).1;rw[hb]at this;cases this
     ·obtain⟨bx,h1,rfl⟩:=KM hj
      rw[oN j bx h1]at hb;cases hb
   ·exact uN (by rw[xo b bI,hb])
  obtain⟨vs,nM,UW⟩:=UO (ρ:=ρ) fH.ret
  obtain⟨us,DZ,htp⟩:=KG (ρ:=ρ) nM
  have zY:=bz.len DZ
  have mX:(mS k2.ct sg.rs).1.a=k2.ct.a+o1.length:=by rw[f1,Ay,zY.2.1]
  have qX:o2.length=CD bs:=Ep hA fH.box
  have hm:(rl (mS k2.ct sg.rs).1.a bs).1-k2.ct.a=o1.length+o2.length:=by omega
  have UX:∀j t,o1[j]?=some t->ρ[k2.ct.a+j]?=some t:=by
   intro j t hj
   have bI:=(List.getElem?_eq_some_iff.1 hj).1
   rw[aS j (by omega),fH.outs,List.getD_eq_getElem?_getD,List.getElem?_append_left bI,hj]
   rfl
  have UY:∀j t,o2[j]?=some t->ρ[(mS k2.ct sg.rs).1.a+j]?=some t:=by
   intro j t hj
   have bI:=(List.getElem?_eq_some_iff.1 hj).1
   have:=aS (o1.length+j) (by omega)
   rw[mX,Nat.add_assoc,this,fH.outs,List.getD_eq_getElem?_getD,List.getElem?_append_right (by omega),show o1.length+j-o1.length=j by omega,hj]
   rfl
  obtain⟨r1,r2,r3,r4,r5,r6⟩:=xm (G2:=GG) (rn:=rn) (w':=w') (ρ:=ρ) (λj x hj=>by show(match mI rn j with|some (some id)=>G'.H id|some none=>_|none=>G2.H j)=_;rw[hj];cases x<;>rfl)
   (λj id hj c r hcr=>by
    have bI:¬c<w.heap.size:=λbI=>Et c bI _ _ hcr
    rw[xo c bI,hcr];simp only[hj,Option.map_some]) DZ (ct:=k2.ct) UX
   (λk hk hkp=>cN (by
    rw[yE]
    cases hh:ou sg with
    |true=>rfl
    |false=>have:=(KO hh).1 k hk;rw[hkp]at this;cases this)) (λj x hj=>by rw[Rb];exact Ax hj) (λj id hj=>by rw[Rb];exact KC fH.nodup hj)
  have sr:∀r u,(r,u)∈(rl (mS k2.ct sg.rs).1.a bs).2->∃j bx,(j,bx)∈fR 0 sg.ps bs∧r=.x bx∧eX GG w' ρ bx u∧cD u=[]:=by
   cases hp:ou sg with
   |false=>
    have JA:bs=[]:=KQ (KO hp).2 hA
    subst JA
    intro r u o7
    simp[rl]at o7
   |true=>
    refine(Ek (cN (by rw[yE,hp])) hA fH.box UY λj bx hj=>?_).2
    have bI:=(w2.rel.fE _ _ (hx j bx hj)).2
    exact⟨(vU j bx hj).1,by show GG.ω (G2.β bx)=_;rw[hold _ bI];exact hx j bx hj⟩
  have iv:k2.ct.i=ct.i:=by rw[i2,i1]
  have Rc:k'.ct.i=(eC k2.ct ks).1.i:=by rw[<-hk];show(mS k2.ct sg.rs).1.i=_;rw[f1]
  have hW:k'.w=(dN d o (B7 (mS k2.ct sg.rs).2.1)++((eC k2.ct ks).2.2++(rl (mS k2.ct sg.rs).1.a bs).2))++k2.w:=by
   rw[<-hk]
   show(_++((mS k2.ct sg.rs).2.2++_))++_=_
   rw[f2];rfl
  have hN:∀i,ct.i<=i->i<k'.ct.i->¬M i:=hM
  have hK:cJ (mU (dN d o (B7 (mS k2.ct sg.rs).2.1)++((eC k2.ct ks).2.2++(rl (mS k2.ct sg.rs).1.a bs).2))) (λi=>ct.i<=i∧i<k'.ct.i) G2 w GG w':=by
   refine⟨fH.size,λb hb h0=>⟨by rw[Gh.sO (hold b hb)];exact h0,(fH.free b hb (UT b h0)).2⟩,λb hb h0=>by rw[hold b hb];exact h0,λb l hb hl=>?_,λi hi=>⟨rfl,?_⟩⟩
   ·have bI:=(w2.rel.fE b l hb).2
    refine⟨by rw[hold b bI];exact hb,?_⟩
    cases qw:q_ pl G2 (fR 0 sg.ps bs) b with
    |none=>exact(fH.free b bI qw).2
    |some l'=>
     rcases(cM.fE b l' qw).2 with rfl|⟨j,rfl,hj⟩
     ·exact(fH.yz b qw).2
     ·exfalso
      obtain⟨bx,h1,rfl⟩:=KM hj
      rw[hx j bx h1]at hb
      cases hb
      refine hl ?_
      show St.look _ (aK.x bx)≠none
      rw[jz,jz]
      intro e
      have e1:=(Option.or_eq_none_iff.1 (Option.or_eq_none_iff.1 e).2).2
      exact KR (KL h1) e1
   ·intro p _
    refine congrFun (?_:(match mI rn i with|some (some id)=>G'.H id|some none=>λ_=>.slice none 0 0|none=>G2.H i)=G2.H i) p
    cases sx:mI rn i with
    |none=>rfl
    |some x=>
     have il:=Hv sx
     rw[Rb]at il
     exact absurd ⟨by rw[<-iv];exact(Ej il).1,by rw[Rc];exact r5 i x il⟩ hi
  rw[hW]
  refine⟨GG,Ci h w2 (λr=>jz _ _ r) hK (λi hi=>hN i hi.1 hi.2) (λi hi=>.inl hi) (λn n9=>Cl n9) fH.so ?_,vN _ _ _⟩
  have aW:∀r u,(r,u)∈(eC k2.ct ks).2.2->∃j,r=.o j∧ct.i<=j∧j<k'.ct.i∧cb GG w' ρ j u∧cD u=[]:=by
   intro r u o7
   obtain⟨j,g1,g2,g3,g4⟩:=r6 r u o7
   exact⟨j,g1,by rw[<-iv];exact g2,by rw[Rc];exact g3,g4⟩
  have hmb:∀j bx,(j,bx)∈fR 0 sg.ps bs->M bx:=λj bx hj=>(w2.rel.fE _ _ (hx j bx hj)).1
  have oP:∀r u,St.look ((eC k2.ct ks).2.2++(rl (mS k2.ct sg.rs).1.a bs).2) r=some u->(r,u)∈(eC k2.ct ks).2.2∨(r,u)∈(rl (mS k2.ct sg.rs).1.a bs).2:=
   λr u hl=>List.mem_append.1 (Aw hl)
  refine⟨λe n u he hl=>?_,λb u hl=>?_,λi u hl=>?_,λr u hl i hi=>?_,λi hi=>?_,λb l hb=>?_⟩
  ·rcases iW hl with⟨n',fi,e1,rfl⟩|hl
   ·cases e1
    rw[fi,Hb (hn _ fi)]
    exact UW GG w' k2.ct (htp GG w' k2.ct r1)
   ·rcases oP _ _ hl with hm|hm
    ·obtain⟨j,e1,_⟩:=aW _ _ hm;cases e1
    ·obtain⟨j,bx,_,e1,_⟩:=sr _ _ hm;cases e1
  ·rcases iW hl with⟨n',fi,e1,rfl⟩|hl
   ·cases e1
   ·rcases oP _ _ hl with hm|hm
    ·obtain⟨j,e1,_⟩:=aW _ _ hm;cases e1
    ·obtain⟨j,bx,_,e1,e2,_⟩:=sr _ _ hm;cases e1;exact e2
  ·rcases iW hl with⟨n',fi,e1,rfl⟩|hl
   ·cases e1
   ·rcases oP _ _ hl with hm|hm
    ·obtain⟨j,e1,_,_,e2,_⟩:=aW _ _ hm;cases e1;exact e2
    ·obtain⟨j,bx,_,e1,_⟩:=sr _ _ hm;cases e1
  ·rcases iW hl with⟨n',fi,e1,rfl⟩|hl
   ·have:=UP _ i hi
    rw[KS]at this
    have:=r4 i this
    exact .inr ⟨by omega,by rw[Rc];exact this.2⟩
   ·rcases oP _ _ hl with hm|hm
    ·obtain⟨j,_,_,_,_,e2⟩:=aW _ _ hm;rw[e2]at hi;cases hi
    ·obtain⟨j,bx,_,_,_,e2⟩:=sr _ _ hm;rw[e2]at hi;cases hi
  ·have:∀r:aK,(r=.x i∨r=.o i)->St.look (dN d o (B7 (mS k2.ct sg.rs).2.1)++((eC k2.ct ks).2.2++(rl (mS k2.ct sg.rs).1.a bs).2)) r≠none->Mn M ct.i k'.ct.i i:=by
    intro r hr hl
    obtain⟨u,hu⟩:=Option.ne_none_iff_exists'.1 hl
    rcases iW hu with⟨n',fi,e1,rfl⟩|hl
    ·rcases hr with rfl|rfl<;>cases e1
    ·rcases oP _ _ hl with hm|hm
     ·obtain⟨j,e1,g1,g2,_⟩:=aW _ _ hm
      rcases hr with rfl|rfl
      ·cases e1
      ·cases e1;exact .inr ⟨g1,g2⟩
     ·obtain⟨j,bx,hj,e1,_⟩:=sr _ _ hm
      rcases hr with rfl|rfl
      ·cases e1;exact .inl (hmb j _ hj)
      ·cases e1
   rcases hi with hi|hi
   ·exact this _ (.inl rfl) hi
   ·exact this _ (.inr rfl) hi
  ·by_cases bI:b<w.heap.size
   ·rw[hold b bI]at hb
    have:=w2.rel.fE b l hb
    exact⟨.inl this.1,by have:=fH.size;omega⟩
   ·rw[xo b bI]at hb
    cases qD:G'.ω b with
    |none=>rw[qD]at hb;cases hb
    |some l'=>
     rw[qD]at hb
     cases l' with
     |f=>cases hb
     |x i=>cases hb
     |o i p=>
      simp only[Option.map_eq_some_iff]at hb
      obtain⟨j,hj,rfl⟩:=hb
      have il:=Hu hj
      rw[Rb]at il
      exact⟨.inr ⟨by rw[<-iv];exact(Ej il).1,by rw[Rc];exact r5 j _ il⟩,fH.fE b _ qD⟩
structure Env (P:Program) (cx:Cx) (S:Nat->ai):Prop where
 cQ:dg P cx
 fns:∀g sg,cx.sg g=some sg->mB P g∧Av P sg g (S g)
 cC:∀g fn,cx.fn g=some fn->P.funcs[g]?=some fn∧mB P g
theorem bf.quiet{W:St}(h:bf P M B d up ρ a w s o W Q∧k'.ct.i=ct.i):bf P (Mn M ct.i k'.ct.i) B d up ρ a w s o W Q:=h.1.mono λi hi=>.inl hi
theorem UZ(E:Env P cx S)(h:Rel M B d up s ρ G a w)(hn:∀n,o.dst=some n->n<a.tmps.size)
  (hk:gv cx bY dS d o oi ⟨s.only R,[],ct,[]⟩=some k')(hd:k'.aO S ρ)(hM:∀i,ct.i<=i->i<k'.ct.i->¬M i):bf P (Mn M ct.i k'.ct.i) B d up ρ a w s o k'.w Q:=by
 have hw:=cG.start h R ct
 cases dh:o.op with
 |move x=>exact bf.quiet (Jf h hn (.inl dh) hk)
 |assign x=>exact bf.quiet (Jf h hn (.inr dh) hk)
 |alloc t=>exact Tg E.cQ h hn dh hk hM
 |box t x=>exact Th E.cQ h hn dh hk hM
 |build t ps=>exact bf.quiet (Tc E.cQ h hn dh hk)
 |buildSlice t n ps=>exact Uq E.cQ h hn dh hk hd hM
 |makeSlice t x y=>exact TK E.cQ h hn dh hk hd hM
 |load t x=>
  simp only[gv,dh,bU,aH]at hk
  obtain⟨⟨k1,v⟩,hv,hk⟩:=hk
  split at hv
  ·rename_i r hT
   cases qY:cx.fz bY dS oi with
   |false=>rw[qY]at hT;cases hT
   |true=>rw[qY]at hT;cases hv;exact UE E.cQ h hn dh hT hk hd hM
  ·exact bf.quiet (S6 E.cQ h hn dh ⟨k1,v,hv,hk⟩ hd)
 |store t x y=>
  simp only[gv,dh,bU,aH]at hk
  obtain⟨k1,cM,hk⟩:=hk
  split at cM
  ·rename_i k2 hD
   cases cM
   cases qY:cx.fz bY dS oi with
   |true=>rw[qY]at hD;cases hD
   |false=>rw[qY]at hD;exact bf.quiet (Uv E.cQ h hn dh ⟨k1,hD,hk⟩ hd)
  ·exact bf.quiet (TA E.cQ h hn dh ⟨k1,cM,hk⟩ hd)
 |nilCheck x=>exact bf.quiet (S1 h hn dh hk)
 |binOp op t x y yt=>
  have KT:=hk
  simp only[gv,dh]at hk
  split at hk
  ·rename_i c e uP zZ;exact bf.quiet (SN E.cQ h hn dh uP zZ KT hd)
  ·rename_i es bs uP zZ;exact bf.quiet (Ut E.cQ h hn dh uP zZ KT hd)
  ·cases hk
 |unOp op t x=>exact bf.quiet (SQ h hn dh hk hd)
 |slice t x lo hi mx=>
  cases hT:(bif mx.isSome then none else wy cx ⟨s.only R,[],ct,[]⟩ t (bC d (Wk.get ⟨s.only R,[],ct,[]⟩) x) (lo.map (bC d (Wk.get ⟨s.only R,[],ct,[]⟩))) (hi.map (bC d (Wk.get ⟨s.only R,[],ct,[]⟩))))with
  |none=>exact bf.quiet (TD E.cQ h hn dh hT hk hd)
  |some kv=>
   refine UA E.cQ h hn dh hT ?_ hd hM
   simp only[gv,dh]at hk
   rw[hT]at hk
   exact Option.some.inj hk
 |fieldAddr t x f=>exact bf.quiet (S3 E.cQ h hn dh hk)
 |indexAddr t x y=>exact bf.quiet (Ta E.cQ h hn dh hk hd)
 |index t x y=>
  simp only[gv,dh,bU]at hk
  obtain⟨ti,eh,⟨k1,y1⟩,h1,⟨k2,y2⟩,h2,hk⟩:=hk
  cases hc:Nat.beq ti.kd 2 with
  |false=>simp[hc]at hk
  |true=>
   simp only[hc,cond_true,aH]at hk
   have dG:bn d o (k2.em .idx [y1,y2]).1 (.v false [.p (k2.em .idx [y1,y2]).2])=k':=hk
   subst dG
   exact bf.quiet (S0 h hn dh E.cQ eh (cO hc) hw h1 h2 hd)
 |extract x i=>exact bf.quiet (S2 h hn dh hk)
 |makeFunc f first uF=>exact bf.quiet (Ti h hn dh hk)
 |call c=>
  have KT:=hk
  simp only[gv,dh]at hk
  split at hk
  ·rename_i x hc dH
   simp only[bU]at hk
   obtain⟨ti,eh,⟨k1,y⟩,h1,hk⟩:=hk
   cases h3:Nat.beq ti.kd 3 with
   |true=>
    simp only[h3,cond_true,aH]at hk
    have dG:bn d o (k1.em .len [y]).1 (.v false [.p (k1.em .len [y]).2])=k':=hk
    subst dG
    exact bf.quiet (SY h hn E.cQ dh hc dH (Option.bind_eq_some_iff.2 eh) (cO h3) hw h1 hd)
   |false=>
    simp only[h3,cond_false]at hk
    cases h2:Nat.beq ti.kd 2 with
    |false=>simp[h2]at hk
    |true=>
     simp only[h2,cond_true,aH]at hk
     have dG:bn d o (k1.em .lens [y]).1 (.v false [.p (k1.em .lens [y]).2])=k':=hk
     subst dG
     exact bf.quiet (SZ h hn E.cQ dh hc dH (Option.bind_eq_some_iff.2 eh) (cO h2) hw h1 hd)
  ·rename_i x y hc dH
   simp only[bU,aH]at hk
   obtain⟨⟨k1,y1⟩,h1,⟨k2,y2⟩,h2,hk⟩:=hk
   have dG:bn d o (k2.em .mx [y1,y2]).1 (.v false [.p (k2.em .mx [y1,y2]).2])=k':=hk
   subst dG
   exact bf.quiet (Ji h hn dh dH (.inl ⟨hc,rfl⟩) hw h1 h2 hd)
  ·rename_i x y hc dH
   simp only[bU,aH]at hk
   obtain⟨⟨k1,y1⟩,h1,⟨k2,y2⟩,h2,hk⟩:=hk
   have dG:bn d o (k2.em .mn [y1,y2]).1 (.v false [.p (k2.em .mn [y1,y2]).2])=k':=hk
   subst dG
   exact bf.quiet (Ji h hn dh dH (.inr ⟨hc,rfl⟩) hw h1 h2 hd)
  ·rename_i x y hc dH
   exact Ue E.cQ h hn dh hc dH KT hd hM
  ·rename_i x0 xs0 g hc
   simp only[bU]at hk
   obtain⟨sg,Ra,_⟩:=hk
   obtain⟨q1,q2⟩:=E.fns g sg Ra
   exact UQ h hn dh hc q1 Ra q2 KT hd hM
  ·cases hk
 |convert t1 t2 x=>
  cases hB:wz cx ⟨s.only R,[],ct,[]⟩ t1 t2 (bC d (Wk.get ⟨s.only R,[],ct,[]⟩) x)with
  |none=>exact bf.quiet (SW E.cQ h hn dh hB hk hd)
  |some r=>
   simp only[gv,dh,hB,aH]at hk
   exact TN E.cQ h hn dh hB hk hd hM
 |_=>simp[gv,dh]at hk
end
theorem Lf.fY{ρ e:List T}{x:Lf}{t:T}(h:x.eE ρ=some t):x.eE (ρ++e)=some t:=by
 cases x with
 |k v=>exact h
 |a n=>simp only[Lf.eE]at h⊢;rw[List.getElem?_append_left (List.getElem?_eq_some_iff.1 h).1];exact h
 |e=>exact h
theorem Rd{ρ e:List T}{x:Lf}{i:Nat}(h:k_ ρ x=some i):k_ (ρ++e) x=some i:=by
 unfold k_ at h⊢
 cases hx:x.eE ρ with
 |none=>simp[hx]at h
 |some t=>rw[Lf.fY hx];rw[hx]at h;exact h
theorem KU{ρ e:List T}:∀{q:ma} {p:List (Nat×Nat)},fm ρ q=some p->fm (ρ++e) q=some p
 | [],p,h=>h
 |(x,w,j)::q,p,h=>by
  simp only[fm,bU,aH]at h⊢
  obtain⟨i,h1,p',h2,rfl⟩:=h
  exact⟨i,Rd h1,p',KU h2,rfl⟩
theorem KV{ρ e:List T}{id:Nat}{q:ma}{p:List (Nat×Nat)}(h:jH ρ id q=some p):jH (ρ++e) id q=some p:=by
 cases q with
 |nil=>exact h
 |cons x q=>
  simp only[jH]at h⊢
  split at h
  ·rename_i hi;rw[if_pos hi];exact KU h
  ·cases h
section
variable {G:Gh} {w:World} {ρ e:List T}
theorem fb.ext{c:Ce}{v:Value}(h:fb G w ρ c v):fb G w (ρ++e) c v:=by
 cases c with
 |p x=>obtain⟨t,h1,h2⟩:=h;exact⟨t,Lf.fY h1,h2⟩
 |o id q=>obtain⟨p,h1,h2⟩:=h;exact⟨p,KV h1,h2⟩
 |n=>exact h
 |d=>exact h
theorem aE.ext:∀{cs:List Ce} {vs:List Value},aE G w ρ cs vs->aE G w (ρ++e) cs vs
 | [],[],_=>trivial
 |_::_,_::_,h=>⟨h.1.ext,aE.ext h.2⟩
 | [],_::_,h=>h.elim
 |_::_,[],h=>h.elim
theorem dW.ext{ag:Bool}{cs:List Ce}{c:Value}(h:dW G w ρ ag cs c):dW G w (ρ++e) ag cs c:=by
 cases ag with
 |true=>obtain⟨vs,h1,h2⟩:=h;exact⟨vs,h1,h2.ext⟩
 |false=>obtain⟨x,rfl,h2,h3⟩:=h;exact⟨x,rfl,h2.ext,h3⟩
theorem fo.ext:∀{cs:List (Bool×List Ce)} {vs:List Value},fo G w ρ cs vs->fo G w (ρ++e) cs vs
 | [],[],_=>trivial
 |_::_,_::_,h=>⟨h.1.ext,fo.ext h.2⟩
 | [],_::_,h=>h.elim
 |_::_,[],h=>h.elim
theorem ca.ext{v:SV}{c:Value}(h:ca G w ρ v c):ca G w (ρ++e) v c:=by
 cases v with
 |un=>trivial
 |v ag cs=>exact dW.ext h
 |pt b off=>exact h
 |ep id q ix wd off=>obtain⟨p,b,n,cap,i,h1,h2,h3,h4⟩:=h;exact⟨p,b,n,cap,i,KV h1,h2,Rd h3,h4⟩
 |fp s ix wd off=>obtain⟨xs,i,r,b,base,h1,h2,h3⟩:=h;exact⟨xs,i,r,b,base,Lf.fY h1,Rd h2,h3⟩
 |tp vs=>obtain⟨us,h1,h2⟩:=h;exact⟨us,h1,h2.ext⟩
 |cl f bs=>exact h
 |ob dp x=>exact h
 |fz pv x=>exact h
 |tk x m=>exact h
 |fl x=>exact h
 |fr x=>exact h
theorem eX.ext{b:Nat}{v:SV}(h:eX G w ρ b v):eX G w (ρ++e) b v:=by
 cases v with
 |v ag cs=>obtain⟨h1,aN,elem,h2,h3⟩:=h;exact⟨h1,aN,elem,h2,h3.ext⟩
 |_=>exact h
theorem cb.ext{b:Nat}{v:SV}(h:cb G w ρ b v):cb G w (ρ++e) b v:=by
 cases v with
 |ob dp x=>obtain⟨t,h1,h2⟩:=h;exact⟨t,Lf.fY h1,h2⟩
 |fz pv x=>
  obtain⟨t,h1,h2,h3⟩:=h
  refine⟨t,Lf.fY h1,h2,?_⟩
  cases pv with
  |z=>trivial
  |w tk x0 lo=>obtain⟨g0,F,n,zs,g1,g2,g3⟩:=h3;exact⟨g0,F,n,zs,Lf.fY g1,Rd g2,g3⟩
 |tk x m=>obtain⟨h0,F,u,h1,h2,h3⟩:=h;exact⟨h0,F,u,Lf.fY h1,Lf.fY h2,h3⟩
 |fl x=>obtain⟨h0,t,h1,h2⟩:=h;exact⟨h0,t,Lf.fY h1,h2⟩
 |fr x=>obtain⟨h0,t,h1,h2⟩:=h;exact⟨h0,t,Lf.fY h1,h2⟩
 |_=>exact h
theorem Rel.ext{M:Nat->Prop}{B:dE}{d:Nat}{up:Nat->Nat->Value}{s:St}{a:Act}(h:Rel M B d up s ρ G a w):Rel M B d up s (ρ++e) G a w:=
 ⟨λx n hx=>(h.tm x n hx).ext,λb=>(h.bx b).ext,λi=>(h.ob i).ext,h.eY,h.key,h.fE,h.dn,h.base,h.bt⟩
end
theorem Lf.xp{ρ e:List T}{x:Lf}(h:x.ia ρ.length=true):x.ev (ρ++e)=x.ev ρ:=by
 cases x with
 |k v=>rfl
 |a n=>
  have bI:n<ρ.length:=Nat.lt_of_succ_le (by simpa[Lf.ia,Nat.blt]using h)
  simp only[Lf.ev,List.getD_eq_getElem?_getD]
  rw[List.getElem?_append_left bI]
 |e=>rfl
theorem KW{ρ e:List T}{xs:List Lf}(h:xs.all (Lf.ia ρ.length)=true):xs.map (Lf.ev (ρ++e))=xs.map (Lf.ev ρ):=
 List.map_congr_left λx hx=>Lf.xp (List.all_eq_true.1 h x hx)
theorem Eu(ts:List T):∀(m i:Nat),(pZ ts i m).length=m
 |0,_=>rfl
 |m+1,i=>by simp[pZ,Eu ts m]
theorem KX(ts:List T):∀(m i j:Nat),j<m->(pZ ts i m)[j]?=some (ts.getD (i+j) T.bp)
 |0,_,j,h=>by omega
 |m+1,i,0,_=>by simp[pZ]
 |m+1,i,j+1,h=>by
  simp only[pZ,List.getElem?_cons_succ]
  rw[KX ts m (i+1) j (by omega)]
  congr 2;omega
section
variable {S:Nat->ai} {R:Nat} {K:List ai} {out:List T}
theorem Az:∀{is:List zl} {p:PL} {ρ:List T},zu (ρ.length+oZ is) is=true->(wrap is p).den S R K ρ=some out->
  ∃ts,ts.length=oZ is∧p.den S R K (ρ++ts)=some out∧∀e,aO S (ρ++ts++e) (ρ.length+oZ is) is
 | [],p,ρ,_,h=>⟨[],rfl,by rw[List.append_nil];exact h,λ_=>trivial⟩
 | .pr q xs::is,p,ρ,dP,h=>by
  simp only[zu,oZ,bd]at dP
  have e0:ρ.length+(oZ is+1)-1=ρ.length+oZ is:=by omega
  rw[e0]at dP
  obtain⟨ts,h1,h2,h3⟩:=Az (is:=is) dP.2 (show(wrap is (.ins (.pr q xs) p)).den S R K ρ=some out from h)
  simp only[PL.den,bU]at h2
  obtain⟨t,h4,h5⟩:=h2
  have hl:(ρ++ts).length=ρ.length+oZ is:=by simp[h1]
  refine⟨ts++[t],by simp[oZ,h1],by simpa using h5,λe=>⟨ρ.length+oZ is,t,rfl,?_,?_,?_⟩⟩
  ·have:=KW (ρ:=ρ++ts) (e:=t::e) (xs:=xs) (by rw[hl];exact dP.1.2)
   simp only[List.append_assoc,List.cons_append,List.nil_append]at this⊢
   rw[this]
   simpa using h4
  ·rw[<-hl];simp
  ·have:=h3 (t::e)
   simpa using this
 | .cl g xs m::is,p,ρ,dP,h=>by
  simp only[zu,oZ,bd]at dP
  have e0:ρ.length+(oZ is+m)-m=ρ.length+oZ is:=by omega
  rw[e0]at dP
  obtain⟨ts,h1,h2,h3⟩:=Az (is:=is) dP.2 (show(wrap is (.ins (.cl g xs m) p)).den S R K ρ=some out from h)
  simp only[PL.den,bU]at h2
  obtain⟨us,h4,h5⟩:=h2
  have hl:(ρ++ts).length=ρ.length+oZ is:=by simp[h1]
  refine⟨ts++pZ us 0 m,by simp[oZ,h1,Eu],by simpa using h5,λe=>⟨ρ.length+oZ is,us,by simp only[oZ];omega,?_,λi hi=>?_,?_⟩⟩
  ·have:=KW (ρ:=ρ++ts) (e:=pZ us 0 m++e) (xs:=xs) (by rw[hl];exact dP.1.2)
   simp only[List.append_assoc]at this⊢
   rw[this]
   simpa using h4
  ·rw[<-hl,List.append_assoc,List.append_assoc,<-List.append_assoc ρ ts,List.getElem?_append_right (by omega),show(ρ++ts).length+i-(ρ++ts).length=i by omega,
    List.getElem?_append_left (by rw[Eu];exact hi),KX _ _ _ _ hi]
   simp
  ·have:=h3 (pZ us 0 m++e)
   simpa using this
end
def cH(fs:iQ)(ρ:List T):Prop:=∀n b,fact fs n=some b->ρ[n]?=some (.c (.bool b))
theorem cH.ext{fs:iQ}{ρ e:List T}(h:cH fs ρ):cH fs (ρ++e):=λn b hn=>by
 have:=h n b hn
 rw[List.getElem?_append_left (List.getElem?_eq_some_iff.1 this).1];exact this
theorem cH.cons{fs:iQ}{ρ:List T}{n:Nat}{b:Bool}(h:cH fs ρ)(hn:ρ[n]?=some (.c (.bool b))):cH ((n,b)::fs) ρ:=by
 intro m c hm
 simp only[fact]at hm
 cases hb:Nat.beq n m with
 |true=>simp[hb]at hm;subst hm;rw[<-cO hb];exact hn
 |false=>simp[hb]at hm;exact h m c hm
section
variable {G:Gh} {w:World} {ρ:List T} {fs:iQ}
theorem AA{sv:SV}{c:Value}{b:Bool}(h:pn fs sv=.is b)(hr:ca G w ρ sv c)(hf:cH fs ρ):c=.bool b:=by
 unfold pn at h
 split at h
 ·cases h
 ·split at h
  ·rename_i b' hb
   cases h
   unfold Df at hb
   split at hb
   ·cases hb
    obtain⟨e,he,n_,_⟩:=hr
    cases he
    obtain⟨t,h1,h2⟩:=n_
    simp only[Lf.eE,iY,cond_true,aH]at h1
    subst h1
    exact h2.scalar.1
   ·cases hb
  ·rename_i n hb
   unfold Df at hb
   split at hb
   ·cases hb
    split at h
    ·rename_i b' KY
     cases h
     obtain⟨e,he,n_,_⟩:=hr
     cases he
     obtain⟨t,h1,h2⟩:=n_
     have:=hf n b KY
     simp only[Lf.eE]at h1
     rw[this]at h1
     cases h1
     exact h2.scalar.1
    ·cases h
   ·cases hb
  ·cases h
theorem U0{sv:SV}{c:Value}(h:pn fs sv=.nil)(hr:ca G w ρ sv c):∃us,c=.tuple us:=by
 unfold pn at h
 split at h
 ·obtain⟨us,h1,_⟩:=hr;exact⟨_,h1⟩
 ·split at h
  ·cases h
  ·split at h<;>cases h
  ·cases h
end
section
variable {M:Nat->Prop} {B:dE} {d:Nat} {up:Nat->Nat->Value} {ρ:List T} {G:Gh} {a:Act} {w:World} {S:Nat->ai} {P:Program}
variable {cx:Cx} {bY dS oi:Nat} {s:St} {R:Nat} {ct:Ct} {k':Wk} {o:Oper} {Q:Exit->Act->World->Prop} {ops:Array Oper} {nt:Nat} {fs:iQ}
def gw(d:Nat)(ops:Array Oper)(o:Oper)(fs:iQ)(s:St):Option Bool:=
 match o.guard with
 |none=>some true
 |some (j,iR)=>match(ops[j]?).bind (·.dst)with
  |none=>none
  |some g=>match pn fs (s.get (.t d g))with
   | .nil=>some false
   | .is b=>some (b==iR)
   |_=>none
theorem Ev{s':St}(h:∀r∈vL d ops o,s'.get r=s.get r):gw d ops o fs s'=gw d ops o fs s:=by
 unfold gw vL at*
 cases hg:o.guard with
 |none=>rfl
 |some jw=>
  obtain⟨j,iR⟩:=jw
  simp only[hg]at h
  cases hb:(ops[j]?).bind (·.dst)with
  |none=>simp only[hb]
  |some g=>
   simp only[hb]at h⊢
   simp only[h (.t d g) (by simp)]
theorem AB{x:Bool}(h:gw d ops o fs s=some x)(hr:Rel M B d up s ρ G a w)(hf:cH fs ρ):Region.wanted o (yielded ops a.tmps)=x:=by
 unfold gw at h
 unfold Region.wanted
 cases hg:o.guard with
 |none=>simp[hg]at h;simp[h]
 |some jw=>
  obtain⟨j,iR⟩:=jw
  simp only[hg]at h
  cases hb:(ops[j]?).bind (·.dst)with
  |none=>simp[hb]at h
  |some g=>
   simp only[hb]at h
   have ht:=hr.tm d g (Nat.le_refl _)
   simp only[nE,if_true]at ht
   cases hd:pn fs (s.get (.t d g))with
   |nil=>
    simp only[hd,aH]at h
    subst h
    obtain⟨us,hu⟩:=U0 hd ht
    simp only[yielded,hb,Option.bind_some]
    rw[Array.getD_eq_getD_getElem?]at hu
    cases hx:a.tmps[g]? with
    |none=>simp
    |some v=>rw[hx]at hu;simp only[Option.getD_some]at hu;subst hu;simp
   |is b=>
    simp only[hd,aH]at h
    have hu:=AA hd ht hf
    simp only[yielded,hb,Option.bind_some]
    rw[Array.getD_eq_getD_getElem?]at hu
    cases hx:a.tmps[g]? with
    |none=>rw[hx]at hu;simp[undef]at hu
    |some v=>
     rw[hx]at hu;simp only[Option.getD_some]at hu;subst hu
     rw[<-h]
     cases b<;>cases iR<;>rfl
   |ask n=>simp[hd]at h
   |no=>simp[hd]at h
theorem AC{sv:SV}{n:Nat}{b:Bool}(h:pn fs sv=.ask n):pn ((n,b)::fs) sv=.is b:=by
 unfold pn at h⊢
 split at h
 ·cases h
 ·split at h
  ·cases h
  ·rename_i m hm
   split at h
   ·cases h
   ·cases h
    simp only[fact]
    simp
  ·cases h
def CE(P:Program)(ops:Array Oper)(Q:Exit->Act->World->Prop)(B:dE)(d:Nat)(up:Nat->Nat->Value)(nt:Nat)(ρ:List T)(i:Nat)(rd:List aK)(wr:St)(lo hi:Nat)(sI:St):Prop:=
 ∀(M:Nat->Prop) (s:St) (G:Gh) (a:Act) (w:World) (Kn:Act->World->Prop),(∀r∈rd,s.get r=sI.get r)->Rel M B d up s ρ G a w->a.tmps.size=nt->(∀j,lo<=j->j<hi->¬M j)->
  (∀G' a' w',Rel (Mn M lo hi) B d up (s.dV wr) ρ G' a' w'->a'.tmps.size=nt->Kn a' w')->wpOp P ops Q i Kn a w
theorem KZ{s':St}:∀{R:List aK},(∀r∈R,s'.get r=s.get r)->s'.only R=s.only R
 | [],_=>rfl
 |r::R,h=>by simp only[St.only];rw[h r (by simp),KZ λr hr=>h r (by simp[hr])]
theorem U1{i:Nat}{R:List aK}(E:Env P cx S)(ho:ops[i]?=some o)(hn:∀n,o.dst=some n->n<nt)(hg:gw d ops o fs s=some true)(hf:cH fs ρ)
  (hk:gv cx bY dS d o oi ⟨s.only R,[],ct,[]⟩=some k')(hd:k'.aO S ρ):CE P ops Q B d up nt ρ i (vL d ops o++R) k'.w ct.i k'.ct.i s:=by
 intro M s' G a w Kn mL hr mN hM hK
 have K1:=Ev (fs:=fs) (o:=o) (ops:=ops) (d:=d) (s:=s) (s':=s') λr hr=>mL r (List.mem_append_left _ hr)
 have hw:=AB (K1.trans hg) hr hf
 have o6:gv cx bY dS d o oi ⟨s'.only R,[],ct,[]⟩=some k':=by rw[KZ λr hr=>mL r (List.mem_append_right _ hr)];exact hk
 have:=UZ (Q:=Q) E hr (λn h=>by rw[mN];exact hn n h) o6 hd hM
 unfold wpOp
 simp only[ho,hw,if_true]
 exact .inl (Oper.wp_mono (λa' w' ⟨G',h1,h2⟩=>hK G' a' w' h1 (h2.trans mN)) this)
theorem K3(s:St)(r:aK)(v:SV):s.dV [(r,v)]=s.set r v:=rfl
theorem U2{i lo:Nat}(ho:ops[i]?=some o)(hn:∀n,o.dst=some n->n<nt)(hg:gw d ops o fs s=some false)(hf:cH fs ρ):
  CE P ops Q B d up nt ρ i (vL d ops o) (dN d o (.tp [])) lo lo s:=by
 intro M s' G a w Kn mL hr mN hM hK
 have K1:=Ev (fs:=fs) (o:=o) (ops:=ops) (d:=d) (s:=s) (s':=s') mL
 have hw:=AB (K1.trans hg) hr hf
 unfold wpOp
 simp only[ho,hw,du,if_false]
 have vV:∀i,M i->Mn M lo lo i:=λi h=>.inl h
 cases hd:o.dst with
 |none=>
  refine hK G _ w ?_ (by simpa[Act.put]using mN)
  simp only[dN,hd,Act.put]
  exact hr.mono vV
 |some n=>
  refine hK G _ w ?_ (by rw[vN];exact mN)
  simp only[dN,hd,K3]
  exact(hr.zW (x:=.tp []) (v:=undef) (by rw[mN];exact hn n hd) ⟨[],rfl,trivial⟩ (λi hi=>by simp[cD,qb]at hi)).mono vV
theorem U3{x:Operand}{t:Tmp}(h:x∈o.op.operands)(hx:x=.tmp t):t∈Dc o:=by
 subst hx
 exact List.mem_filterMap.2 ⟨.tmp t,by simpa using h,rfl⟩
theorem Ew{s':St}{x:Operand}(hx:x∈o.op.operands)(h:∀r∈(Dc o).map (aK.t d),s'.get r=s.get r):bC d s'.get x=bC d s.get x:=by
 cases x with
 |tmp t=>exact h _ (List.mem_map.2 ⟨t,U3 hx rfl,rfl⟩)
 |_=>rfl
theorem U4{i lo n:Nat}{b:Bool}{va vb:SV}(ho:ops[i]?=some o)(U5:o.dst=some n)(hn:n<nt)(hg:gw d ops o fs s=some true)(hf:cH fs ρ)(hp:Dg d s o fs=some (.is b,va,vb)):
  CE P ops Q B d up nt ρ i (vL d ops o++(Dc o).map (aK.t d)) [(.t d n,bif b then va else vb)] lo lo s:=by
 intro M s' G a w Kn mL hr mN hM hK
 have K1:=Ev (fs:=fs) (o:=o) (ops:=ops) (d:=d) (s:=s) (s':=s') λr hr=>mL r (List.mem_append_left _ hr)
 have hw:=AB (K1.trans hg) hr hf
 have vV:∀i,M i->Mn M lo lo i:=λi h=>.inl h
 unfold Dg at hp
 split at hp
 ·rename_i c x y dh
  simp only[aH,Prod.mk.injEq]at hp
  obtain⟨h1,rfl,rfl⟩:=hp
  have hT:∀r∈(Dc o).map (aK.t d),s'.get r=s.get r:=λr hr=>mL r (List.mem_append_right _ hr)
  have oc:=Ew (s':=s') (s:=s) (d:=d) (o:=o) (x:=c) (by rw[dh];simp[Op.operands]) hT
  have ox:=Ew (s':=s') (s:=s) (d:=d) (o:=o) (x:=x) (by rw[dh];simp[Op.operands]) hT
  have oy:=Ew (s':=s') (s:=s) (d:=d) (o:=o) (x:=y) (by rw[dh];simp[Op.operands]) hT
  have hc:=AA (by rw[oc];exact h1) (yB hr c).1 hf
  unfold wpOp
  simp only[ho,hw,if_true]
  left
  have fG:(execOp a.eval o).run P w=.ok (.value (if b then a.eval x else a.eval y)) w:=by
   unfold execOp
   simp only[dh,hc,asBool,pure_bind]
   cases b<;>rfl
  simp only[Oper.wp,fG,Oper.upon,U5]
  refine hK G _ w ?_ (by rw[vN];exact mN)
  rw[K3]
  refine(hr.zW (by rw[mN];exact hn) ?_ ?_).mono vV
  ·cases b
   ·simp only[cond_false,du,if_false];rw[<-oy];exact(yB hr y).1
   ·simp only[cond_true,if_true];rw[<-ox];exact(yB hr x).1
  ·cases b
   ·simp only[cond_false];rw[<-oy];exact(yB hr y).2
   ·simp only[cond_true];rw[<-ox];exact(yB hr x).2
 ·cases hp
end
section
variable {B:dE} {d:Nat} {up:Nat->Nat->Value} {S:Nat->ai} {P:Program} {cx:Cx} {cC:mm} {bY dS:Nat} {R:Nat} {o:Oper} {Q:Exit->Act->World->Prop} {ops:Array Oper} {nt:Nat} {draw:Bool}
variable {K:List ai} {out:List T} {i:Nat} {rc:Rec}
def xq(P:Program)(S:Nat->ai)(R:Nat)(K:List ai)(out:List T)(ops:Array Oper)(Q:Exit->Act->World->Prop)(B:dE)(d:Nat)(up:Nat->Nat->Value)(nt:Nat)(i:Nat)(rc:Rec)
  (tr:List Tr)(lv:Nat)(s:St)(ct:Ct)(ρ:List T):Prop:=
 ∃rd wr fK e ig p',(∀e',CE P ops Q B d up nt (ρ++e++e') i rd wr ct.i fK.i s)∧ct.i<=fK.i∧rc (tr++[⟨rd,wr.map (·.1)⟩]) lv (s.dV wr) fK ig=some p'∧p'.den S R K (ρ++e)=some out∧
  (ρ++e).length=fK.a∧cH ig (ρ++e)
def Ey(S:Nat->ai)(R:Nat)(K:List ai)(out:List T)(cx:Cx)(cC:mm)(ops:Array Oper)(d:Nat)(o:Oper)(rc:Rec)(tr:List Tr)(lv:Nat)(s:St)(ct:Ct)(ρ:List T):Prop:=
 ∃g vs ig p',gw d ops o ig s=some true∧zt cx d s o=some (g,vs)∧cH ig ρ∧cC (d+1) g vs lv s ct ig (zw d o rc tr)=some p'∧p'.den S R K ρ=some out
theorem Ez{n:Nat}{x y:PL}{ρ:List T}(h:(PL.ite n x y).den S R K ρ=some out):∃b,ρ[n]?=some (.c (.bool b))∧(bif b then x.den S R K ρ else y.den S R K ρ)=some out:=by
 simp only[PL.den]at h
 cases hn:ρ[n]? with
 |none=>rw[List.getD_eq_getElem?_getD,hn]at h;simp[T.bp]at h
 |some t=>
  rw[List.getD_eq_getElem?_getD,hn]at h
  simp only[Option.getD_some]at h
  split at h
  ·exact⟨_,rfl,h⟩
  ·cases h
theorem K4{tr:List Tr}{lv:Nat}{s:St}{ct:Ct}{fs:iQ}{ρ:List T}{p:PL}(ho:ops[i]?=some o)(hn:∀n,o.dst=some n->n<nt)(hg:gw d ops o fs s=some false)
  (h:zv d ops o rc tr lv s ct fs=some p)(hp:p.den S R K ρ=some out)(hl:ρ.length=ct.a)(hf:cH fs ρ):xq P S R K out ops Q B d up nt i rc tr lv s ct ρ:=by
 refine⟨vL d ops o,dN d o (.tp []),ct,[],fs,p,λe'=>U2 ho hn hg (by rw[List.append_nil];exact hf.ext),Nat.le_refl _,?_,by rw[List.append_nil];exact hp,by rw[List.append_nil];exact hl,by rw[List.append_nil];exact hf⟩
 unfold zv at h
 unfold dN
 cases hd:o.dst with
 |none=>rw[hd]at h;exact h
 |some n=>rw[hd]at h;exact h
theorem AD{tr:List Tr}{lv:Nat}{s:St}{ct:Ct}{fs:iQ}{ρ:List T}{p:PL}{b:Bool}{va vb:SV}(ho:ops[i]?=some o)(hn:∀n,o.dst=some n->n<nt)(hg:gw d ops o fs s=some true)
  (qE:Dg d s o fs=some (.is b,va,vb))(h:uH d ops o rc tr lv s ct fs (bif b then va else vb)=some p)(hp:p.den S R K ρ=some out)(hl:ρ.length=ct.a)(hf:cH fs ρ):xq P S R K out ops Q B d up nt i rc tr lv s ct ρ:=by
 unfold uH at h
 cases hd:o.dst with
 |none=>rw[hd]at h;cases h
 |some n=>
  rw[hd]at h
  exact⟨vL d ops o++(Dc o).map (aK.t d),[(.t d n,bif b then va else vb)],ct,[],fs,p,λe'=>U4 ho hd (hn n hd) hg (by rw[List.append_nil];exact hf.ext) qE,Nat.le_refl _,h,
   by rw[List.append_nil];exact hp,by rw[List.append_nil];exact hl,by rw[List.append_nil];exact hf⟩
theorem K5{fs:iQ}{s:St}{x:Bool}{m:Nat}{b:Bool}(h:gw d ops o fs s=some x)(hm:fact fs m=none):gw d ops o ((m,b)::fs) s=some x:=by
 unfold gw at h⊢
 cases hg:o.guard with
 |none=>rw[hg]at h;exact h
 |some jw=>
  obtain⟨j,iR⟩:=jw
  simp only[hg]at h⊢
  cases hb:(ops[j]?).bind (·.dst)with
  |none=>simp only[hb]at h;cases h
  |some g=>
   simp only[hb]at h⊢
   have key:∀dc,pn fs (s.get (.t d g))=dc->(∀n,dc≠.ask n)->dc≠.no->pn ((m,b)::fs) (s.get (.t d g))=dc:=by
    intro dc sy h1 h2
    unfold pn at sy⊢
    split at sy
    ·exact sy
    ·split at sy
     ·exact sy
     ·rename_i n hn
      split at sy
      ·rename_i b' lF
       have cW:Nat.beq m n=false:=by
        cases hbq:Nat.beq m n with
        |false=>rfl
        |true=>rw[cO hbq,lF]at hm;cases hm
       simp only[fact,cW,cond_false,lF]
       exact sy
      ·exact absurd sy.symm (h1 _)
     ·exact absurd sy.symm h2
   cases sy:pn fs (s.get (.t d g))with
   |nil=>rw[key _ sy (by simp) (by simp)];rw[sy]at h;exact h
   |is b'=>rw[key _ sy (by simp) (by simp)];rw[sy]at h;exact h
   |ask n=>rw[sy]at h;cases h
   |no=>rw[sy]at h;cases h
theorem U6{sv:SV}{fs:iQ}{n:Nat}(h:pn fs sv=.ask n):fact fs n=none:=by
 unfold pn at h
 split at h
 ·cases h
 ·split at h
  ·cases h
  ·split at h
   ·cases h
   ·rename_i hn;cases h;exact hn
  ·cases h
theorem K6{tr:List Tr}{lv:Nat}{s:St}{ct:Ct}{fs:iQ}{ρ:List T}{p:PL}(E:Env P cx S)(ho:ops[i]?=some o)(hn:∀n,o.dst=some n->n<nt)(hg:gw d ops o fs s=some true)
  (h:QN cx cC bY dS d ops draw o i rc tr lv s ct fs=some p)(hp:p.den S R K ρ=some out)(hl:ρ.length=ct.a)(hf:cH fs ρ):
  xq P S R K out ops Q B d up nt i rc tr lv s ct ρ∨(draw=false∧Ey S R K out cx cC ops d o rc tr lv s ct ρ):=by
 unfold QN at h
 split at h
 ·rename_i dc va vb qE
  left
  split at h
  ·exact AD (b:=true) ho hn hg qE h hp hl hf
  ·exact AD (b:=false) ho hn hg qE h hp hl hf
  ·rename_i n
   simp only[bU,aH]at h
   obtain⟨x,hx,y,hy,rfl⟩:=h
   obtain⟨b,hb,hp⟩:=Ez hp
   have K7:∀b,Dg d s o ((n,b)::fs)=some (.is b,va,vb):=by
    intro b
    unfold Dg at qE⊢
    split at qE
    ·simp only[aH,Prod.mk.injEq]at qE⊢
     exact⟨AC qE.1,qE.2⟩
    ·cases qE
   have cN:fact fs n=none:=by
    unfold Dg at qE
    split at qE
    ·simp only[aH,Prod.mk.injEq]at qE;exact U6 qE.1
    ·cases qE
   cases b with
   |true=>exact AD (b:=true) ho hn (K5 hg cN) (K7 true) hx hp hl (hf.cons hb)
   |false=>exact AD (b:=false) ho hn (K5 hg cN) (K7 false) hy hp hl (hf.cons hb)
  ·cases h;cases hp
  ·cases h;cases hp
 ·split at h
  ·rename_i g vs hi
   cases hd:draw with
   |true=>rw[hd]at h;simp only[cond_true,aH]at h;subst h;cases hp
   |false=>
    rw[hd]at h
    simp only[cond_false]at h
    exact .inr ⟨rfl,g,vs,fs,p,hg,hi,hf,h,hp⟩
  ·left
   split at h
   ·cases h;cases hp
   ·rename_i k hk
    cases hc:(Nat.beq k.ct.a (ct.a+oZ k.is)&&Nat.ble ct.i k.ct.i&&zu k.ct.a k.is)with
    |false=>rw[hc]at h;cases h
    |true=>
     rw[hc]at h
     simp only[cond_true,bU,aH]at h
     obtain⟨p',qC,rfl⟩:=h
     simp only[bd]at hc
     obtain⟨⟨c1,c2⟩,c3⟩:=hc
     have c1:=cO c1
     obtain⟨ts,w1,w2,w3⟩:=Az (S:=S) (R:=R) (K:=K) (out:=out) (ρ:=ρ) (by rw[hl,<-c1];exact c3) hp
     refine⟨vL d ops o++zo d s o,k.w,k.ct,ts,fs,p',λe'=>U1 E ho hn hg (by rw[List.append_assoc];exact hf.ext) hk ?_,Nat.le_of_ble_eq_true c2,qC,w2,by rw[List.length_append,w1,hl,c1],hf.ext⟩
     show aO S (ρ++ts++e') k.ct.a k.is
     rw[c1,<-hl]
     exact w3 e'
theorem K8{tr:List Tr}{lv:Nat}{s:St}{ct:Ct}{fs:iQ}{ρ:List T}{p:PL}(E:Env P cx S)(ho:ops[i]?=some o)(hn:∀n,o.dst=some n->n<nt)
  (h:wD cx cC bY dS d ops draw o i rc tr lv s ct fs=some p)(hp:p.den S R K ρ=some out)(hl:ρ.length=ct.a)(hf:cH fs ρ):
  xq P S R K out ops Q B d up nt i rc tr lv s ct ρ∨(draw=false∧Ey S R K out cx cC ops d o rc tr lv s ct ρ):=by
 unfold wD at h
 simp only at h
 cases Ed:o.guard with
 |none=>
  rw[Ed]at h
  exact K6 E ho hn (by unfold gw;rw[Ed]) h hp hl hf
 |some jw=>
  obtain⟨j,iR⟩:=jw
  rw[Ed]at h
  simp only at h
  cases hb:(ops[j]?).bind (·.dst)with
  |none=>rw[hb]at h;cases h
  |some g=>
   rw[hb]at h
   simp only at h
   have hgw:∀fs x,(match pn fs (s.get (.t d g))with| .nil=>some false| .is b=>some (b==iR)|_=>none)=some x->gw d ops o fs s=some x:=by
    intro fs x hx
    unfold gw
    simp only[Ed,hb]
    exact hx
   have both:∀(fs:iQ) (b:Bool) (p:PL),pn fs (s.get (.t d g))=.is b->(bif b==iR then QN cx cC bY dS d ops draw o i rc tr lv s ct fs else zv d ops o rc tr lv s ct fs)=some p->p.den S R K ρ=some out->cH fs ρ->
     xq P S R K out ops Q B d up nt i rc tr lv s ct ρ∨(draw=false∧Ey S R K out cx cC ops d o rc tr lv s ct ρ):=by
    intro fs b p hd h hp hf
    have hg:=hgw fs (b==iR) (by rw[hd])
    cases hbw:(b==iR)with
    |true=>rw[hbw]at h hg;exact K6 E ho hn hg h hp hl hf
    |false=>rw[hbw]at h hg;exact .inl (K4 ho hn hg h hp hl hf)
   cases hd:pn fs (s.get (.t d g))with
   |nil=>
    rw[hd]at h
    exact .inl (K4 ho hn (hgw fs false (by rw[hd])) h hp hl hf)
   |is b=>rw[hd]at h;exact both fs b p hd h hp hf
   |ask n=>
    rw[hd]at h
    simp only[bU,aH]at h
    obtain⟨x,hx,y,hy,rfl⟩:=h
    obtain⟨b,lF,hp⟩:=Ez hp
    cases b with
    |true=>exact both _ true x (AC hd) hx hp (hf.cons lF)
    |false=>exact both _ false y (AC hd) hy hp (hf.cons lF)
   |no=>rw[hd]at h;cases h;cases hp
end
structure Fr where
 d:Nat
 up:Nat->Nat->Value
 nt:Nat
structure Zb where
 K:List ai
 ρ:List T
def At(S:Nat->ai)(R:Nat)(out:List T)(B:dE)(f:Fr)(K0:Zb)(X:Gh->World->List T->Prop)(p:PL)(lv:Nat)(s:St)(ct:Ct)(fs:iQ)(a:Act)(w:World):Prop:=
 ∃K ρ G,p.den S R K ρ=some out∧K.length=lv∧(∃pre,K=pre++K0.K)∧(∃e,ρ=K0.ρ++e)∧ρ.length=ct.a∧cH fs ρ∧Rel (λi=>i<ct.i) B f.d f.up s ρ G a w∧a.tmps.size=f.nt∧X G w ρ
def XT:Gh->World->List T->Prop:=λ_ _ _=>True
def u9(S:Nat->ai)(R:Nat)(out:List T)(B:dE)(f:Fr)(K0:Zb)(k:KP)(Ψ:Act->World->Prop):Prop:=
 ∀lv s ct fs p a w,k lv s ct fs=some p->At S R out B f K0 XT p lv s ct fs a w->Ψ a w
def mC(us:List Value):Value:=if h:us.length=1 then us[0]else .tuple us.toArray
def xt(P:Program)(S:Nat->ai)(R:Nat)(out:List T)(B:dE)(cC:mm):Prop:=
 ∀(f:Fr) (g:Nat) (vs:List SV) (lv:Nat) (s:St) (ct:Ct) (fs:iQ) (kk:List SV->KP) (p:PL) (K0:Zb) (a:Act) (w:World) (args:List Value) (Ψ:Value->World->Prop),
  cC (f.d+1) g vs lv s ct fs kk=some p->At S R out B f K0 (λG w ρ=>cA G w ρ vs args∧∀v∈vs,∀i∈cD v,i<ct.i) p lv s ct fs a w->
   (∀rs o8 s' fK ig p' w' us,kk rs o8 s' fK ig=some p'->At S R out B f K0 (λG w ρ=>cA G w ρ rs us∧∀v∈rs,∀i∈cD v,i<fK.i) p' o8 s' fK ig a w'->Ψ (mC us) w')->
   mB P g∧Calls P g args.toArray w λe w'=>∃v,e=.returned v∧Ψ v w'
section
variable {B:dE} {f:Fr} {S:Nat->ai} {P:Program} {cx:Cx} {cC:mm} {bY dS:Nat} {R:Nat} {Q:Exit->Act->World->Prop} {ops:Array Oper} {out:List T} {K0:Zb}
theorem U7{lo hi:Nat}(h:lo<=hi)(i:Nat)(hm:Mn (λi=>i<lo) lo hi i):i<hi:=by
 rcases hm with h1|h1
 ·omega
 ·exact h1.2
theorem cA.length{G:Gh}{w:World}{ρ:List T}:∀{vs:List SV} {us:List Value},cA G w ρ vs us->vs.length=us.length
 | [],[],_=>rfl
 |_::_,_::_,h=>by simp[cA.length h.2]
 | [],_::_,h=>h.elim
 |_::_,[],h=>h.elim
theorem K9{G:Gh}{w:World}{ρ:List T}:∀{rs:List SV} {vs:List (Bool×List Ce)} {us:List Value},sm rs=some vs->cA G w ρ rs us->fo G w ρ vs us∧qb vs=rs.flatMap cD
 | [],vs,us,h,hr=>by
  simp[sm]at h
  subst h
  cases us with
  |nil=>exact⟨trivial,rfl⟩
  |cons _ _=>exact hr.elim
 | .v ag cs::rs,vs,us,h,hr=>by
  simp only[sm,bU,aH]at h
  obtain⟨l,hl,rfl⟩:=h
  cases us with
  |nil=>exact hr.elim
  |cons u us=>
   obtain⟨g1,g2⟩:=K9 hl hr.2
   exact⟨⟨hr.1,g1⟩,by simp[qb,cD,g2]⟩
 | .un::rs,vs,us,h,hr=>by simp[sm]at h
 | .pt _ _::rs,vs,us,h,hr=>by simp[sm]at h
 | .ep _ _ _ _ _::rs,vs,us,h,hr=>by simp[sm]at h
 | .fp _ _ _ _::rs,vs,us,h,hr=>by simp[sm]at h
 | .tp _::rs,vs,us,h,hr=>by simp[sm]at h
 | .cl _ _::rs,vs,us,h,hr=>by simp[sm]at h
 | .ob _ _::rs,vs,us,h,hr=>by simp[sm]at h
 | .fz _ _::rs,vs,us,h,hr=>by simp[sm]at h
 | .tk _ _::rs,vs,us,h,hr=>by simp[sm]at h
 | .fl _::rs,vs,us,h,hr=>by simp[sm]at h
 | .fr _::rs,vs,us,h,hr=>by simp[sm]at h
theorem U8{o:Oper}{rc:Rec}{tr:List Tr}{rs:List SV}{lv:Nat}{s:St}{ct:Ct}{fs:iQ}{p:PL}{a:Act}{w:World}{us:List Value}{Ψ:Act->World->Prop}(hn:∀n,o.dst=some n->n<f.nt)
  (h:zw f.d o rc tr rs lv s ct fs=some p)(aS:At S R out B f K0 (λG w ρ=>cA G w ρ rs us∧∀v∈rs,∀i∈cD v,i<ct.i) p lv s ct fs a w)
  (pR:∀tr lv s ct fs p a w,rc tr lv s ct fs=some p->At S R out B f K0 XT p lv s ct fs a w->Ψ a w):Ψ (a.put o.dst (mC us)) w:=by
 obtain⟨K,ρ,G,h1,h2,h3,h0,h4,h5,h6,h7,h8,h9⟩:=aS
 unfold zw at h
 have key:∀(n:Nat) (v:SV),o.dst=some n->rc tr lv (s.set (.t f.d n) v) ct fs=some p->ca G w ρ v (mC us)->(∀i∈cD v,i<ct.i)->Ψ (a.put o.dst (mC us)) w:=by
  intro n v hd hk hr hm
  rw[hd]
  exact pR tr lv _ ct fs p _ w hk ⟨K,ρ,G,h1,h2,h3,h0,h4,h5,h6.zW (by rw[h7];exact hn n hd) hr hm,by rw[vN];exact h7,trivial⟩
 have hlen:=h8.length
 split at h
 ·rename_i hd
  rw[hd]
  exact pR tr lv s ct fs p _ w h ⟨K,ρ,G,h1,h2,h3,h0,h4,h5,by simpa[Act.put]using h6,by simpa[Act.put]using h7,trivial⟩
 ·rename_i n v hd
  match us,h8 with
  | [u],h8=>exact key n v hd h h8.1 (h9 v (by simp))
 ·rename_i n hd
  exact key n .un hd h trivial (λi hi=>by simp[cD]at hi)
 ·rename_i rs' _ _ n hd EA Kk
  simp only[bU]at h
  obtain⟨vs,nM,h⟩:=h
  obtain⟨g1,g2⟩:=K9 nM h8
  refine key n (.tp vs) hd h ⟨us,?_,g1⟩ λi hi=>?_
  ·unfold mC
   rw[dif_neg]
   intro he
   rw[<-hlen]at he
   match rs',EA,he with
   | [v],EA,_=>exact EA v rfl
  ·rw[show cD (.tp vs)=qb vs from rfl,g2]at hi
   obtain⟨v,hv,hi⟩:=List.mem_flatMap.1 hi
   exact h9 v hv i hi
theorem U9{d:Nat}{up:Nat->Nat->Value}{M:Nat->Prop}{s:St}{ρ:List T}{G:Gh}{a:Act}{w:World}{o:Oper}{g:Nat}{vs:List SV}(hr:Rel M B d up s ρ G a w)(hi:zt cx d s o=some (g,vs)):
  ∃args:List Value,(mB P g->(execOp a.eval o).run P w=.ok (.enter g args.toArray) w)∧cA G w ρ vs args∧∀v∈vs,∀i∈cD v,M i:=by
 unfold zt at hi
 split at hi
 ·rename_i c dh
  split at hi
  ·rename_i x U_
   split at hi
   ·rename_i g' bs hx
    split at hi
    ·cases hi
    ·simp only[aH,Prod.mk.injEq]at hi
     obtain⟨rfl,rfl⟩:=hi
     obtain⟨h1,h2⟩:=yB hr x
     rw[hx]at h1 h2
     have hv:a.eval x=.func (.func g') #[] (bs.map λb=>Value.pointer (some ⟨G.β b,0,none⟩)).toArray:=h1
     refine⟨c.args.toList.map a.eval++bs.map λb=>Value.pointer (some ⟨G.β b,0,none⟩),?_,?_,?_⟩
     ·intro hg
      unfold execOp
      rw[dh]
      show Sem.run P (do let d <-resolve a.eval c o.type;invoke d.target d.args) w=_
      simp only[resolve,U_,hv,Deferred.ofValue,pure_bind,invoke]
      rw[KJ hg]
      congr 2
      exact Array.ext' (by simp)
     ·have k1:∀l:List Operand,cA G w ρ (l.map (bC d s.get)++bs.map λb=>SV.pt b 0) (l.map a.eval++bs.map λb=>Value.pointer (some ⟨G.β b,0,none⟩)):=by
       intro l
       induction l with
       |nil=>
        clear hx h1 h2 hv
        induction bs with
        |nil=>trivial
        |cons b bs ih=>exact⟨rfl,ih⟩
       |cons y l ih=>exact⟨(yB hr y).1,ih⟩
      exact k1 _
     ·intro v hv i hi
      rcases List.mem_append.1 hv with hv|hv
      ·obtain⟨y,_,rfl⟩:=List.mem_map.1 hv
       exact(yB hr y).2 i hi
      ·obtain⟨b,hb,rfl⟩:=List.mem_map.1 hv
       simp[cD]at hi
       subst hi
       exact h2 _ (by simpa[cD]using hb)
   ·cases hi
  ·cases hi
 ·cases hi
theorem EB(E:Env P cx S)(hI:xt P S R out B cC)(hn:∀o∈ops.toList,∀n,o.dst=some n->n<f.nt){fin:List Tr->KP}(oH:∀tr,u9 S R out B f K0 (fin tr) (Q .normal)):
  ∀(os:List Oper) (i:Nat) (tr:List Tr) (lv:Nat) (s:St) (ct:Ct) (fs:iQ) (p:PL) (a:Act) (w:World),ops.toList.drop i=os->zx cx cC bY dS f.d ops false fin os i tr lv s ct fs=some p->
   At S R out B f K0 XT p lv s ct fs a w->wpOps P ops Q (List.range' i os.length) a w
 | [],i,tr,lv,s,ct,fs,p,a,w,_,h,aS=>oH tr lv s ct fs p a w h aS
 |o::os,i,tr,lv,s,ct,fs,p,a,w,AE,h,aS=>by
  have ho:ops[i]?=some o:=by
   rw[<-Array.getElem?_toList]
   have:=congrArg (·[0]?) AE
   simpa using this
  have fi:=hn o (List.mem_of_mem_drop (i:=i) (by rw[AE];simp))
  have AF:ops.toList.drop (i+1)=os:=by
   rw[<-List.drop_drop,AE];rfl
  have ih:=EB E hI hn oH os (i+1)
  obtain⟨K,ρ,G,h1,h2,h3,⟨e0,h0⟩,h4,h5,h6,h7,_⟩:=aS
  rw[List.length_cons,List.range'_succ,wpOps_cons]
  rcases K8 (P:=P) (Q:=Q) (B:=B) (up:=f.up) (nt:=f.nt) (R:=R) (K:=K) (out:=out) E ho fi (show wD cx cC bY dS f.d ops false o i (zx cx cC bY dS f.d ops false fin os (i+1)) tr lv s ct fs=some p from h) h1 h4 h5 with
   ⟨rd,wr,fK,e,ig,p',rT,hle,pR,qC,gx,Hx⟩|⟨_,g,vs,ig,p',hg,hi,Hx,pN,qC⟩
  ·have K_:=rT []
   rw[List.append_nil]at K_
   refine K_ (λi=>i<ct.i) s G a w _ (λr hr=>rfl) h6.ext h7 (λj h1 h2=>by omega) λG' a' w' ij Ac=>?_
   exact ih _ lv _ fK ig p' a' w' AF pR ⟨K,ρ++e,G',qC,h2,h3,⟨e0++e,by rw[h0,List.append_assoc]⟩,gx,Hx,ij.mono (U7 hle),Ac,trivial⟩
  ·have hQ:=λ(args:List Value) hr=>hI f g vs lv s ct ig _ p' K0 a w args (λv w'=>wpOps P ops Q (List.range' (i+1) os.length) (a.put o.dst v) w') pN ⟨K,ρ,G,qC,h2,h3,⟨e0,h0⟩,h4,Hx,h6,h7,hr⟩ λrs o8 s' fK fs2 p2 w' us hk j4=>
    U8 (Ψ:=λa w'=>wpOps P ops Q (List.range' (i+1) os.length) a w') fi hk j4 λtr lv s ct fs p a w hk s7=>ih tr lv s ct fs p a w AF hk s7
   obtain⟨args,hx,hr,hm⟩:=U9 (P:=P) h6 hi
   have hw:=AB hg h6 Hx
   unfold wpOp
   simp only[ho,hw,if_true]
   left
   simp only[Oper.wp]
   obtain⟨hg0,xn⟩:=hQ args ⟨hr,hm⟩
   rw[hx hg0]
   refine xn.mono ?_
   rintro e w' ⟨v,rfl,hv⟩
   exact hv
end
end Go.Proofs.YtbhplkilhknciaaC

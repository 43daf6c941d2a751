/- The walk by reflection: a part of its laws, for any function. Conditions: none. -/
import Derived.Test.YtiebbbmibbkpcaaGreatKb
import Derived.LoopN
import Derived.Test.YtiebbbmibbkpcaaGreatKa
namespace Go.Proofs.YtiebbbmibbkpcaaGreatC
set_option linter.unusedVariables false
def FnIn (P:Program) (g:FuncId):Prop:=∃ fn,P.funcs[g]?=some fn∧(fn.name == "runtime.NumGoroutine")=false∧fn.body.isNone=false
theorem ajy_ {P:Program} {w:World} {g:FuncId} (h:FnIn P g) (args:Array Value):(callFunc g args).run P w=.ok (.enter g args) w:=by
 obtain ⟨fn,h1,h2,h3⟩:=h
 simp only [callFunc,Sem.run_bind,run_program,Result.andThen_ok,h1,h2,h3,Bool.false_eq_true,if_false,Sem.run_pure]
section
variable {M:Nat→Prop} {B:Base} {d:Nat} {up:Nat→Nat→Value} {ρ:List T} {G:Gh} {a:Act} {w:World} {S:Nat→Sem1} {P:Program}
variable {cx:Cx} {fid rid oi:Nat} {s:St} {R:List Res} {ct:Ct} {k':Wk} {o:Oper} {Q:Exit→Act→World→Prop}
theorem akd_:∀ {l:List Nat},ada_ l=true→l.Nodup
 | [],_=>List.nodup_nil
 | x :: xs,h=>by
  simp only [ada_,Bool.and_eq_true,Bool.not_eq_true'] at h
  refine List.nodup_cons.2 ⟨fun hm=>?_,akd_ h.2⟩
  have:=h.1
  rw [List.any_eq_false] at this
  exact this x hm (by simp)
theorem aam_:∀ {ps:List PS} {bs:List (Nat × Bool × Nat)} {i j bx:Nat},(j,bx)∈zY_ i ps bs→i≤j∧j < i+ps.length
 | [],bs,i,j,bx,h=>by simp [zY_] at h
 | .v _ _ :: ps,bs,i,j,bx,h=>by have:=aam_ (show (j,bx)∈zY_ (i+1) ps bs from h);simp only [List.length_cons];omega
 | .x _ :: ps,[],i,j,bx,h=>by simp [zY_] at h
 | .x _ :: ps,b :: bs,i,j,bx,h=>by
  simp only [zY_,List.mem_cons,Prod.mk.injEq] at h
  simp only [List.length_cons]
  rcases h with ⟨rfl,_⟩ | h
  ·omega
  ·have:=aam_ h;omega
theorem aar_:∀ {ps:List PS} {bs:List (Nat × Bool × Nat)} {i j bx:Nat},(j,bx)∈zY_ i ps bs→bx∈bs.map (·.1)
 | [],bs,i,j,bx,h=>by simp [zY_] at h
 | .v _ _ :: ps,bs,i,j,bx,h=>aar_ (show (j,bx)∈zY_ (i+1) ps bs from h)
 | .x _ :: ps,[],i,j,bx,h=>by simp [zY_] at h
 | .x _ :: ps,b :: bs,i,j,bx,h=>by
  simp only [zY_,List.mem_cons,Prod.mk.injEq] at h
  rcases h with ⟨_,rfl⟩ | h
  ·simp
  ·have:=aar_ h;simp only [List.map_cons,List.mem_cons];exact .inr this
theorem akl_:∀ {ps:List PS} {bs:List (Nat × Bool × Nat)} {i:Nat},(bs.map (·.1)).Nodup →
  (∀ j bx bx',(j,bx)∈zY_ i ps bs→(j,bx')∈zY_ i ps bs→bx=bx')∧(∀ j j' bx,(j,bx)∈zY_ i ps bs→(j',bx)∈zY_ i ps bs→j=j')
 | [],bs,i,_=>⟨fun _ _ _ h=>by simp [zY_] at h,fun _ _ _ h=>by simp [zY_] at h⟩
 | .v _ _ :: ps,bs,i,hn=>akl_ (ps:=ps) (i:=i+1) hn
 | .x _ :: ps,[],i,_=>⟨fun _ _ _ h=>by simp [zY_] at h,fun _ _ _ h=>by simp [zY_] at h⟩
 | .x _ :: ps,b :: bs,i,hn=>by
  simp only [List.map_cons,List.nodup_cons] at hn
  obtain ⟨g1,g2⟩:=akl_ (ps:=ps) (i:=i+1) hn.2
  constructor
  ·intro j bx bx' h h'
   simp only [zY_,List.mem_cons,Prod.mk.injEq] at h h'
   rcases h with ⟨rfl,rfl⟩ | h <;> rcases h' with ⟨h1,rfl⟩ | h'
   ·rfl
   ·have:=aam_ h';omega
   ·have:=aam_ h;omega
   ·exact g1 j bx bx' h h'
  ·intro j j' bx h h'
   simp only [zY_,List.mem_cons,Prod.mk.injEq] at h h'
   rcases h with ⟨rfl,rfl⟩ | h <;> rcases h' with ⟨h1,h2⟩ | h'
   ·exact h1.symm
   ·exact absurd (aar_ h') hn.1
   ·subst h2;exact absurd (aar_ h) hn.1
   ·exact g2 j j' bx h h'
def blOf (β:Nat→Nat) (pr:List (Nat × Nat)) (j:Nat):Option Nat:=(pr.find? fun p=>p.1 == j).map fun p=>β p.2
def ixOf (pr:List (Nat × Nat)) (bx:Nat):Option Nat:=(pr.find? fun p=>p.2 == bx).map (·.1)
theorem ack_ {β:Nat→Nat} {pr:List (Nat × Nat)} {j b:Nat} (h:blOf β pr j=some b):∃ bx,(j,bx)∈pr∧b=β bx:=by
 unfold blOf at h
 cases hf:pr.find? (fun p=>p.1 == j) with
 | none=>simp [hf] at h
 | some p =>
  simp [hf] at h
  have h1:=List.mem_of_find?_eq_some hf
  have h2:=List.find?_some hf
  simp at h2
  exact ⟨p.2,by rw [← h2];exact h1,h.symm⟩
theorem aQ4_ {β:Nat→Nat} {pr:List (Nat × Nat)} {j bx:Nat} (hi:∀ j bx bx',(j,bx)∈pr→(j,bx')∈pr→bx=bx') (h:(j,bx)∈pr):blOf β pr j=some (β bx):=by
 cases hf:blOf β pr j with
 | none =>
  unfold blOf at hf
  simp only [Option.map_eq_none_iff,List.find?_eq_none] at hf
  exact absurd (by simp) (hf _ h)
 | some b =>
  obtain ⟨bx',h1,rfl⟩:=ack_ hf
  rw [hi j bx bx' h h1]
theorem aum_ {pr:List (Nat × Nat)} {bx j:Nat} (h:ixOf pr bx=some j):(j,bx)∈pr:=by
 unfold ixOf at h
 cases hf:pr.find? (fun p=>p.2 == bx) with
 | none=>simp [hf] at h
 | some p =>
  simp [hf] at h
  have h1:=List.mem_of_find?_eq_some hf
  have h2:=List.find?_some hf
  simp at h2
  rw [← h,← h2];exact h1
theorem aPy_ {pr:List (Nat × Nat)} {j bx:Nat} (hi:∀ j j' bx,(j,bx)∈pr→(j',bx)∈pr→j=j') (h:(j,bx)∈pr):ixOf pr bx=some j:=by
 cases hf:ixOf pr bx with
 | none =>
  unfold ixOf at hf
  simp only [Option.map_eq_none_iff,List.find?_eq_none] at hf
  exact absurd (by simp) (hf _ h)
 | some j'=>rw [hi j j' bx h (aum_ hf)]
def vY_ (pl:Bool) (G:Gh) (pr:List (Nat × Nat)) (b:Nat):Option Lb :=
 match G.ω b with
 | none=>none
 | some .f=>some .f
 | some (.o _ _)=>if pl then some .f else none
 | some (.x bx)=>if b=G.β bx then (match ixOf pr bx with | some j=>some (.x j) | none=>some .f) else some .f
theorem aGx_ {pl:Bool} {pr:List (Nat × Nat)} {b:Nat} (h:(if pl then G.ω b else er G.ω b)=none):vY_ pl G pr b=none:=by
 unfold vY_
 cases hg:G.ω b with
 | none=>rfl
 | some l =>
  cases pl with
  | true=>simp [hg] at h
  | false =>
   cases l <;> simp [er,hg] at h ⊢
theorem ayj_ {pl:Bool} {ωc:Nat→Option Lb} {bl:Nat→Option Nat} (hω:∀ b,(if pl then G.ω b else er G.ω b)=none→ωc b=none) :
  ∀ {ps:List PS} {args:List Value} {xs:List Lf} {bs:List (Nat × Bool × Nat)} {i:Nat},ArgC G w ρ pl ps args xs bs→(∀ j bx,(j,bx)∈zY_ i ps bs→bl j=some (G.β bx)∧ωc (G.β bx)=some (.x j)) →
   alp_ ωc w bl i ps args (xs.map (Lf.ev ρ))∧∀ j bx,(j,bx)∈zY_ i ps bs→G.ω (G.β bx)=some (.x bx)
 | [],args,xs,bs,i,h,_=>by
  obtain ⟨rfl,rfl,rfl⟩:=h
  exact ⟨⟨rfl,rfl⟩,fun j bx h=>by simp [zY_] at h⟩
 | .v ag n :: ps,args,xs,bs,i,h,hp=>by
  obtain ⟨c,args',vs,x1,x2,rfl,rfl,hl,hag,hd1,hd2,h⟩:=h
  obtain ⟨g1,g2⟩:=ayj_ hω h (i:=i+1) hp
  refine ⟨⟨c,args',vs,_,_,rfl,List.map_append,by rw [List.length_map];exact hl,hag,?_,g1⟩,g2⟩
  cases pl with
  | true=>exact (hd2 rfl).keep (Nat.le_refl _) fun b _ hb=>⟨hω b (by simpa using hb),rfl⟩
  | false=>exact hd1.keep (Nat.le_refl _) fun b _ hb=>⟨hω b (by simpa using hb),rfl⟩
 | .x n :: ps,args,xs,bs,i,h,hp=>by
  obtain ⟨c,args',bx,ag,bs',arr,elem,x1,x2,rfl,rfl,hc,hb,hh,rfl,hl,hd,h⟩:=h
  obtain ⟨g1,g2⟩:=ayj_ hω h (i:=i+1) fun j bx hj=>hp j bx (by simp [zY_,hj])
  obtain ⟨q1,q2⟩:=hp i bx (by simp [zY_])
  refine ⟨⟨c,args',G.β bx,arr,elem,_,_,rfl,hc,q1,q2,hh,List.map_append,by rw [List.length_map];exact hl,?_,g1⟩,fun j bx' hj=>?_⟩
  ·refine hd.keep (Nat.le_refl _) fun b _ hb'=>⟨hω b ?_,rfl⟩
   cases pl with
   | true=>simpa using hb'
   | false=>simpa using aDg_ hb'
  ·simp only [zY_,List.mem_cons,Prod.mk.injEq] at hj
   rcases hj with ⟨_,rfl⟩ | hj
   ·exact hb
   ·exact g2 j bx' hj
theorem aG5_ {pl:Bool}:∀ {ps:List PS} {args:List Value} {xs:List Lf} {bs:List (Nat × Bool × Nat)} {i:Nat},ArgC G w ρ pl ps args xs bs→∀ j bx,(j,bx)∈zY_ i ps bs→G.ω (G.β bx)=some (.x bx)
 | [],args,xs,bs,i,h,j,bx,hj=>by simp [zY_] at hj
 | .v ag n :: ps,args,xs,bs,i,h,j,bx,hj=>by
  obtain ⟨c,args',vs,x1,x2,rfl,rfl,hl,hag,hd1,hd2,h⟩:=h
  exact aG5_ (ps:=ps) (i:=i+1) h j bx hj
 | .x n :: ps,args,xs,bs,i,h,j,bx,hj=>by
  obtain ⟨c,args',bx',ag,bs',arr,elem,x1,x2,rfl,rfl,hc,hb,hh,rfl,hl,hd,h⟩:=h
  simp only [zY_,List.mem_cons,Prod.mk.injEq] at hj
  rcases hj with ⟨_,rfl⟩ | hj
  ·exact hb
  ·exact aG5_ (ps:=ps) (i:=i+1) h j bx hj
def Gh.call (G G':Gh) (sz:Nat) (rn:Ren):Gh where
 ω:=fun b=>if b < sz then G.ω b else match G'.ω b with
  | some (.o id p)=>(wc_ rn id).map fun j=>.o j p
  | _=>none
 β:=G.β
 H:=fun j=>match xN_ rn j with
  | some (some id)=>G'.H id
  | some none=>fun _=>.slice none 0 0
  | none=>G.H j
 hs:=fun j p=>by
  rcases hr:xN_ rn j with _ | (_ | id)
  ·exact G.hs j p
  ·exact ⟨_,_,_,rfl⟩
  ·exact G'.hs _ p
theorem aI5_ {sg:Sig} (h:hasP sg=false):(∀ k∈allK sg.rs,kP k=false)∧∀ p∈sg.ps,∀ n,p≠.x n:=by
 simp only [hasP,Bool.or_eq_false_iff] at h
 obtain ⟨h1,h2⟩:=h
 constructor
 ·generalize sg.rs=rs at h1
  induction rs with
  | nil=>intro k hk;simp [allK] at hk
  | cons r rs ih =>
   simp only [List.any_cons,Bool.or_eq_false_iff] at h1
   intro k hk
   simp only [allK,List.mem_append] at hk
   rcases hk with hk | hk
   ·have:=List.any_eq_false.1 h1.1 k hk
    cases k with
    | s=>rfl
    | p=>simp at this
    | o dp=>cases dp <;> simp at this ⊢;rfl
   ·exact ih h1.2 k hk
 ·intro p hp n he
  subst he
  have:=List.any_eq_false.1 h2 _ hp
  simp at this
theorem aJ0_ {pl:Bool}:∀ {ps:List PS} {args:List Value} {xs:List Lf} {bs:List (Nat × Bool × Nat)},(∀ p∈ps,∀ n,p≠.x n)→ArgC G w ρ pl ps args xs bs→bs=[]
 | [],_,_,_,_,h=>h.2.2
 | .v _ _ :: ps,args,xs,bs,hp,h=>by
  obtain ⟨c,args',vs,x1,x2,_,_,_,_,_,_,h⟩:=h
  exact aJ0_ (fun p hp'=>hp p (by simp [hp'])) h
 | .x n :: ps,args,xs,bs,hp,h=>absurd rfl (hp (.x n) (by simp) n)
theorem ard_ {pl:Bool} {G':Gh} {w':World} {bl:Nat→Option Nat}:∀ {ps:List PS} {args:List Value} {xs:List Lf} {bs:List (Nat × Bool × Nat)} {i:Nat} {ts:List T},ArgC G w ρ pl ps args xs bs→ac8_ G' w' bl i ps ts→ts.length=adp_ bs
 | [],args,xs,bs,i,ts,hA,hB=>by
  obtain ⟨_,_,rfl⟩:=hA
  cases hB
  rfl
 | .v _ _ :: ps,args,xs,bs,i,ts,hA,hB=>by
  obtain ⟨c,args',vs,x1,x2,_,_,_,_,_,_,hA⟩:=hA
  exact ard_ (ps:=ps) (i:=i+1) hA hB
 | .x n :: ps,args,xs,bs,i,ts,hA,hB=>by
  obtain ⟨c,args',bx,ag,bs',arr0,elem0,x1,x2,_,rfl,_,_,_,_,_,_,hA⟩:=hA
  obtain ⟨b,arr,elem,t1,t2,hb,hω,hh,rfl,hl,hd,hB⟩:=hB
  have:=ard_ hA hB
  simp [adp_,hl,this]
theorem alx_:∀ (ks:List Ck) (ct:Ct),(zE_ ct ks).1.a=ct.a+ks.length
 | [],ct=>rfl
 | .o dp :: ks,ct=>by simp only [zE_,alx_ ks,List.length_cons];omega
 | .s :: ks,ct=>by simp only [zE_,alx_ ks,List.length_cons];omega
 | .p :: ks,ct=>by simp only [zE_,alx_ ks,List.length_cons];omega
theorem apo_:∀ {bs:List (Nat × Bool × Nat)} {a bx:Nat},bx∈bs.map (·.1)→(vH_ a bs).2.look (.x bx)≠none
 | [],a,bx,h=>by simp at h
 | b :: bs,a,bx,h=>by
  obtain ⟨b0,ag,n⟩:=b
  simp only [vH_,St.look]
  cases hb:(Res.x b0).beq (.x bx) with
  | true=>simp
  | false =>
   simp only [List.map_cons,List.mem_cons] at h
   rcases h with rfl | h
   ·simp [Res.beq] at hb
   ·exact apo_ h
theorem aQc_ {G':Gh} {w':World} {rs:List (Bool × List Ck)} {v:Value} {ts:List T} {is:List (Option Nat)} (h:RetV G' w' rs v ts is):∃ vs:List Value,OutVs G' w' rs vs ts is ∧
  ∀ (G2:Gh) (w2:World) (ct:Ct),RelTp G2 w2 ρ (x0_ ct rs).2.1 vs→RelSV G2 w2 ρ (adi_ (x0_ ct rs).2.1) v:=by
 match rs,h with
 | [],h=>obtain ⟨rfl,rfl⟩:=h;exact ⟨[],trivial,fun _ _ _ _=>trivial⟩
 | [r],h=>exact ⟨[v],h,fun G2 w2 ct hr=>hr.1⟩
 | r :: r' :: rs,h =>
  obtain ⟨vs,hv,h'⟩:=h
  exact ⟨vs,h',fun G2 w2 ct hr=>⟨vs,hv,hr⟩⟩
theorem apd_:∀ (rs:List (Bool × List Ck)) (ct:Ct),vb_ (x0_ ct rs).2.1=zq_ (zE_ ct (allK rs)).2.1
 | [],ct=>rfl
 | r :: rs,ct=>by
  simp only [x0_,allK,uf_,vb_,vn_]
  rw [apd_ rs]
theorem aPw_ (vs:List (Bool × List Ce)):∀ i∈zs_ (adi_ vs),i∈vb_ vs:=by
 intro i hi
 match vs,hi with
 | [],hi=>simp [adi_,zs_] at hi
 | [v],hi=>simpa [adi_,zs_,vb_] using hi
 | v :: v' :: vs,hi=>exact hi
theorem aP9_ (h:Rel M B d up s ρ G a w) (hn:∀ n,o.dst=some n→n < a.tmps.size) {c:Call} {g:Nat} (ho:o.op=.call c) (hc:c.callee=.value (.func g)) (hg:FnIn P g)
  {sg:Sig} (hsg:cx.sg g=some sg) (hC:aqr_ P sg g (S g)) (hk:zT_ cx fid rid d o oi ⟨s.only R,[],ct,[]⟩=some k') (hd:k'.Done S ρ) (hM:∀ i,ct.i≤i→i < k'.ct.i→¬ M i) :
  Goal P (Mn M ct.i k'.ct.i) B d up ρ a w s o k'.w Q:=by
 have hw:=WOk.start h R ct
 simp only [zT_,ho,hc,hsg,Option.bind_some] at hk
 unfold aK4_ at hk
 simp only [Option.bind_eq_some_iff] at hk
 obtain ⟨k1,hth,⟨k2,xs,bs⟩,hargs,hk⟩:=hk
 cases hnd:ada_ (bs.map (·.1)) with
 | false=>simp [hnd] at hk
 | true =>
  simp only [hnd,cond_true,Option.some.injEq] at hk
  have hnd':=akd_ hnd
  have hrs:∀ G1,Less G G1→RelSVs G1 w ρ (c.args.toList.map fun x=>opnd d (Wk.get ⟨s.only R,[],ct,[]⟩) x) (c.args.toList.map a.eval):=by
   intro G1 hl
   generalize c.args.toList=l
   induction l with
   | nil=>trivial
   | cons x l ih=>exact ⟨(hw.opn x).1.keep (hl.keep w) fun _ _ hf=>hf,ih⟩
  obtain ⟨pl,hpl⟩:∃ pl,pl=hasP sg:=⟨_,rfl⟩
  obtain ⟨G1,w1,l1,i1,hfz,hD1⟩:∃ G1,WOk M B d up ρ G a w k1 G1∧Less G G1∧k1.ct=ct∧(pl=true→apl_ k1 (aij_ (c.args.toList.map fun x=>opnd d (Wk.get ⟨s.only R,[],ct,[]⟩) x)))∧k1.is=[]:=by
   cases hp:hasP sg with
   | false =>
    rw [hp] at hth
    simp only [cond_false,Option.some.injEq] at hth
    subst hth
    exact ⟨G,hw,.refl _,rfl,(fun he=>by rw [hpl,hp] at he;cases he),rfl⟩
   | true =>
    rw [hp] at hth
    simp only [cond_true] at hth
    obtain ⟨G1,q1,q2⟩:=hw.thaws2 hth
    obtain ⟨_,_,_,_,q3,q4,q5,_⟩:=hw.thaws hth
    exact ⟨G1,q1,q2,q3,fun _=>q5,q4⟩
  have hdk:Done S ρ k'.ct.a k'.is:=hd
  rw [← hk] at hdk
  simp only at hdk
  obtain ⟨n0,outs,e1,hS,hat,hd2⟩:=hdk
  obtain ⟨f1,f2⟩:=aqf_ sg.rs k2.ct
  have hma:k2.ct.a≤(x0_ k2.ct sg.rs).1.a:=by
   have key:∀ (ks:List Ck) (ct:Ct),ct.a≤(zE_ ct ks).1.a:=by
    intro ks
    induction ks with
    | nil=>intro ct;exact Nat.le_refl _
    | cons k ks ih =>
     intro ct
     cases k with
     | s=>have:=ih ⟨ct.a+1,ct.i⟩;simp only [zE_] at this ⊢;omega
     | p=>have:=ih ⟨ct.a+1,ct.i⟩;simp only [zE_] at this ⊢;omega
     | o dp=>have:=ih ⟨ct.a+1,odN ct.i+1⟩;simp only [zE_] at this ⊢;omega
   rw [f1];exact key _ _
  have hba:=aC0_ bs (x0_ k2.ct sg.rs).1.a
  have hn0:n0=k2.ct.a:=by omega
  subst hn0
  have hd2':k2.Done S ρ:=hd2
  obtain ⟨_,i2,G2,w2,l2,hA⟩:=arj_ (pl:=pl) w1 (hrs G1 l1) hfz hargs hd2'
  have hA:=hA G2 (.refl _)
  have hlG:Less G G2:=l1.trans l2
  have hpr:=akl_ (ps:=sg.ps) (i:=0) hnd'
  have hx:=aG5_ (i:=0) hA
  have hbl:∀ j bx,(j,bx)∈zY_ 0 sg.ps bs→blOf G2.β (zY_ 0 sg.ps bs) j=some (G2.β bx)∧vY_ pl G2 (zY_ 0 sg.ps bs) (G2.β bx)=some (.x j):=by
   intro j bx hj
   refine ⟨aQ4_ hpr.1 hj,?_⟩
   simp only [vY_,hx j bx hj,if_true,aPy_ hpr.2 hj]
  obtain ⟨hin,_⟩:=ayj_ (w:=w) (fun b hb=>aGx_ (pr:=zY_ 0 sg.ps bs) hb) hA hbl
  have hst:StartOk sg (vY_ pl G2 (zY_ 0 sg.ps bs)) (blOf G2.β (zY_ 0 sg.ps bs)) w:=by
   constructor
   ·intro b l hb
    cases hgb:G2.ω b with
    | none=>simp [vY_,hgb] at hb
    | some l0 =>
     refine ⟨(w2.rel.lab b l0 hgb).2,?_⟩
     cases l0 with
     | f=>simp [vY_,hgb] at hb;exact .inl hb.symm
     | o i p=>cases pl <;> simp [vY_,hgb] at hb;exact .inl hb.symm
     | x bx =>
      simp only [vY_,hgb] at hb
      split at hb
      ·rename_i hbe
       split at hb
       ·rename_i j hj
        cases hb
        exact .inr ⟨j,rfl,by rw [hbe];exact (hbl j bx (aum_ hj)).1⟩
       ·cases hb;exact .inl rfl
      ·cases hb;exact .inl rfl
   ·intro i b hb
    obtain ⟨bx,h1,rfl⟩:=ack_ hb
    exact ⟨by have:=aam_ h1;omega,(hbl i bx h1).2⟩
  have hcall:=hC w _ _ (c.args.toList.map a.eval) _ outs hS hst hin
  have hexec:(execOp a.eval o).run P w=.ok (.enter g (c.args.toList.map a.eval).toArray) w:=by
   unfold execOp
   rw [ho]
   show Sem.run P (do let d ← resolve a.eval c o.type;invoke d.target d.args) w=_
   simp only [resolve,hc,Act.eval,Deferred.ofValue,pure_bind,invoke]
   rw [ajy_ hg]
   congr 2
   exact Array.ext' (by simp)
  simp only [Goal,Oper.wp,hexec,Oper.upon]
  refine hcall.mono ?_
  rintro e w' ⟨v,G',is,o1,o2,rfl,hpost⟩
  simp only
  let ks:=allK sg.rs
  obtain ⟨rn,hrn⟩:∃ rn,rn=yW_ k2.ct.i ks is:=⟨_,rfl⟩
  let GG:=G2.call G' w.heap.size rn
  have hold:∀ b,b < w.heap.size→GG.ω b=G2.ω b:=fun b hb=>by show (if b < w.heap.size then _ else _)=_;rw [if_pos hb]
  have hnewb:∀ b,¬ b < w.heap.size→GG.ω b=match G'.ω b with | some (.o id p)=>(wc_ rn id).map fun j=>.o j p | _=>none:=fun b hb=>by show (if b < w.heap.size then _ else _)=_;rw [if_neg hb]
  have hcω:∀ b,G2.ω b=none→vY_ pl G2 (zY_ 0 sg.ps bs) b=none:=fun b hb=>by simp [vY_,hb]
  have hbox:∀ j bx,(j,bx)∈zY_ 0 sg.ps bs→G'.ω (G2.β bx)=some (.x j):=by
   intro j bx hj
   have key:∀ {ps:List PS} {i0:Nat} {ts:List T} {bs':List (Nat × Bool × Nat)},ac8_ G' w' (blOf G2.β (zY_ 0 sg.ps bs)) i0 ps ts→(j,bx)∈zY_ i0 ps bs'→G'.ω (G2.β bx)=some (.x j):=by
    intro ps
    induction ps with
    | nil=>intro i0 ts bs' _ hm;simp [zY_] at hm
    | cons p ps ih =>
     intro i0 ts bs' hB hm
     cases p with
     | v ag n=>exact ih (i0:=i0+1) hB hm
     | x n =>
      obtain ⟨b',arr,elem,t1,t2,hb',hω',hh',_,_,_,hB⟩:=hB
      cases bs' with
      | nil=>simp [zY_] at hm
      | cons b0 bs0 =>
       simp only [zY_,List.mem_cons,Prod.mk.injEq] at hm
       rcases hm with ⟨rfl,_⟩ | hm
       ·rw [(hbl j bx hj).1] at hb';cases hb';exact hω'
       ·exact ih hB hm
   exact key hpost.box hj
  have hG'old:∀ b,b < w.heap.size→∀ i p,G'.ω b≠some (.o i p):=by
   intro b hb i p hi
   cases hcb:vY_ pl G2 (zY_ 0 sg.ps bs) b with
   | none=>have:=(hpost.free b hb hcb).1;rw [hi] at this;cases this
   | some l =>
    rcases (hst.lab b l hcb).2 with rfl | ⟨j,rfl,hj⟩
    ·have:=(hpost.frn b hcb).1;rw [hi] at this;cases this
    ·obtain ⟨bx,h1,rfl⟩:=ack_ hj
     rw [hbox j bx h1] at hi;cases hi
  have hnone:pl=true→∀ b,G'.ω b=none→GG.ω b=none:=by
   intro hp b hb
   by_cases hlt:b < w.heap.size
   ·rw [hold b hlt]
    cases hcb:vY_ pl G2 (zY_ 0 sg.ps bs) b with
    | none =>
     cases hgb:G2.ω b with
     | none=>rfl
     | some l =>
      exfalso
      cases l with
      | f=>simp [vY_,hgb] at hcb
      | o i p=>simp [vY_,hgb,hp] at hcb
      | x bx =>
       simp only [vY_,hgb] at hcb
       split at hcb
       ·split at hcb <;> cases hcb
       ·cases hcb
    | some l =>
     exfalso
     rcases (hst.lab b l hcb).2 with rfl | ⟨j,rfl,hj⟩
     ·have:=(hpost.frn b hcb).1;rw [hb] at this;cases this
     ·obtain ⟨bx,h1,rfl⟩:=ack_ hj
      rw [hbox j bx h1] at hb;cases hb
   ·rw [hnewb b hlt,hb]
  obtain ⟨vs,hvs,hret⟩:=aQc_ (ρ:=ρ) hpost.ret
  obtain ⟨us,hus,htp⟩:=auj_ (ρ:=ρ) hvs
  have hul:=OutCs.len hus
  have hl1:(x0_ k2.ct sg.rs).1.a=k2.ct.a+o1.length:=by rw [f1,alx_,hul.2.1]
  have hl2:o2.length=adp_ bs:=ard_ hA hpost.box
  have hm:(vH_ (x0_ k2.ct sg.rs).1.a bs).1 - k2.ct.a=o1.length+o2.length:=by omega
  have hρ1:∀ j t,o1[j]?=some t→ρ[k2.ct.a+j]?=some t:=by
   intro j t hj
   have hlt:=(List.getElem?_eq_some_iff.1 hj).1
   rw [hat j (by omega),hpost.outs,List.getD_eq_getElem?_getD,List.getElem?_append_left hlt,hj]
   rfl
  have hρ2:∀ j t,o2[j]?=some t→ρ[(x0_ k2.ct sg.rs).1.a+j]?=some t:=by
   intro j t hj
   have hlt:=(List.getElem?_eq_some_iff.1 hj).1
   have:=hat (o1.length+j) (by omega)
   rw [hl1,Nat.add_assoc,this,hpost.outs,List.getD_eq_getElem?_getD,List.getElem?_append_right (by omega),show o1.length+j - o1.length=j by omega,hj]
   rfl
  obtain ⟨r1,r2,r3,r4,r5,r6⟩:=ak3_ (G2:=GG) (rn:=rn) (w':=w') (ρ:=ρ) (fun j x hj=>by show (match xN_ rn j with | some (some id)=>G'.H id | some none=>_ | none=>G2.H j)=_;rw [hj];cases x <;> rfl)
   (fun j id hj c r hcr=>by
    have hlt:¬ c < w.heap.size:=fun hlt=>hG'old c hlt _ _ hcr
    rw [hnewb c hlt,hcr];simp only [hj,Option.map_some]) hus (ct:=k2.ct) hρ1
   (fun k hk hkp=>hnone (by
    rw [hpl]
    cases hh:hasP sg with
    | true=>rfl
    | false=>have:=(aI5_ hh).1 k hk;rw [hkp] at this;cases this)) (fun j x hj=>by rw [hrn];exact ahc_ hj) (fun j id hj=>by rw [hrn];exact ab5_ hpost.nodup hj)
  have hbx:∀ r u,(r,u)∈(vH_ (x0_ k2.ct sg.rs).1.a bs).2→∃ j bx,(j,bx)∈zY_ 0 sg.ps bs∧r=.x bx∧RelBox GG w' ρ bx u∧zs_ u=[]:=by
   cases hp:hasP sg with
   | false =>
    have hbs:bs=[]:=aJ0_ (aI5_ hp).2 hA
    subst hbs
    intro r u hru
    simp [vH_] at hru
   | true =>
    refine (awq_ (hnone (by rw [hpl,hp])) hA hpost.box hρ2 fun j bx hj=>?_).2
    have hlt:=(w2.rel.lab _ _ (hx j bx hj)).2
    exact ⟨(hbl j bx hj).1,by show GG.ω (G2.β bx)=_;rw [hold _ hlt];exact hx j bx hj⟩
  have hi0:k2.ct.i=ct.i:=by rw [i2,i1]
  have hki:k'.ct.i=(zE_ k2.ct ks).1.i:=by rw [← hk];show (x0_ k2.ct sg.rs).1.i=_;rw [f1]
  have hW:k'.w=(dstW d o (adi_ (x0_ k2.ct sg.rs).2.1)++((zE_ k2.ct ks).2.2++(vH_ (x0_ k2.ct sg.rs).1.a bs).2))++k2.w:=by
   rw [← hk]
   show (_++((x0_ k2.ct sg.rs).2.2++_))++_=_
   rw [f2];rfl
  have hN:∀ i,ct.i≤i→i < k'.ct.i→¬ M i:=hM
  have hK:Keep (wC_ (dstW d o (adi_ (x0_ k2.ct sg.rs).2.1)++((zE_ k2.ct ks).2.2++(vH_ (x0_ k2.ct sg.rs).1.a bs).2))) (fun i=>ct.i≤i∧i < k'.ct.i) G2 w GG w':=by
   refine ⟨hpost.size,fun b hb h0=>⟨by rw [hold b hb];exact h0,(hpost.free b hb (hcω b h0)).2⟩,fun b l hb hl=>?_,fun i hi=>⟨rfl,?_⟩⟩
   ·have hlt:=(w2.rel.lab b l hb).2
    refine ⟨by rw [hold b hlt];exact hb,?_⟩
    cases hcb:vY_ pl G2 (zY_ 0 sg.ps bs) b with
    | none=>exact (hpost.free b hlt hcb).2
    | some l' =>
     rcases (hst.lab b l' hcb).2 with rfl | ⟨j,rfl,hj⟩
     ·exact (hpost.frn b hcb).2
     ·exfalso
      obtain ⟨bx,h1,rfl⟩:=ack_ hj
      rw [hx j bx h1] at hb
      cases hb
      refine hl ?_
      show St.look _ (Res.x bx)≠none
      rw [z2_,z2_]
      intro e
      have e1:=(Option.or_eq_none_iff.1 (Option.or_eq_none_iff.1 e).2).2
      exact apo_ (aar_ h1) e1
   ·intro p _
    refine congrFun (?_:(match xN_ rn i with | some (some id)=>G'.H id | some none=>fun _=>.slice none 0 0 | none=>G2.H i)=G2.H i) p
    cases hro:xN_ rn i with
    | none=>rfl
    | some x =>
     have hmem:=jU_ hro
     rw [hrn] at hmem
     exact absurd ⟨by rw [← hi0];exact (jJ_ hmem).1,by rw [hki];exact r5 i x hmem⟩ hi
  rw [hW]
  refine ⟨GG,kR_ h w2 (fun r=>z2_ _ _ r) hK (fun i hi=>hN i hi.1 hi.2) (fun i hi=>.inl hi) (fun n hdn=>kS_ hdn) hpost.so ?_,v4_ _ _ _⟩
  have hown:∀ r u,(r,u)∈(zE_ k2.ct ks).2.2→∃ j,r=.o j∧ct.i≤j∧j < k'.ct.i∧RelObj GG w' ρ j u∧zs_ u=[]:=by
   intro r u hru
   obtain ⟨j,g1,g2,g3,g4⟩:=r6 r u hru
   exact ⟨j,g1,by rw [← hi0];exact g2,by rw [hki];exact g3,g4⟩
  have hmb:∀ j bx,(j,bx)∈zY_ 0 sg.ps bs→M bx:=fun j bx hj=>(w2.rel.lab _ _ (hx j bx hj)).1
  have cases2:∀ r u,St.look ((zE_ k2.ct ks).2.2++(vH_ (x0_ k2.ct sg.rs).1.a bs).2) r=some u→(r,u)∈(zE_ k2.ct ks).2.2∨(r,u)∈(vH_ (x0_ k2.ct sg.rs).1.a bs).2 :=
   fun r u hl=>List.mem_append.1 (ahj_ hl)
  refine ⟨fun e n u he hl=>?_,fun b u hl=>?_,fun i u hl=>?_,fun r u hl i hi=>?_,fun i hi=>?_,fun b l hb=>?_⟩
  ·rcases ya_ hl with ⟨n',hn',e1,rfl⟩ | hl
   ·cases e1
    rw [hn',kD_ (hn _ hn')]
    exact hret GG w' k2.ct (htp GG w' k2.ct r1)
   ·rcases cases2 _ _ hl with hm | hm
    ·obtain ⟨j,e1,_⟩:=hown _ _ hm;cases e1
    ·obtain ⟨j,bx,_,e1,_⟩:=hbx _ _ hm;cases e1
  ·rcases ya_ hl with ⟨n',hn',e1,rfl⟩ | hl
   ·cases e1
   ·rcases cases2 _ _ hl with hm | hm
    ·obtain ⟨j,e1,_⟩:=hown _ _ hm;cases e1
    ·obtain ⟨j,bx,_,e1,e2,_⟩:=hbx _ _ hm;cases e1;exact e2
  ·rcases ya_ hl with ⟨n',hn',e1,rfl⟩ | hl
   ·cases e1
   ·rcases cases2 _ _ hl with hm | hm
    ·obtain ⟨j,e1,_,_,e2,_⟩:=hown _ _ hm;cases e1;exact e2
    ·obtain ⟨j,bx,_,e1,_⟩:=hbx _ _ hm;cases e1
  ·rcases ya_ hl with ⟨n',hn',e1,rfl⟩ | hl
   ·have:=aPw_ _ i hi
    rw [apd_] at this
    have:=r4 i this
    exact .inr ⟨by omega,by rw [hki];exact this.2⟩
   ·rcases cases2 _ _ hl with hm | hm
    ·obtain ⟨j,_,_,_,_,e2⟩:=hown _ _ hm;rw [e2] at hi;cases hi
    ·obtain ⟨j,bx,_,_,_,e2⟩:=hbx _ _ hm;rw [e2] at hi;cases hi
  ·have:∀ r:Res,(r=.x i∨r=.o i)→St.look (dstW d o (adi_ (x0_ k2.ct sg.rs).2.1)++((zE_ k2.ct ks).2.2++(vH_ (x0_ k2.ct sg.rs).1.a bs).2)) r≠none→Mn M ct.i k'.ct.i i:=by
    intro r hr hl
    obtain ⟨u,hu⟩:=Option.ne_none_iff_exists'.1 hl
    rcases ya_ hu with ⟨n',hn',e1,rfl⟩ | hl
    ·rcases hr with rfl | rfl <;> cases e1
    ·rcases cases2 _ _ hl with hm | hm
     ·obtain ⟨j,e1,g1,g2,_⟩:=hown _ _ hm
      rcases hr with rfl | rfl
      ·cases e1
      ·cases e1;exact .inr ⟨g1,g2⟩
     ·obtain ⟨j,bx,hj,e1,_⟩:=hbx _ _ hm
      rcases hr with rfl | rfl
      ·cases e1;exact .inl (hmb j _ hj)
      ·cases e1
   rcases hi with hi | hi
   ·exact this _ (.inl rfl) hi
   ·exact this _ (.inr rfl) hi
  ·by_cases hlt:b < w.heap.size
   ·rw [hold b hlt] at hb
    have:=w2.rel.lab b l hb
    exact ⟨.inl this.1,by have:=hpost.size;omega⟩
   ·rw [hnewb b hlt] at hb
    cases hgb:G'.ω b with
    | none=>rw [hgb] at hb;cases hb
    | some l' =>
     rw [hgb] at hb
     cases l' with
     | f=>cases hb
     | x i=>cases hb
     | o i p =>
      simp only [Option.map_eq_some_iff] at hb
      obtain ⟨j,hj,rfl⟩:=hb
      have hmem:=adq_ hj
      rw [hrn] at hmem
      exact ⟨.inr ⟨by rw [← hi0];exact (jJ_ hmem).1,by rw [hki];exact r5 j _ hmem⟩,hpost.lab b _ hgb⟩
structure Env (P:Program) (cx:Cx) (S:Nat→Sem1):Prop where
 tys:TyAll P cx
 fns:∀ g sg,cx.sg g=some sg→FnIn P g∧aqr_ P sg g (S g)
 into:∀ g fn,cx.fn g=some fn→P.funcs[g]?=some fn∧FnIn P g
theorem Goal.quiet {W:St} (h:Goal P M B d up ρ a w s o W Q∧k'.ct.i=ct.i):Goal P (Mn M ct.i k'.ct.i) B d up ρ a w s o W Q:=h.1.mono fun i hi=>.inl hi
theorem aQj_ (E:Env P cx S) (h:Rel M B d up s ρ G a w) (hn:∀ n,o.dst=some n→n < a.tmps.size)
  (hk:zT_ cx fid rid d o oi ⟨s.only R,[],ct,[]⟩=some k') (hd:k'.Done S ρ) (hM:∀ i,ct.i≤i→i < k'.ct.i→¬ M i):Goal P (Mn M ct.i k'.ct.i) B d up ρ a w s o k'.w Q:=by
 have hw:=WOk.start h R ct
 cases hop:o.op with
 | move x=>exact Goal.quiet (aDj_ h hn (.inl hop) hk)
 | assign x=>exact Goal.quiet (aDj_ h hn (.inr hop) hk)
 | alloc t=>exact aL2_ E.tys h hn hop hk hM
 | box t x=>exact aRi_ E.tys h hn hop hk hM
 | build t ps=>exact Goal.quiet (aN5_ E.tys h hn hop hk)
 | buildSlice t n ps=>exact as5_ E.tys h hn hop hk hd hM
 | makeSlice t x y=>exact axx_ E.tys h hn hop hk hd hM
 | load t x=>exact Goal.quiet (aP0_ E.tys h hn hop hk hd)
 | store t x y =>
  simp only [zT_,hop,Option.bind_eq_some_iff,Option.some.injEq] at hk
  obtain ⟨k1,hst,hk⟩:=hk
  split at hst
  ·rename_i k2 hD
   cases hst
   cases hfz:cx.fz fid rid oi with
   | true=>rw [hfz] at hD;cases hD
   | false=>rw [hfz] at hD;exact Goal.quiet (aJh_ E.tys h hn hop ⟨k1,hD,hk⟩ hd)
  ·exact Goal.quiet (aOp_ E.tys h hn hop ⟨k1,hst,hk⟩ hd)
 | nilCheck x=>exact Goal.quiet (aSd_ h hn hop hk)
 | binOp op t x y yt =>
  have hk0:=hk
  simp only [zT_,hop] at hk
  split at hk
  ·rename_i c e hcx hcy;exact Goal.quiet (aM7_ E.tys h hn hop hcx hcy hk0 hd)
  ·rename_i es bs hcx hcy;exact Goal.quiet (aSc_ E.tys h hn hop hcx hcy hk0 hd)
  ·cases hk
 | unOp op t x=>exact Goal.quiet (aPr_ h hn hop hk hd)
 | slice t x lo hi mx=>exact Goal.quiet (aMk_ E.tys h hn hop hk hd)
 | fieldAddr t x f=>exact Goal.quiet (aOu_ E.tys h hn hop hk)
 | indexAddr t x y=>exact Goal.quiet (aOb_ E.tys h hn hop hk hd)
 | index t x y =>
  simp only [zT_,hop,Option.bind_eq_some_iff] at hk
  obtain ⟨ti,hti,⟨k1,y1⟩,h1,⟨k2,y2⟩,h2,hk⟩:=hk
  cases hc:Nat.beq ti.kd 2 with
  | false=>simp [hc] at hk
  | true =>
   simp only [hc,cond_true,Option.some.injEq] at hk
   have hk2:putW d o (k2.em .idx [y1,y2]).1 (.v false [.p (k2.em .idx [y1,y2]).2])=k':=hk
   subst hk2
   exact Goal.quiet (aRl_ h hn hop E.tys hti (Nat.eq_of_beq_eq_true hc) hw h1 h2 hd)
 | extract x i=>exact Goal.quiet (aFr_ h hn hop hk)
 | makeFunc f first caps=>exact Goal.quiet (aCw_ h hn hop hk)
 | call c =>
  have hk0:=hk
  simp only [zT_,hop] at hk
  split at hk
  ·rename_i x hc hargs
   simp only [Option.bind_eq_some_iff] at hk
   obtain ⟨ti,hti,⟨k1,y⟩,h1,hk⟩:=hk
   cases h3:Nat.beq ti.kd 3 with
   | true =>
    simp only [h3,cond_true,Option.some.injEq] at hk
    have hk2:putW d o (k1.em .len [y]).1 (.v false [.p (k1.em .len [y]).2])=k':=hk
    subst hk2
    exact Goal.quiet (aPs_ h hn E.tys hop hc hargs (Option.bind_eq_some_iff.2 hti) (Nat.eq_of_beq_eq_true h3) hw h1 hd)
   | false =>
    simp only [h3,cond_false] at hk
    cases h2:Nat.beq ti.kd 2 with
    | false=>simp [h2] at hk
    | true =>
     simp only [h2,cond_true,Option.some.injEq] at hk
     have hk2:putW d o (k1.em .lens [y]).1 (.v false [.p (k1.em .lens [y]).2])=k':=hk
     subst hk2
     exact Goal.quiet (aQ8_ h hn E.tys hop hc hargs (Option.bind_eq_some_iff.2 hti) (Nat.eq_of_beq_eq_true h2) hw h1 hd)
  ·rename_i x y hc hargs
   simp only [Option.bind_eq_some_iff,Option.some.injEq] at hk
   obtain ⟨⟨k1,y1⟩,h1,⟨k2,y2⟩,h2,hk⟩:=hk
   have hk2:putW d o (k2.em .mx [y1,y2]).1 (.v false [.p (k2.em .mx [y1,y2]).2])=k':=hk
   subst hk2
   exact Goal.quiet (aOv_ h hn hop hargs (.inl ⟨hc,rfl⟩) hw h1 h2 hd)
  ·rename_i x y hc hargs
   simp only [Option.bind_eq_some_iff,Option.some.injEq] at hk
   obtain ⟨⟨k1,y1⟩,h1,⟨k2,y2⟩,h2,hk⟩:=hk
   have hk2:putW d o (k2.em .mn [y1,y2]).1 (.v false [.p (k2.em .mn [y1,y2]).2])=k':=hk
   subst hk2
   exact Goal.quiet (aOv_ h hn hop hargs (.inr ⟨hc,rfl⟩) hw h1 h2 hd)
  ·rename_i x y hc hargs
   exact aJx_ E.tys h hn hop hc hargs hk0 hd hM
  ·rename_i x0 xs0 g hc
   simp only [Option.bind_eq_some_iff] at hk
   obtain ⟨sg,hsg,_⟩:=hk
   obtain ⟨q1,q2⟩:=E.fns g sg hsg
   exact aP9_ h hn hop hc q1 hsg q2 hk0 hd hM
  ·cases hk
 | convert=>simp [zT_,hop] at hk
 | _=>simp [zT_,hop] at hk
end
theorem Lf.evo_ext {ρ e:List T} {x:Lf} {t:T} (h:x.evo ρ=some t):x.evo (ρ++e)=some t:=by
 cases x with
 | k v=>exact h
 | a n=>simp only [Lf.evo] at h ⊢;rw [List.getElem?_append_left (List.getElem?_eq_some_iff.1 h).1];exact h
 | e=>exact h
theorem aj1_ {ρ e:List T} {x:Lf} {i:Nat} (h:x5_ ρ x=some i):x5_ (ρ++e) x=some i:=by
 unfold x5_ at h ⊢
 cases hx:x.evo ρ with
 | none=>simp [hx] at h
 | some t=>rw [Lf.evo_ext hx];rw [hx] at h;exact h
theorem ays_ {ρ e:List T}:∀ {q:Pth} {p:List (Nat × Nat)},pthO ρ q=some p→pthO (ρ++e) q=some p
 | [],p,h=>h
 | (x,w,j) :: q,p,h=>by
  simp only [pthO,Option.bind_eq_some_iff,Option.some.injEq] at h ⊢
  obtain ⟨i,h1,p',h2,rfl⟩:=h
  exact ⟨i,aj1_ h1,p',ays_ h2,rfl⟩
theorem ava_ {ρ e:List T} {id:Nat} {q:Pth} {p:List (Nat × Nat)} (h:pthI ρ id q=some p):pthI (ρ++e) id q=some p:=by
 cases q with
 | nil=>exact h
 | cons x q =>
  simp only [pthI] at h ⊢
  split at h
  ·rename_i hi;rw [if_pos hi];exact ays_ h
  ·cases h
section
variable {G:Gh} {w:World} {ρ e:List T}
theorem RelCe.ext {c:Ce} {v:Value} (h:RelCe G w ρ c v):RelCe G w (ρ++e) c v:=by
 cases c with
 | p x=>obtain ⟨t,h1,h2⟩:=h;exact ⟨t,Lf.evo_ext h1,h2⟩
 | o id q=>obtain ⟨p,h1,h2⟩:=h;exact ⟨p,ava_ h1,h2⟩
 | n=>exact h
 | d=>exact h
theorem RelCs.ext:∀ {cs:List Ce} {vs:List Value},RelCs G w ρ cs vs→RelCs G w (ρ++e) cs vs
 | [],[],_=>trivial
 | _ :: _,_ :: _,h=>⟨h.1.ext,RelCs.ext h.2⟩
 | [],_ :: _,h=>h.elim
 | _ :: _,[],h=>h.elim
theorem RelVal.ext {ag:Bool} {cs:List Ce} {c:Value} (h:RelVal G w ρ ag cs c):RelVal G w (ρ++e) ag cs c:=by
 cases ag with
 | true=>obtain ⟨vs,h1,h2⟩:=h;exact ⟨vs,h1,h2.ext⟩
 | false=>obtain ⟨x,rfl,h2,h3⟩:=h;exact ⟨x,rfl,h2.ext,h3⟩
theorem RelTp.ext:∀ {cs:List (Bool × List Ce)} {vs:List Value},RelTp G w ρ cs vs→RelTp G w (ρ++e) cs vs
 | [],[],_=>trivial
 | _ :: _,_ :: _,h=>⟨h.1.ext,RelTp.ext h.2⟩
 | [],_ :: _,h=>h.elim
 | _ :: _,[],h=>h.elim
theorem RelSV.ext {v:SV} {c:Value} (h:RelSV G w ρ v c):RelSV G w (ρ++e) v c:=by
 cases v with
 | un=>trivial
 | v ag cs=>exact RelVal.ext h
 | pt b off=>exact h
 | ep id q ix wd off=>obtain ⟨p,b,n,cap,i,h1,h2,h3,h4⟩:=h;exact ⟨p,b,n,cap,i,ava_ h1,h2,aj1_ h3,h4⟩
 | fp s ix wd off=>obtain ⟨xs,i,r,b,base,h1,h2,h3⟩:=h;exact ⟨xs,i,r,b,base,Lf.evo_ext h1,aj1_ h2,h3⟩
 | tp vs=>obtain ⟨us,h1,h2⟩:=h;exact ⟨us,h1,h2.ext⟩
 | cl f bs=>exact h
 | ob dp x=>exact h
 | fz x=>exact h
theorem RelBox.ext {b:Nat} {v:SV} (h:RelBox G w ρ b v):RelBox G w (ρ++e) b v:=by
 cases v with
 | v ag cs=>obtain ⟨h1,arr,elem,h2,h3⟩:=h;exact ⟨h1,arr,elem,h2,h3.ext⟩
 | _=>exact h
theorem RelObj.ext {b:Nat} {v:SV} (h:RelObj G w ρ b v):RelObj G w (ρ++e) b v:=by
 cases v with
 | ob dp x=>obtain ⟨t,h1,h2⟩:=h;exact ⟨t,Lf.evo_ext h1,h2⟩
 | fz x=>obtain ⟨t,h1,h2⟩:=h;exact ⟨t,Lf.evo_ext h1,h2⟩
 | _=>exact h
theorem Rel.ext {M:Nat→Prop} {B:Base} {d:Nat} {up:Nat→Nat→Value} {s:St} {a:Act} (h:Rel M B d up s ρ G a w):Rel M B d up s (ρ++e) G a w :=
 ⟨fun x n hx=>(h.tm x n hx).ext,fun b=>(h.bx b).ext,fun i=>(h.ob i).ext,h.ment,h.key,h.lab,h.dn,h.base,h.bt⟩
end
theorem Lf.ev_ext {ρ e:List T} {x:Lf} (h:x.bel ρ.length=true):x.ev (ρ++e)=x.ev ρ:=by
 cases x with
 | k v=>rfl
 | a n =>
  have hlt:n < ρ.length:=Nat.lt_of_succ_le (by simpa [Lf.bel,Nat.blt] using h)
  simp only [Lf.ev,List.getD_eq_getElem?_getD]
  rw [List.getElem?_append_left hlt]
 | e=>rfl
theorem aDh_ {ρ e:List T} {xs:List Lf} (h:xs.all (Lf.bel ρ.length)=true):xs.map (Lf.ev (ρ++e))=xs.map (Lf.ev ρ) :=
 List.map_congr_left fun x hx=>Lf.ev_ext (List.all_eq_true.1 h x hx)
theorem ajs_ (ts:List T):∀ (m i:Nat),(ym_ ts i m).length=m
 | 0,_=>rfl
 | m+1,i=>by simp [ym_,ajs_ ts m]
theorem ar2_ (ts:List T):∀ (m i j:Nat),j < m→(ym_ ts i m)[j]?=some (ts.getD (i+j) T.dft)
 | 0,_,j,h=>by omega
 | m+1,i,0,_=>by simp [ym_]
 | m+1,i,j+1,h=>by
  simp only [ym_,List.getElem?_cons_succ]
  rw [ar2_ ts m (i+1) j (by omega)]
  congr 2;omega
section
variable {S:Nat→Sem1} {R:Nat} {K:List Sem1} {out:List T}
theorem ah7_:∀ {is:List Ins} {p:PL} {ρ:List T},abk_ (ρ.length+isz is) is=true→(wrap is p).den S R K ρ=some out →
  ∃ ts,ts.length=isz is∧p.den S R K (ρ++ts)=some out∧∀ e,Done S (ρ++ts++e) (ρ.length+isz is) is
 | [],p,ρ,_,h=>⟨[],rfl,by rw [List.append_nil];exact h,fun _=>trivial⟩
 | .pr q xs :: is,p,ρ,hok,h=>by
  simp only [abk_,isz,Bool.and_eq_true] at hok
  have e0:ρ.length+(isz is+1) - 1=ρ.length+isz is:=by omega
  rw [e0] at hok
  obtain ⟨ts,h1,h2,h3⟩:=ah7_ (is:=is) hok.2 (show (wrap is (.ins (.pr q xs) p)).den S R K ρ=some out from h)
  simp only [PL.den,Option.bind_eq_some_iff] at h2
  obtain ⟨t,h4,h5⟩:=h2
  have hl:(ρ++ts).length=ρ.length+isz is:=by simp [h1]
  refine ⟨ts++[t],by simp [isz,h1],by simpa using h5,fun e=>⟨ρ.length+isz is,t,rfl,?_,?_,?_⟩⟩
  ·have:=aDh_ (ρ:=ρ++ts) (e:=t :: e) (xs:=xs) (by rw [hl];exact hok.1.2)
   simp only [List.append_assoc,List.cons_append,List.nil_append] at this ⊢
   rw [this]
   simpa using h4
  ·rw [← hl];simp
  ·have:=h3 (t :: e)
   simpa using this
 | .cl g xs m :: is,p,ρ,hok,h=>by
  simp only [abk_,isz,Bool.and_eq_true] at hok
  have e0:ρ.length+(isz is+m) - m=ρ.length+isz is:=by omega
  rw [e0] at hok
  obtain ⟨ts,h1,h2,h3⟩:=ah7_ (is:=is) hok.2 (show (wrap is (.ins (.cl g xs m) p)).den S R K ρ=some out from h)
  simp only [PL.den,Option.bind_eq_some_iff] at h2
  obtain ⟨us,h4,h5⟩:=h2
  have hl:(ρ++ts).length=ρ.length+isz is:=by simp [h1]
  refine ⟨ts++ym_ us 0 m,by simp [isz,h1,ajs_],by simpa using h5,fun e=>⟨ρ.length+isz is,us,by simp only [isz];omega,?_,fun i hi=>?_,?_⟩⟩
  ·have:=aDh_ (ρ:=ρ++ts) (e:=ym_ us 0 m++e) (xs:=xs) (by rw [hl];exact hok.1.2)
   simp only [List.append_assoc] at this ⊢
   rw [this]
   simpa using h4
  ·rw [← hl,List.append_assoc,List.append_assoc,← List.append_assoc ρ ts,List.getElem?_append_right (by omega),show (ρ++ts).length+i - (ρ++ts).length=i by omega,
    List.getElem?_append_left (by rw [ajs_];exact hi),ar2_ _ _ _ _ hi]
   simp
  ·have:=h3 (ym_ us 0 m++e)
   simpa using this
end
def FactsOk (fs:yQ_) (ρ:List T):Prop:=∀ n b,fact fs n=some b→ρ[n]?=some (.c (.bool b))
theorem FactsOk.ext {fs:yQ_} {ρ e:List T} (h:FactsOk fs ρ):FactsOk fs (ρ++e):=fun n b hn=>by
 have:=h n b hn
 rw [List.getElem?_append_left (List.getElem?_eq_some_iff.1 this).1];exact this
theorem FactsOk.cons {fs:yQ_} {ρ:List T} {n:Nat} {b:Bool} (h:FactsOk fs ρ) (hn:ρ[n]?=some (.c (.bool b))):FactsOk ((n,b) :: fs) ρ:=by
 intro m c hm
 simp only [fact] at hm
 cases hb:Nat.beq n m with
 | true=>simp [hb] at hm;subst hm;rw [← Nat.eq_of_beq_eq_true hb];exact hn
 | false=>simp [hb] at hm;exact h m c hm
section
variable {G:Gh} {w:World} {ρ:List T} {fs:yQ_}
theorem ao3_ {sv:SV} {c:Value} {b:Bool} (h:xD_ fs sv=.is b) (hr:RelSV G w ρ sv c) (hf:FactsOk fs ρ):c=.bool b:=by
 unfold xD_ at h
 split at h
 ·cases h
 ·split at h
  ·rename_i b' hb
   cases h
   unfold axa_ at hb
   split at hb
   ·cases hb
    obtain ⟨e,he,hce,_⟩:=hr
    cases he
    obtain ⟨t,h1,h2⟩:=hce
    simp only [Lf.evo,scV,cond_true,Option.some.injEq] at h1
    subst h1
    exact h2.scalar.1
   ·cases hb
  ·rename_i n hb
   unfold axa_ at hb
   split at hb
   ·cases hb
    split at h
    ·rename_i b' hfn
     cases h
     obtain ⟨e,he,hce,_⟩:=hr
     cases he
     obtain ⟨t,h1,h2⟩:=hce
     have:=hf n b hfn
     simp only [Lf.evo] at h1
     rw [this] at h1
     cases h1
     exact h2.scalar.1
    ·cases h
   ·cases hb
  ·cases h
theorem aPt_ {sv:SV} {c:Value} (h:xD_ fs sv=.nil) (hr:RelSV G w ρ sv c):∃ us,c=.tuple us:=by
 unfold xD_ at h
 split at h
 ·obtain ⟨us,h1,_⟩:=hr;exact ⟨_,h1⟩
 ·split at h
  ·cases h
  ·split at h <;> cases h
  ·cases h
end
section
variable {M:Nat→Prop} {B:Base} {d:Nat} {up:Nat→Nat→Value} {ρ:List T} {G:Gh} {a:Act} {w:World} {S:Nat→Sem1} {P:Program}
variable {cx:Cx} {fid rid oi:Nat} {s:St} {R:Nat} {ct:Ct} {k':Wk} {o:Oper} {Q:Exit→Act→World→Prop} {ops:Array Oper} {nt:Nat} {fs:yQ_}
def gw (d:Nat) (ops:Array Oper) (o:Oper) (fs:yQ_) (s:St):Option Bool :=
 match o.guard with
 | none=>some true
 | some (j,want)=>match (ops[j]?).bind (·.dst) with
  | none=>none
  | some g=>match xD_ fs (s.get (.t d g)) with
   | .nil=>some false
   | .is b=>some (b == want)
   | _=>none
theorem am5_ {s':St} (h:∀ r∈uN_ d ops o,s'.get r=s.get r):gw d ops o fs s'=gw d ops o fs s:=by
 unfold gw uN_ at *
 cases hg:o.guard with
 | none=>rfl
 | some jw =>
  obtain ⟨j,want⟩:=jw
  simp only [hg] at h
  cases hb:(ops[j]?).bind (·.dst) with
  | none=>simp only [hb]
  | some g =>
   simp only [hb] at h ⊢
   simp only [h (.t d g) (by simp)]
theorem at7_ {x:Bool} (h:gw d ops o fs s=some x) (hr:Rel M B d up s ρ G a w) (hf:FactsOk fs ρ):Region.wanted o (yielded ops a.tmps)=x:=by
 unfold gw at h
 unfold Region.wanted
 cases hg:o.guard with
 | none=>simp [hg] at h;simp [h]
 | some jw =>
  obtain ⟨j,want⟩:=jw
  simp only [hg] at h
  cases hb:(ops[j]?).bind (·.dst) with
  | none=>simp [hb] at h
  | some g =>
   simp only [hb] at h
   have ht:=hr.tm d g (Nat.le_refl _)
   simp only [tmv,if_true] at ht
   cases hd:xD_ fs (s.get (.t d g)) with
   | nil =>
    simp only [hd,Option.some.injEq] at h
    subst h
    obtain ⟨us,hu⟩:=aPt_ hd ht
    simp only [yielded,hb,Option.bind_some]
    rw [Array.getD_eq_getD_getElem?] at hu
    cases hx:a.tmps[g]? with
    | none=>simp
    | some v=>rw [hx] at hu;simp only [Option.getD_some] at hu;subst hu;simp
   | is b =>
    simp only [hd,Option.some.injEq] at h
    have hu:=ao3_ hd ht hf
    simp only [yielded,hb,Option.bind_some]
    rw [Array.getD_eq_getD_getElem?] at hu
    cases hx:a.tmps[g]? with
    | none=>rw [hx] at hu;simp [undef] at hu
    | some v =>
     rw [hx] at hu;simp only [Option.getD_some] at hu;subst hu
     rw [← h]
     cases b <;> cases want <;> rfl
   | ask n=>simp [hd] at h
   | no=>simp [hd] at h
theorem alu_ {sv:SV} {n:Nat} {b:Bool} (h:xD_ fs sv=.ask n):xD_ ((n,b) :: fs) sv=.is b:=by
 unfold xD_ at h ⊢
 split at h
 ·cases h
 ·split at h
  ·cases h
  ·rename_i m hm
   split at h
   ·cases h
   ·cases h
    simp only [fact]
    simp
  ·cases h
def af7_ (P:Program) (ops:Array Oper) (Q:Exit→Act→World→Prop) (B:Base) (d:Nat) (up:Nat→Nat→Value) (nt:Nat) (ρ:List T) (i:Nat) (rd:List Res) (wr:St) (lo hi:Nat) (sI:St):Prop :=
 ∀ (M:Nat→Prop) (s:St) (G:Gh) (a:Act) (w:World) (Kn:Act→World→Prop),(∀ r∈rd,s.get r=sI.get r)→Rel M B d up s ρ G a w→a.tmps.size=nt→(∀ j,lo≤j→j < hi→¬ M j) →
  (∀ G' a' w',Rel (Mn M lo hi) B d up (s.sets wr) ρ G' a' w'→a'.tmps.size=nt→Kn a' w')→wpOp P ops Q i Kn a w
theorem ap0_ {s':St}:∀ {R:List Res},(∀ r∈R,s'.get r=s.get r)→s'.only R=s.only R
 | [],_=>rfl
 | r :: R,h=>by simp only [St.only];rw [h r (by simp),ap0_ fun r hr=>h r (by simp [hr])]
theorem aK5_ {i:Nat} {R:List Res} (E:Env P cx S) (ho:ops[i]?=some o) (hn:∀ n,o.dst=some n→n < nt) (hg:gw d ops o fs s=some true) (hf:FactsOk fs ρ)
  (hk:zT_ cx fid rid d o oi ⟨s.only R,[],ct,[]⟩=some k') (hd:k'.Done S ρ):af7_ P ops Q B d up nt ρ i (uN_ d ops o++R) k'.w ct.i k'.ct.i s:=by
 intro M s' G a w Kn hag hr hnt hM hK
 have hg':=am5_ (fs:=fs) (o:=o) (ops:=ops) (d:=d) (s:=s) (s':=s') fun r hr=>hag r (List.mem_append_left _ hr)
 have hw:=at7_ (hg'.trans hg) hr hf
 have hk':zT_ cx fid rid d o oi ⟨s'.only R,[],ct,[]⟩=some k':=by rw [ap0_ fun r hr=>hag r (List.mem_append_right _ hr)];exact hk
 have:=aQj_ (Q:=Q) E hr (fun n h=>by rw [hnt];exact hn n h) hk' hd hM
 unfold wpOp
 simp only [ho,hw,if_true]
 exact .inl (Oper.wp_mono (fun a' w' ⟨G',h1,h2⟩=>hK G' a' w' h1 (h2.trans hnt)) this)
theorem axc_ (s:St) (r:Res) (v:SV):s.sets [(r,v)]=s.set r v:=rfl
theorem aIp_ {i lo:Nat} (ho:ops[i]?=some o) (hn:∀ n,o.dst=some n→n < nt) (hg:gw d ops o fs s=some false) (hf:FactsOk fs ρ) :
  af7_ P ops Q B d up nt ρ i (uN_ d ops o) (dstW d o (.tp [])) lo lo s:=by
 intro M s' G a w Kn hag hr hnt hM hK
 have hg':=am5_ (fs:=fs) (o:=o) (ops:=ops) (d:=d) (s:=s) (s':=s') hag
 have hw:=at7_ (hg'.trans hg) hr hf
 unfold wpOp
 simp only [ho,hw,Bool.false_eq_true,if_false]
 have hM':∀ i,M i→Mn M lo lo i:=fun i h=>.inl h
 cases hd:o.dst with
 | none =>
  refine hK G _ w ?_ (by simpa [Act.put] using hnt)
  simp only [dstW,hd,Act.put]
  exact hr.mono hM'
 | some n =>
  refine hK G _ w ?_ (by rw [v4_];exact hnt)
  simp only [dstW,hd,axc_]
  exact (hr.put1 (x:=.tp []) (v:=undef) (by rw [hnt];exact hn n hd) ⟨[],rfl,trivial⟩ (fun i hi=>by simp [zs_,vb_] at hi)).mono hM'
theorem aNs_ {x:Operand} {t:Tmp} (h:x∈o.op.operands) (hx:x=.tmp t):t∈ac2_ o:=by
 subst hx
 exact List.mem_filterMap.2 ⟨.tmp t,by simpa using h,rfl⟩
theorem agq_ {s':St} {x:Operand} (hx:x∈o.op.operands) (h:∀ r∈(ac2_ o).map (Res.t d),s'.get r=s.get r):opnd d s'.get x=opnd d s.get x:=by
 cases x with
 | tmp t=>exact h _ (List.mem_map.2 ⟨t,aNs_ hx rfl,rfl⟩)
 | _=>rfl
theorem aKw_ {i lo n:Nat} {b:Bool} {va vb:SV} (ho:ops[i]?=some o) (hdst:o.dst=some n) (hn:n < nt) (hg:gw d ops o fs s=some true) (hf:FactsOk fs ρ) (hp:acz_ d s o fs=some (.is b,va,vb)) :
  af7_ P ops Q B d up nt ρ i (uN_ d ops o++(ac2_ o).map (Res.t d)) [(.t d n,bif b then va else vb)] lo lo s:=by
 intro M s' G a w Kn hag hr hnt hM hK
 have hg':=am5_ (fs:=fs) (o:=o) (ops:=ops) (d:=d) (s:=s) (s':=s') fun r hr=>hag r (List.mem_append_left _ hr)
 have hw:=at7_ (hg'.trans hg) hr hf
 have hM':∀ i,M i→Mn M lo lo i:=fun i h=>.inl h
 unfold acz_ at hp
 split at hp
 ·rename_i c x y hop
  simp only [Option.some.injEq,Prod.mk.injEq] at hp
  obtain ⟨h1,rfl,rfl⟩:=hp
  have hT:∀ r∈(ac2_ o).map (Res.t d),s'.get r=s.get r:=fun r hr=>hag r (List.mem_append_right _ hr)
  have oc:=agq_ (s':=s') (s:=s) (d:=d) (o:=o) (x:=c) (by rw [hop];simp [Op.operands]) hT
  have ox:=agq_ (s':=s') (s:=s) (d:=d) (o:=o) (x:=x) (by rw [hop];simp [Op.operands]) hT
  have oy:=agq_ (s':=s') (s:=s) (d:=d) (o:=o) (x:=y) (by rw [hop];simp [Op.operands]) hT
  have hc:=ao3_ (by rw [oc];exact h1) (v0_ hr c).1 hf
  unfold wpOp
  simp only [ho,hw,if_true]
  left
  have hexec:(execOp a.eval o).run P w=.ok (.value (if b then a.eval x else a.eval y)) w:=by
   unfold execOp
   simp only [hop,hc,asBool,pure_bind]
   cases b <;> rfl
  simp only [Oper.wp,hexec,Oper.upon,hdst]
  refine hK G _ w ?_ (by rw [v4_];exact hnt)
  rw [axc_]
  refine (hr.put1 (by rw [hnt];exact hn) ?_ ?_).mono hM'
  ·cases b
   ·simp only [cond_false,Bool.false_eq_true,if_false];rw [← oy];exact (v0_ hr y).1
   ·simp only [cond_true,if_true];rw [← ox];exact (v0_ hr x).1
  ·cases b
   ·simp only [cond_false];rw [← oy];exact (v0_ hr y).2
   ·simp only [cond_true];rw [← ox];exact (v0_ hr x).2
 ·cases hp
end
section
variable {B:Base} {d:Nat} {up:Nat→Nat→Value} {S:Nat→Sem1} {P:Program} {cx:Cx} {into:Into} {fid rid:Nat} {R:Nat} {o:Oper} {Q:Exit→Act→World→Prop} {ops:Array Oper} {nt:Nat} {draw:Bool}
variable {K:List Sem1} {out:List T} {i:Nat} {rc:Rec}
def WayA (P:Program) (S:Nat→Sem1) (R:Nat) (K:List Sem1) (out:List T) (ops:Array Oper) (Q:Exit→Act→World→Prop) (B:Base) (d:Nat) (up:Nat→Nat→Value) (nt:Nat) (i:Nat) (rc:Rec)
  (tr:List Tr) (lv:Nat) (s:St) (ct:Ct) (ρ:List T):Prop :=
 ∃ rd wr ct' e fs' p',(∀ e',af7_ P ops Q B d up nt (ρ++e++e') i rd wr ct.i ct'.i s)∧ct.i≤ct'.i∧rc (tr++[⟨rd,wr.map (·.1)⟩]) lv (s.sets wr) ct' fs'=some p'∧p'.den S R K (ρ++e)=some out ∧
  (ρ++e).length=ct'.a∧FactsOk fs' (ρ++e)
def WayB (S:Nat→Sem1) (R:Nat) (K:List Sem1) (out:List T) (cx:Cx) (into:Into) (ops:Array Oper) (d:Nat) (o:Oper) (rc:Rec) (tr:List Tr) (lv:Nat) (s:St) (ct:Ct) (ρ:List T):Prop :=
 ∃ g vs fs' p',gw d ops o fs' s=some true∧apf_ cx d s o=some (g,vs)∧FactsOk fs' ρ∧into (d+1) g vs lv s ct fs' (aue_ d o rc tr)=some p'∧p'.den S R K ρ=some out
theorem arf_ {n:Nat} {x y:PL} {ρ:List T} (h:(PL.ite n x y).den S R K ρ=some out):∃ b,ρ[n]?=some (.c (.bool b))∧(bif b then x.den S R K ρ else y.den S R K ρ)=some out:=by
 simp only [PL.den] at h
 cases hn:ρ[n]? with
 | none=>rw [List.getD_eq_getElem?_getD,hn] at h;simp [T.dft] at h
 | some t =>
  rw [List.getD_eq_getElem?_getD,hn] at h
  simp only [Option.getD_some] at h
  split at h
  ·exact ⟨_,rfl,h⟩
  ·cases h
theorem aw6_ {tr:List Tr} {lv:Nat} {s:St} {ct:Ct} {fs:yQ_} {ρ:List T} {p:PL} (ho:ops[i]?=some o) (hn:∀ n,o.dst=some n→n < nt) (hg:gw d ops o fs s=some false)
  (h:auf_ d ops o rc tr lv s ct fs=some p) (hp:p.den S R K ρ=some out) (hl:ρ.length=ct.a) (hf:FactsOk fs ρ):WayA P S R K out ops Q B d up nt i rc tr lv s ct ρ:=by
 refine ⟨uN_ d ops o,dstW d o (.tp []),ct,[],fs,p,fun e'=>aIp_ ho hn hg (by rw [List.append_nil];exact hf.ext),Nat.le_refl _,?_,by rw [List.append_nil];exact hp,by rw [List.append_nil];exact hl,by rw [List.append_nil];exact hf⟩
 unfold auf_ at h
 unfold dstW
 cases hd:o.dst with
 | none=>rw [hd] at h;exact h
 | some n=>rw [hd] at h;exact h
theorem ahn_ {tr:List Tr} {lv:Nat} {s:St} {ct:Ct} {fs:yQ_} {ρ:List T} {p:PL} {b:Bool} {va vb:SV} (ho:ops[i]?=some o) (hn:∀ n,o.dst=some n→n < nt) (hg:gw d ops o fs s=some true)
  (hpk:acz_ d s o fs=some (.is b,va,vb)) (h:alg_ d ops o rc tr lv s ct fs (bif b then va else vb)=some p) (hp:p.den S R K ρ=some out) (hl:ρ.length=ct.a) (hf:FactsOk fs ρ):WayA P S R K out ops Q B d up nt i rc tr lv s ct ρ:=by
 unfold alg_ at h
 cases hd:o.dst with
 | none=>rw [hd] at h;cases h
 | some n =>
  rw [hd] at h
  exact ⟨uN_ d ops o++(ac2_ o).map (Res.t d),[(.t d n,bif b then va else vb)],ct,[],fs,p,fun e'=>aKw_ ho hd (hn n hd) hg (by rw [List.append_nil];exact hf.ext) hpk,Nat.le_refl _,h,
   by rw [List.append_nil];exact hp,by rw [List.append_nil];exact hl,by rw [List.append_nil];exact hf⟩
theorem aC3_ {fs:yQ_} {s:St} {x:Bool} {m:Nat} {b:Bool} (h:gw d ops o fs s=some x) (hm:fact fs m=none):gw d ops o ((m,b) :: fs) s=some x:=by
 unfold gw at h ⊢
 cases hg:o.guard with
 | none=>rw [hg] at h;exact h
 | some jw =>
  obtain ⟨j,want⟩:=jw
  simp only [hg] at h ⊢
  cases hb:(ops[j]?).bind (·.dst) with
  | none=>simp only [hb] at h;cases h
  | some g =>
   simp only [hb] at h ⊢
   have key:∀ dc,xD_ fs (s.get (.t d g))=dc→(∀ n,dc≠.ask n)→dc≠.no→xD_ ((m,b) :: fs) (s.get (.t d g))=dc:=by
    intro dc hdc h1 h2
    unfold xD_ at hdc ⊢
    split at hdc
    ·exact hdc
    ·split at hdc
     ·exact hdc
     ·rename_i n hn
      split at hdc
      ·rename_i b' hb'
       have hne:Nat.beq m n=false:=by
        cases hbq:Nat.beq m n with
        | false=>rfl
        | true=>rw [Nat.eq_of_beq_eq_true hbq,hb'] at hm;cases hm
       simp only [fact,hne,cond_false,hb']
       exact hdc
      ·exact absurd hdc.symm (h1 _)
     ·exact absurd hdc.symm h2
   cases hdc:xD_ fs (s.get (.t d g)) with
   | nil=>rw [key _ hdc (by simp) (by simp)];rw [hdc] at h;exact h
   | is b'=>rw [key _ hdc (by simp) (by simp)];rw [hdc] at h;exact h
   | ask n=>rw [hdc] at h;cases h
   | no=>rw [hdc] at h;cases h
theorem awz_ {sv:SV} {fs:yQ_} {n:Nat} (h:xD_ fs sv=.ask n):fact fs n=none:=by
 unfold xD_ at h
 split at h
 ·cases h
 ·split at h
  ·cases h
  ·split at h
   ·cases h
   ·rename_i hn;cases h;exact hn
  ·cases h
theorem aIx_ {tr:List Tr} {lv:Nat} {s:St} {ct:Ct} {fs:yQ_} {ρ:List T} {p:PL} (E:Env P cx S) (ho:ops[i]?=some o) (hn:∀ n,o.dst=some n→n < nt) (hg:gw d ops o fs s=some true)
  (h:doO cx into fid rid d ops draw o i rc tr lv s ct fs=some p) (hp:p.den S R K ρ=some out) (hl:ρ.length=ct.a) (hf:FactsOk fs ρ) :
  WayA P S R K out ops Q B d up nt i rc tr lv s ct ρ∨(draw=false∧WayB S R K out cx into ops d o rc tr lv s ct ρ):=by
 unfold doO at h
 split at h
 ·rename_i dc va vb hpk
  left
  split at h
  ·exact ahn_ (b:=true) ho hn hg hpk h hp hl hf
  ·exact ahn_ (b:=false) ho hn hg hpk h hp hl hf
  ·rename_i n
   simp only [Option.bind_eq_some_iff,Option.some.injEq] at h
   obtain ⟨x,hx,y,hy,rfl⟩:=h
   obtain ⟨b,hb,hp⟩:=arf_ hp
   have hpk':∀ b,acz_ d s o ((n,b) :: fs)=some (.is b,va,vb):=by
    intro b
    unfold acz_ at hpk ⊢
    split at hpk
    ·simp only [Option.some.injEq,Prod.mk.injEq] at hpk ⊢
     exact ⟨alu_ hpk.1,hpk.2⟩
    ·cases hpk
   have hnone:fact fs n=none:=by
    unfold acz_ at hpk
    split at hpk
    ·simp only [Option.some.injEq,Prod.mk.injEq] at hpk;exact awz_ hpk.1
    ·cases hpk
   cases b with
   | true=>exact ahn_ (b:=true) ho hn (aC3_ hg hnone) (hpk' true) hx hp hl (hf.cons hb)
   | false=>exact ahn_ (b:=false) ho hn (aC3_ hg hnone) (hpk' false) hy hp hl (hf.cons hb)
  ·cases h;cases hp
  ·cases h;cases hp
 ·split at h
  ·rename_i g vs hi
   cases hd:draw with
   | true=>rw [hd] at h;simp only [cond_true,Option.some.injEq] at h;subst h;cases hp
   | false =>
    rw [hd] at h
    simp only [cond_false] at h
    exact .inr ⟨rfl,g,vs,fs,p,hg,hi,hf,h,hp⟩
  ·left
   split at h
   ·cases h;cases hp
   ·rename_i k hk
    cases hc:(Nat.beq k.ct.a (ct.a+isz k.is) && Nat.ble ct.i k.ct.i && abk_ k.ct.a k.is) with
    | false=>rw [hc] at h;cases h
    | true =>
     rw [hc] at h
     simp only [cond_true,Option.bind_eq_some_iff,Option.some.injEq] at h
     obtain ⟨p',hp',rfl⟩:=h
     simp only [Bool.and_eq_true] at hc
     obtain ⟨⟨c1,c2⟩,c3⟩:=hc
     have c1:=Nat.eq_of_beq_eq_true c1
     obtain ⟨ts,w1,w2,w3⟩:=ah7_ (S:=S) (R:=R) (K:=K) (out:=out) (ρ:=ρ) (by rw [hl,← c1];exact c3) hp
     refine ⟨uN_ d ops o++aug_ d s o,k.w,k.ct,ts,fs,p',fun e'=>aK5_ E ho hn hg (by rw [List.append_assoc];exact hf.ext) hk ?_,Nat.le_of_ble_eq_true c2,hp',w2,by rw [List.length_append,w1,hl,c1],hf.ext⟩
     show Done S (ρ++ts++e') k.ct.a k.is
     rw [c1,← hl]
     exact w3 e'
theorem aDq_ {tr:List Tr} {lv:Nat} {s:St} {ct:Ct} {fs:yQ_} {ρ:List T} {p:PL} (E:Env P cx S) (ho:ops[i]?=some o) (hn:∀ n,o.dst=some n→n < nt)
  (h:oneO cx into fid rid d ops draw o i rc tr lv s ct fs=some p) (hp:p.den S R K ρ=some out) (hl:ρ.length=ct.a) (hf:FactsOk fs ρ) :
  WayA P S R K out ops Q B d up nt i rc tr lv s ct ρ∨(draw=false∧WayB S R K out cx into ops d o rc tr lv s ct ρ):=by
 unfold oneO at h
 simp only at h
 cases hgd:o.guard with
 | none =>
  rw [hgd] at h
  exact aIx_ E ho hn (by unfold gw;rw [hgd]) h hp hl hf
 | some jw =>
  obtain ⟨j,want⟩:=jw
  rw [hgd] at h
  simp only at h
  cases hb:(ops[j]?).bind (·.dst) with
  | none=>rw [hb] at h;cases h
  | some g =>
   rw [hb] at h
   simp only at h
   have hgw:∀ fs x,(match xD_ fs (s.get (.t d g)) with | .nil=>some false | .is b=>some (b == want) | _=>none)=some x→gw d ops o fs s=some x:=by
    intro fs x hx
    unfold gw
    simp only [hgd,hb]
    exact hx
   have both:∀ (fs:yQ_) (b:Bool) (p:PL),xD_ fs (s.get (.t d g))=.is b→(bif b == want then doO cx into fid rid d ops draw o i rc tr lv s ct fs else auf_ d ops o rc tr lv s ct fs)=some p→p.den S R K ρ=some out→FactsOk fs ρ →
     WayA P S R K out ops Q B d up nt i rc tr lv s ct ρ∨(draw=false∧WayB S R K out cx into ops d o rc tr lv s ct ρ):=by
    intro fs b p hd h hp hf
    have hg:=hgw fs (b == want) (by rw [hd])
    cases hbw:(b == want) with
    | true=>rw [hbw] at h hg;exact aIx_ E ho hn hg h hp hl hf
    | false=>rw [hbw] at h hg;exact .inl (aw6_ ho hn hg h hp hl hf)
   cases hd:xD_ fs (s.get (.t d g)) with
   | nil =>
    rw [hd] at h
    exact .inl (aw6_ ho hn (hgw fs false (by rw [hd])) h hp hl hf)
   | is b=>rw [hd] at h;exact both fs b p hd h hp hf
   | ask n =>
    rw [hd] at h
    simp only [Option.bind_eq_some_iff,Option.some.injEq] at h
    obtain ⟨x,hx,y,hy,rfl⟩:=h
    obtain ⟨b,hb',hp⟩:=arf_ hp
    cases b with
    | true=>exact both _ true x (alu_ hd) hx hp (hf.cons hb')
    | false=>exact both _ false y (alu_ hd) hy hp (hf.cons hb')
   | no=>rw [hd] at h;cases h;cases hp
end
structure Fr where
 d:Nat
 up:Nat→Nat→Value
 nt:Nat
structure Zb where
 K:List Sem1
 ρ:List T
def At (S:Nat→Sem1) (R:Nat) (out:List T) (B:Base) (f:Fr) (K0:Zb) (X:Gh→World→List T→Prop) (p:PL) (lv:Nat) (s:St) (ct:Ct) (fs:yQ_) (a:Act) (w:World):Prop :=
 ∃ K ρ G,p.den S R K ρ=some out∧K.length=lv∧(∃ pre,K=pre++K0.K)∧(∃ e,ρ=K0.ρ++e)∧ρ.length=ct.a∧FactsOk fs ρ∧Rel (fun i=>i < ct.i) B f.d f.up s ρ G a w∧a.tmps.size=f.nt∧X G w ρ
def XT:Gh→World→List T→Prop:=fun _ _ _=>True
def Snd (S:Nat→Sem1) (R:Nat) (out:List T) (B:Base) (f:Fr) (K0:Zb) (k:KP) (Ψ:Act→World→Prop):Prop :=
 ∀ lv s ct fs p a w,k lv s ct fs=some p→At S R out B f K0 XT p lv s ct fs a w→Ψ a w
def tupV (us:List Value):Value:=if h:us.length=1 then us[0] else .tuple us.toArray
def apa_ (P:Program) (S:Nat→Sem1) (R:Nat) (out:List T) (B:Base) (into:Into):Prop :=
 ∀ (f:Fr) (g:Nat) (vs:List SV) (lv:Nat) (s:St) (ct:Ct) (fs:yQ_) (kk:List SV→KP) (p:PL) (K0:Zb) (a:Act) (w:World) (args:List Value) (Ψ:Value→World→Prop),
  into (f.d+1) g vs lv s ct fs kk=some p→At S R out B f K0 (fun G w ρ=>RelSVs G w ρ vs args∧∀ v∈vs,∀ i∈zs_ v,i < ct.i) p lv s ct fs a w →
   (∀ rs lv' s' ct' fs' p' w' us,kk rs lv' s' ct' fs'=some p'→At S R out B f K0 (fun G w ρ=>RelSVs G w ρ rs us∧∀ v∈rs,∀ i∈zs_ v,i < ct'.i) p' lv' s' ct' fs' a w'→Ψ (tupV us) w') →
   FnIn P g∧Calls P g args.toArray w fun e w'=>∃ v,e=.returned v∧Ψ v w'
section
variable {B:Base} {f:Fr} {S:Nat→Sem1} {P:Program} {cx:Cx} {into:Into} {fid rid:Nat} {R:Nat} {Q:Exit→Act→World→Prop} {ops:Array Oper} {out:List T} {K0:Zb}
theorem aSz_ {lo hi:Nat} (h:lo≤hi) (i:Nat) (hm:Mn (fun i=>i < lo) lo hi i):i < hi:=by
 rcases hm with h1 | h1
 ·omega
 ·exact h1.2
theorem RelSVs.length {G:Gh} {w:World} {ρ:List T}:∀ {vs:List SV} {us:List Value},RelSVs G w ρ vs us→vs.length=us.length
 | [],[],_=>rfl
 | _ :: _,_ :: _,h=>by simp [RelSVs.length h.2]
 | [],_ :: _,h=>h.elim
 | _ :: _,[],h=>h.elim
theorem asx_ {G:Gh} {w:World} {ρ:List T}:∀ {rs:List SV} {vs:List (Bool × List Ce)} {us:List Value},vk_ rs=some vs→RelSVs G w ρ rs us→RelTp G w ρ vs us∧vb_ vs=rs.flatMap zs_
 | [],vs,us,h,hr=>by
  simp [vk_] at h
  subst h
  cases us with
  | nil=>exact ⟨trivial,rfl⟩
  | cons _ _=>exact hr.elim
 | .v ag cs :: rs,vs,us,h,hr=>by
  simp only [vk_,Option.bind_eq_some_iff,Option.some.injEq] at h
  obtain ⟨l,hl,rfl⟩:=h
  cases us with
  | nil=>exact hr.elim
  | cons u us =>
   obtain ⟨g1,g2⟩:=asx_ hl hr.2
   exact ⟨⟨hr.1,g1⟩,by simp [vb_,zs_,g2]⟩
 | .un :: rs,vs,us,h,hr=>by simp [vk_] at h
 | .pt _ _ :: rs,vs,us,h,hr=>by simp [vk_] at h
 | .ep _ _ _ _ _ :: rs,vs,us,h,hr=>by simp [vk_] at h
 | .fp _ _ _ _ :: rs,vs,us,h,hr=>by simp [vk_] at h
 | .tp _ :: rs,vs,us,h,hr=>by simp [vk_] at h
 | .cl _ _ :: rs,vs,us,h,hr=>by simp [vk_] at h
 | .ob _ _ :: rs,vs,us,h,hr=>by simp [vk_] at h
 | .fz _ :: rs,vs,us,h,hr=>by simp [vk_] at h
theorem aQm_ {o:Oper} {rc:Rec} {tr:List Tr} {rs:List SV} {lv:Nat} {s:St} {ct:Ct} {fs:yQ_} {p:PL} {a:Act} {w:World} {us:List Value} {Ψ:Act→World→Prop} (hn:∀ n,o.dst=some n→n < f.nt)
  (h:aue_ f.d o rc tr rs lv s ct fs=some p) (hat:At S R out B f K0 (fun G w ρ=>RelSVs G w ρ rs us∧∀ v∈rs,∀ i∈zs_ v,i < ct.i) p lv s ct fs a w)
  (hrc:∀ tr lv s ct fs p a w,rc tr lv s ct fs=some p→At S R out B f K0 XT p lv s ct fs a w→Ψ a w):Ψ (a.put o.dst (tupV us)) w:=by
 obtain ⟨K,ρ,G,h1,h2,h3,h0,h4,h5,h6,h7,h8,h9⟩:=hat
 unfold aue_ at h
 have key:∀ (n:Nat) (v:SV),o.dst=some n→rc tr lv (s.set (.t f.d n) v) ct fs=some p→RelSV G w ρ v (tupV us)→(∀ i∈zs_ v,i < ct.i)→Ψ (a.put o.dst (tupV us)) w:=by
  intro n v hd hk hr hm
  rw [hd]
  exact hrc tr lv _ ct fs p _ w hk ⟨K,ρ,G,h1,h2,h3,h0,h4,h5,h6.put1 (by rw [h7];exact hn n hd) hr hm,by rw [v4_];exact h7,trivial⟩
 have hlen:=h8.length
 split at h
 ·rename_i hd
  rw [hd]
  exact hrc tr lv s ct fs p _ w h ⟨K,ρ,G,h1,h2,h3,h0,h4,h5,by simpa [Act.put] using h6,by simpa [Act.put] using h7,trivial⟩
 ·rename_i n v hd
  match us,h8 with
  | [u],h8=>exact key n v hd h h8.1 (h9 v (by simp))
 ·rename_i n hd
  exact key n .un hd h trivial (fun i hi=>by simp [zs_] at hi)
 ·rename_i rs' _ _ n hd hne1 hne2
  simp only [Option.bind_eq_some_iff] at h
  obtain ⟨vs,hvs,h⟩:=h
  obtain ⟨g1,g2⟩:=asx_ hvs h8
  refine key n (.tp vs) hd h ⟨us,?_,g1⟩ fun i hi=>?_
  ·unfold tupV
   rw [dif_neg]
   intro he
   rw [← hlen] at he
   match rs',hne1,he with
   | [v],hne1,_=>exact hne1 v rfl
  ·rw [show zs_ (.tp vs)=vb_ vs from rfl,g2] at hi
   obtain ⟨v,hv,hi⟩:=List.mem_flatMap.1 hi
   exact h9 v hv i hi
theorem aH6_ {d:Nat} {up:Nat→Nat→Value} {M:Nat→Prop} {s:St} {ρ:List T} {G:Gh} {a:Act} {w:World} {o:Oper} {g:Nat} {vs:List SV} (hr:Rel M B d up s ρ G a w) (hi:apf_ cx d s o=some (g,vs)) :
  ∃ args:List Value,(FnIn P g→(execOp a.eval o).run P w=.ok (.enter g args.toArray) w)∧RelSVs G w ρ vs args∧∀ v∈vs,∀ i∈zs_ v,M i:=by
 unfold apf_ at hi
 split at hi
 ·rename_i c hop
  split at hi
  ·rename_i x hcal
   split at hi
   ·rename_i g' bs hx
    split at hi
    ·cases hi
    ·simp only [Option.some.injEq,Prod.mk.injEq] at hi
     obtain ⟨rfl,rfl⟩:=hi
     obtain ⟨h1,h2⟩:=v0_ hr x
     rw [hx] at h1 h2
     have hv:a.eval x=.func (.func g') #[] (bs.map fun b=>Value.pointer (some ⟨G.β b,0,none⟩)).toArray:=h1
     refine ⟨c.args.toList.map a.eval++bs.map fun b=>Value.pointer (some ⟨G.β b,0,none⟩),?_,?_,?_⟩
     ·intro hg
      unfold execOp
      rw [hop]
      show Sem.run P (do let d ← resolve a.eval c o.type;invoke d.target d.args) w=_
      simp only [resolve,hcal,hv,Deferred.ofValue,pure_bind,invoke]
      rw [ajy_ hg]
      congr 2
      exact Array.ext' (by simp)
     ·have k1:∀ l:List Operand,RelSVs G w ρ (l.map (opnd d s.get)++bs.map fun b=>SV.pt b 0) (l.map a.eval++bs.map fun b=>Value.pointer (some ⟨G.β b,0,none⟩)):=by
       intro l
       induction l with
       | nil =>
        clear hx h1 h2 hv
        induction bs with
        | nil=>trivial
        | cons b bs ih=>exact ⟨rfl,ih⟩
       | cons y l ih=>exact ⟨(v0_ hr y).1,ih⟩
      exact k1 _
     ·intro v hv i hi
      rcases List.mem_append.1 hv with hv | hv
      ·obtain ⟨y,_,rfl⟩:=List.mem_map.1 hv
       exact (v0_ hr y).2 i hi
      ·obtain ⟨b,hb,rfl⟩:=List.mem_map.1 hv
       simp [zs_] at hi
       subst hi
       exact h2 _ (by simpa [zs_] using hb)
   ·cases hi
  ·cases hi
 ·cases hi
theorem aIm_ (E:Env P cx S) (hI:apa_ P S R out B into) (hn:∀ o∈ops.toList,∀ n,o.dst=some n→n < f.nt) {fin:List Tr→KP} (hfin:∀ tr,Snd S R out B f K0 (fin tr) (Q .normal)) :
  ∀ (os:List Oper) (i:Nat) (tr:List Tr) (lv:Nat) (s:St) (ct:Ct) (fs:yQ_) (p:PL) (a:Act) (w:World),ops.toList.drop i=os→aaq_ cx into fid rid f.d ops false fin os i tr lv s ct fs=some p →
   At S R out B f K0 XT p lv s ct fs a w→wpOps P ops Q (List.range' i os.length) a w
 | [],i,tr,lv,s,ct,fs,p,a,w,_,h,hat=>hfin tr lv s ct fs p a w h hat
 | o :: os,i,tr,lv,s,ct,fs,p,a,w,hos,h,hat=>by
  have ho:ops[i]?=some o:=by
   rw [← Array.getElem?_toList]
   have:=congrArg (·[0]?) hos
   simpa using this
  have hn':=hn o (List.mem_of_mem_drop (i:=i) (by rw [hos];simp))
  have hos':ops.toList.drop (i+1)=os:=by
   rw [← List.drop_drop,hos];rfl
  have ih:=aIm_ E hI hn hfin os (i+1)
  obtain ⟨K,ρ,G,h1,h2,h3,⟨e0,h0⟩,h4,h5,h6,h7,_⟩:=hat
  rw [List.length_cons,List.range'_succ,wpOps_cons]
  rcases aDq_ (P:=P) (Q:=Q) (B:=B) (up:=f.up) (nt:=f.nt) (R:=R) (K:=K) (out:=out) E ho hn' (show oneO cx into fid rid f.d ops false o i (aaq_ cx into fid rid f.d ops false fin os (i+1)) tr lv s ct fs=some p from h) h1 h4 h5 with
   ⟨rd,wr,ct',e,fs',p',hit,hle,hrc,hp',hl',hf'⟩ | ⟨_,g,vs,fs',p',hg,hi,hf',hin,hp'⟩
  ·have hit0:=hit []
   rw [List.append_nil] at hit0
   refine hit0 (fun i=>i < ct.i) s G a w _ (fun r hr=>rfl) h6.ext h7 (fun j h1 h2=>by omega) fun G' a' w' hr' hs'=>?_
   exact ih _ lv _ ct' fs' p' a' w' hos' hrc ⟨K,ρ++e,G',hp',h2,h3,⟨e0++e,by rw [h0,List.append_assoc]⟩,hl',hf',hr'.mono (aSz_ hle),hs',trivial⟩
  ·have hQ:=fun (args:List Value) hr=>hI f g vs lv s ct fs' _ p' K0 a w args (fun v w'=>wpOps P ops Q (List.range' (i+1) os.length) (a.put o.dst v) w') hin ⟨K,ρ,G,hp',h2,h3,⟨e0,h0⟩,h4,hf',h6,h7,hr⟩ fun rs lv' s' ct' fs2 p2 w' us hk hat2 =>
    aQm_ (Ψ:=fun a w'=>wpOps P ops Q (List.range' (i+1) os.length) a w') hn' hk hat2 fun tr lv s ct fs p a w hk hat3=>ih tr lv s ct fs p a w hos' hk hat3
   obtain ⟨args,hx,hr,hm⟩:=aH6_ (P:=P) h6 hi
   have hw:=at7_ hg h6 hf'
   unfold wpOp
   simp only [ho,hw,if_true]
   left
   simp only [Oper.wp]
   obtain ⟨hg0,hcall⟩:=hQ args ⟨hr,hm⟩
   rw [hx hg0]
   refine hcall.mono ?_
   rintro e w' ⟨v,rfl,hv⟩
   exact hv
end
structure Item where
 rd:List Res
 wr:St
 lo:Nat
 hi:Nat
def Item.tr (it:Item):Tr:=⟨it.rd,it.wr.map (·.1)⟩
inductive Chain (Ok:Nat→Item→St→Prop):Nat→St→Nat→List Item→St→Nat→Prop
 | nil {i:Nat} {s:St} {c:Nat}:Chain Ok i s c [] s c
 | cons {i:Nat} {s s':St} {c c':Nat} {it:Item} {its:List Item} (h:Ok i it s) (hl:it.lo=c) (hh:c≤it.hi) (ht:Chain Ok (i+1) (s.sets it.wr) it.hi its s' c'):Chain Ok i s c (it :: its) s' c'
def stD (D:Nat→Bool):Nat→St→List Item→St
 | _,s,[]=>s
 | i,s,it :: its=>stD D (i+1) (bif D i then s.sets it.wr else s) its
theorem Chain.mono {Ok Ok':Nat→Item→St→Prop} (h:∀ i it s,Ok i it s→Ok' i it s) {i:Nat} {s s':St} {c c':Nat} {its:List Item} (hc:Chain Ok i s c its s' c'):Chain Ok' i s c its s' c':=by
 induction hc with
 | nil=>exact .nil
 | cons h1 h2 h3 _ ih=>exact .cons (h _ _ _ h1) h2 h3 ih
theorem Chain.le {Ok:Nat→Item→St→Prop} {i:Nat} {s s':St} {c c':Nat} {its:List Item} (hc:Chain Ok i s c its s' c'):c≤c':=by
 induction hc with
 | nil=>exact Nat.le_refl _
 | cons _ _ h3 _ ih=>exact Nat.le_trans h3 ih
theorem Chain.get {Ok:Nat→Item→St→Prop} {i:Nat} {s s':St} {c c':Nat} {its:List Item} (hc:Chain Ok i s c its s' c'):∀ (m:Nat) (it:Item),its[m]?=some it →
  Ok (i+m) it (stD (fun _=>true) i s (its.take m))∧c≤it.lo∧it.lo≤it.hi∧it.hi≤c':=by
 induction hc with
 | nil=>intro m it h;simp at h
 | @cons i s s' c c' it0 its h1 h2 h3 h4 ih =>
  intro m it hm
  cases m with
  | zero =>
   simp at hm
   subst hm
   exact ⟨h1,by omega,by omega,h4.le⟩
  | succ m =>
   obtain ⟨g1,g2,g3,g4⟩:=ih m it (by simpa using hm)
   refine ⟨?_,by omega,g3,g4⟩
   rw [show i+(m+1)=i+1+m by omega]
   simpa [stD] using g1
theorem Chain.apart {Ok:Nat→Item→St→Prop} {i:Nat} {s s':St} {c c':Nat} {its:List Item} (hc:Chain Ok i s c its s' c'):∀ (m m':Nat) (it it':Item),its[m]?=some it→its[m']?=some it'→m < m'→it.hi≤it'.lo:=by
 induction hc with
 | nil=>intro m m' it it' h;simp at h
 | @cons i s s' c c' it0 its h1 h2 h3 h4 ih =>
  intro m m' it it' hm hm' hlt
  cases m' with
  | zero=>omega
  | succ m' =>
   cases m with
   | zero =>
    simp at hm
    subst hm
    exact (h4.get m' it' (by simpa using hm')).2.1
   | succ m=>exact ih m m' it it' (by simpa using hm) (by simpa using hm') (by omega)
theorem Chain.last {Ok:Nat→Item→St→Prop} {i:Nat} {s s':St} {c c':Nat} {its:List Item} (hc:Chain Ok i s c its s' c') {D:Nat→Bool}:(∀ m,m < its.length→D (i+m)=true)→stD D i s its=s':=by
 induction hc with
 | nil=>intro _;rfl
 | @cons i s s' c c' it0 its h1 h2 h3 h4 ih =>
  intro h
  simp only [stD]
  rw [show D i=true from h 0 (by simp)]
  exact ih fun m hm=>by rw [show i+1+m=i+(m+1) by omega];exact h (m+1) (by simpa using hm)
theorem au3_ {D:Nat→Bool}:∀ {its:List Item} {i:Nat} {s:St},(∀ m,m < its.length→D (i+m)=false)→stD D i s its=s
 | [],i,s,_=>rfl
 | it :: its,i,s,h=>by
  simp only [stD]
  rw [show D i=false from h 0 (by simp)]
  exact au3_ fun m hm=>by rw [show i+1+m=i+(m+1) by omega];exact h (m+1) (by simpa using hm)
theorem asn_ {D:Nat→Bool}:∀ {its:List Item} {i:Nat} {s s2:St},(∀ r,s.get r=s2.get r)→∀ r,(stD D i s its).get r=(stD D i s2 its).get r
 | [],i,s,s2,h,r=>h r
 | it :: its,i,s,s2,h,r=>by
  simp only [stD]
  refine asn_ (fun r=>?_) r
  cases D i with
  | true=>simp only [cond_true];rw [St.get_sets,St.get_sets,h]
  | false=>exact h r
theorem asu_ {D D':Nat→Bool}:∀ {its:List Item} {i:Nat} {s:St},(∀ m,m < its.length→D (i+m)=D' (i+m))→stD D i s its=stD D' i s its
 | [],i,s,_=>rfl
 | it :: its,i,s,h=>by
  simp only [stD]
  rw [show D i=D' i from h 0 (by simp)]
  exact asu_ fun m hm=>by rw [show i+1+m=i+(m+1) by omega];exact h (m+1) (by simpa using hm)
theorem ayb_ {D:Nat→Bool} {r:Res}:∀ {its:List Item} {i:Nat} {s:St},(∀ m it,its[m]?=some it→D (i+m)=true→it.wr.look r=none)→(stD D i s its).get r=s.get r
 | [],i,s,_=>rfl
 | it :: its,i,s,h=>by
  simp only [stD]
  rw [ayb_ fun m it' hm hd=>h (m+1) it' (by simpa using hm) (by rw [show i+(m+1)=i+1+m by omega];exact hd)]
  cases hD:D i with
  | false=>rfl
  | true =>
   simp only [cond_true]
   rw [St.get_sets,h 0 it rfl (by simpa using hD)]
   rfl
theorem aw2_ {D:Nat→Bool} {W:St}:∀ {its:List Item} {i:Nat} {s:St},(∀ m it,its[m]?=some it→D (i+m)=true→∀ r,it.wr.look r=none∨W.look r=none) →
  ∀ r,((stD D i s its).sets W).get r=(stD D i (s.sets W) its).get r
 | [],i,s,_,r=>rfl
 | it :: its,i,s,h,r=>by
  simp only [stD]
  rw [aw2_ fun m it' hm hd=>h (m+1) it' (by simpa using hm) (by rw [show i+(m+1)=i+1+m by omega];exact hd)]
  refine asn_ (fun r=>?_) r
  cases hD:D i with
  | false=>rfl
  | true =>
   simp only [cond_true]
   rw [St.get_sets,St.get_sets,St.get_sets,St.get_sets]
   rcases h 0 it rfl (by simpa using hD) r with h1 | h1
   ·rw [h1];rfl
   ·rw [h1];rfl
def addD (D:Nat→Bool) (k:Nat):Nat→Bool:=fun j=>if j=k then true else D j
theorem aDe_ {D:Nat→Bool}:∀ {its:List Item} {i m:Nat} {s:St} {it:Item},its[m]?=some it→D (i+m)=false →
  (∀ m' it',its[m']?=some it'→m < m'→D (i+m')=true→∀ r,it'.wr.look r=none∨it.wr.look r=none)→∀ r,((stD D i s its).sets it.wr).get r=(stD (addD D (i+m)) i s its).get r
 | [],i,m,s,it,h,_,_,r=>by simp at h
 | it0 :: its,i,0,s,it,h,hd,hc,r=>by
  simp at h
  subst h
  simp only [stD,Nat.add_zero] at hd ⊢
  rw [hd,show addD D i i=true by simp [addD]]
  simp only [cond_false,cond_true]
  rw [aw2_ fun m it' hm hd'=>hc (m+1) it' (by simpa using hm) (by omega) (by rw [show i+(m+1)=i+1+m by omega];exact hd')]
  exact congrArg (fun x=>St.get x r) (asu_ fun m hm=>by
   have:¬ (i+1+m=i):=by omega
   simp [addD,this])
 | it0 :: its,i,m+1,s,it,h,hd,hc,r=>by
  simp only [stD]
  have e:addD D (i+(m+1)) i=D i:=by
   have:¬ (i=i+(m+1)):=by omega
   simp [addD]
  rw [e,show i+(m+1)=i+1+m by omega]
  exact aDe_ (by simpa using h) (by rw [show i+1+m=i+(m+1) by omega];exact hd) (fun m' it' hm hlt hd'=>hc (m'+1) it' (by simpa using hm) (by omega) (by rw [show i+(m'+1)=i+1+m' by omega];exact hd')) r
theorem avh_ {D:Nat→Bool} {r:Res}:∀ {its:List Item} {i m:Nat} {s s2:St},s.get r=s2.get r→m≤its.length→(∀ m' it',its[m']?=some it'→m' < m→D (i+m')=false→it'.wr.look r=none) →
  (∀ m' it',its[m']?=some it'→m≤m'→D (i+m')=true→it'.wr.look r=none)→(stD D i s its).get r=(stD (fun _=>true) i s2 (its.take m)).get r
 | its,i,0,s,s2,h,_,h1,h2=>by
  rw [List.take_zero]
  show _=s2.get r
  rw [ayb_ fun m it hm hd=>h2 m it hm (by omega) hd,h]
 | [],i,m+1,s,s2,h,hl,_,_=>by simp at hl
 | it0 :: its,i,m+1,s,s2,h,hl,h1,h2=>by
  simp only [stD,List.take_succ_cons,cond_true]
  refine avh_ ?_ (by simpa using hl) (fun m' it' hm hlt hd=>h1 (m'+1) it' (by simpa using hm) (by omega) (by rw [show i+(m'+1)=i+1+m' by omega];exact hd))
   (fun m' it' hm hlt hd=>h2 (m'+1) it' (by simpa using hm) (by omega) (by rw [show i+(m'+1)=i+1+m' by omega];exact hd))
  cases hD:D i with
  | true=>simp only [cond_true];rw [St.get_sets,St.get_sets,h]
  | false =>
   simp only [cond_false]
   rw [St.get_sets,h1 0 it0 rfl (by omega) (by simpa using hD)]
   exact h
theorem anv_ {xs ys:List Res} (h:at8_ xs ys=false):∀ r,r∈xs→r∈ys→False:=by
 intro r h1 h2
 have h3:ys.any r.beq=false:=by have:=List.any_eq_false.1 h r h1;rw [Bool.not_eq_true] at this;exact this
 have:=List.any_eq_false.1 h3 r h2
 exact this (Res.beq_iff.2 rfl)
theorem ado_ {W:St} {r:Res} (h:r ∉ W.map (·.1)):W.look r=none:=by
 cases hl:W.look r with
 | none=>rfl
 | some u=>exact absurd (List.mem_map.2 ⟨(r,u),ahj_ hl,rfl⟩) h
theorem ag8_ {a b:Item} (h:kQ_ a.tr b.tr=true):(∀ r∈b.rd,a.wr.look r=none)∧(∀ r,a.wr.look r=none∨b.wr.look r=none)∧(∀ r∈a.rd,b.wr.look r=none):=by
 simp only [kQ_,Bool.and_eq_true,Bool.not_eq_true'] at h
 obtain ⟨⟨h1,h2⟩,h3⟩:=h
 refine ⟨fun r hr=>ado_ fun hm=>anv_ h1 r hm hr,fun r=>?_,fun r hr=>ado_ fun hm=>anv_ h3 r hr hm⟩
 by_cases hm:r∈a.wr.map (·.1)
 ·exact .inr (ado_ fun hm'=>anv_ h2 r hm hm')
 ·exact .inl (ado_ hm)
theorem asf_ {bj:Nat} {t:Tr}:∀ {us:List Tr} {i:Nat},at9_ bj t i us=true→∀ j u,us[j]?=some u→Nat.testBit bj (i+j)=true∨kQ_ u t=true
 | [],i,_,j,u,h=>by simp at h
 | v :: us,i,h,j,u,hj=>by
  simp only [at9_,Bool.and_eq_true,Bool.or_eq_true] at h
  cases j with
  | zero=>simp at hj;subst hj;exact h.1
  | succ j =>
   have:=asf_ h.2 j u (by simpa using hj)
   rw [show i+1+j=i+(j+1) by omega] at this
   exact this
theorem akc_:∀ {ts:List Tr} {bs:List Nat} {done:List Tr},ag6_ done ts bs=true→∀ (m u:Nat) (t tu:Tr) (b:Nat),ts[m]?=some t→bs[m]?=some b→u < done.length+m→(done++ts)[u]?=some tu →
  Nat.testBit b u=true∨kQ_ tu t=true
 | [],bs,done,_,m,u,t,tu,b,h,_,_,_=>by simp at h
 | _ :: _,[],done,_,m,u,t,tu,b,_,h,_,_=>by simp at h
 | t0 :: ts,b0 :: bs,done,h,m,u,t,tu,b,hm,hb,hu,hg=>by
  simp only [ag6_,Bool.and_eq_true] at h
  cases m with
  | zero =>
   simp at hm hb
   subst hm hb
   have:=asf_ h.1 u tu (by rw [List.getElem?_append_left (by omega)] at hg;exact hg)
   simpa using this
  | succ m =>
   exact akc_ h.2 m u t tu b (by simpa using hm) (by simpa using hb) (by simp;omega) (by simpa using hg)
def ab4_ (n:Nat) (e:Edge):Bool:=Region.binds .any e && Nat.blt e.on n
theorem apr_ (acc:List Nat) (n:Nat):∀ (es:List Edge) (s u:Nat),Nat.testBit (es.foldl (fun s e=>bif ab4_ n e then s ||| (2 ^ e.on) ||| (acc.getD e.on 0) else s) s) u=true →
  Nat.testBit s u=true∨∃ e∈es,ab4_ n e=true∧(u=e.on∨Nat.testBit (acc.getD e.on 0) u=true)
 | [],s,u,h=>.inl h
 | e :: es,s,u,h=>by
  rw [List.foldl_cons] at h
  rcases apr_ acc n es _ u h with h1 | ⟨e',he',h1⟩
  ·cases hc:ab4_ n e with
   | false=>rw [hc] at h1;exact .inl h1
   | true =>
    rw [hc] at h1
    simp only [cond_true,Nat.testBit_or,Bool.or_eq_true] at h1
    rcases h1 with (h1 | h1) | h1
    ·exact .inl h1
    ·rw [Nat.testBit_two_pow] at h1
     simp at h1
     exact .inr ⟨e,by simp,hc,.inl h1.symm⟩
    ·exact .inr ⟨e,by simp,hc,.inr h1⟩
  ·exact .inr ⟨e',by simp [he'],h1⟩
theorem ae1_:∀ (os:List Oper) (acc:List Nat) (j:Nat),j < acc.length→(xM_ acc os)[j]?=acc[j]?
 | [],acc,j,_=>rfl
 | o :: os,acc,j,h=>by
  simp only [xM_]
  rw [ae1_ os _ j (by simp;omega),List.getElem?_append_left h]
theorem amj_:∀ (os:List Oper) (acc:List Nat),(xM_ acc os).length=acc.length+os.length
 | [],acc=>rfl
 | o :: os,acc=>by simp only [xM_];rw [amj_];simp;omega
theorem afb_:∀ (os:List Oper) (acc:List Nat) (k b:Nat),acc.length≤k→(xM_ acc os)[k]?=some b→∃ o,os[k - acc.length]?=some o ∧
  ∀ u,Nat.testBit b u=true→∃ e∈o.after.toList,ab4_ k e=true∧(u=e.on∨Nat.testBit ((xM_ acc os).getD e.on 0) u=true)
 | [],acc,k,b,hk,h=>by
  simp only [xM_] at h
  have:=(List.getElem?_eq_some_iff.1 h).1
  omega
 | o :: os,acc,k,b,hk,h=>by
  simp only [xM_] at h ⊢
  by_cases he:k=acc.length
  ·subst he
   rw [ae1_ os _ _ (by simp),List.getElem?_append_right (Nat.le_refl _)] at h
   simp only [Nat.sub_self,List.getElem?_cons_zero,Option.some.injEq] at h
   refine ⟨o,by simp,fun u hu=>?_⟩
   rw [← h] at hu
   rcases apr_ acc acc.length o.after.toList 0 u hu with h1 | ⟨e,he,h1,h2⟩
   ·simp at h1
   ·refine ⟨e,he,h1,h2.imp_right fun h2=>?_⟩
    have hlt:e.on < acc.length:=by
     simp only [ab4_,Bool.and_eq_true] at h1
     exact Nat.lt_of_succ_le (by simpa [Nat.blt] using h1.2)
    rw [List.getD_eq_getElem?_getD,ae1_ os _ _ (by simp;omega),List.getElem?_append_left hlt,← List.getD_eq_getElem?_getD]
    exact h2
  ·obtain ⟨o',h1,h2⟩:=afb_ os _ k b (by simp;omega) h
   refine ⟨o',?_,h2⟩
   rw [← h1,show k - acc.length=(k - (acc.length+1))+1 by omega]
   simp
theorem aDd_:∀ {os:List Oper} {i:Nat},aiq_ i os=true→∀ m o,os[m]?=some o→∀ e∈o.after.toList,Region.binds .any e=true→e.on < i+m
 | [],i,_,m,o,h,_,_,_=>by simp at h
 | o0 :: os,i,h,m,o,hm,e,he,hb=>by
  simp only [aiq_,Bool.and_eq_true] at h
  cases m with
  | zero =>
   simp at hm
   subst hm
   have:=List.all_eq_true.1 h.1 e he
   simp only [hb,Bool.not_true,Bool.false_or] at this
   exact Nat.lt_of_succ_le (by simpa [Nat.blt] using this)
  | succ m =>
   have:=aDd_ h.2 m o (by simpa using hm) e he hb
   omega
def ayc_ (ops:Array Oper) (D:Nat→Bool):Prop:=∀ (j:Nat) (o:Oper),D j=true→ops[j]?=some o→∀ e∈o.after.toList,Region.binds .any e=true→D e.on=true
theorem ayi_ {ops:Array Oper} {D:Nat→Bool} (hc:ayc_ ops D):∀ (j b u:Nat),D j=true→(xM_ [] ops.toList)[j]?=some b→Nat.testBit b u=true→D u=true:=by
 intro j
 induction j using Nat.strongRecOn with
 | _ j ih =>
  intro b u hj hb hu
  obtain ⟨o,ho,h⟩:=afb_ ops.toList [] j b (by simp) hb
  obtain ⟨e,he,h1,h2⟩:=h u hu
  simp only [ab4_,Bool.and_eq_true] at h1
  have hlt:e.on < j:=Nat.lt_of_succ_le (by simpa [Nat.blt] using h1.2)
  have hd:=hc j o hj (by simpa using ho) e he h1.1
  rcases h2 with rfl | h2
  ·exact hd
  ·have hlen:e.on < (xM_ [] ops.toList).length:=by
    have:=(List.getElem?_eq_some_iff.1 hb).1
    omega
   rw [List.getD_eq_getElem?_getD,List.getElem?_eq_getElem hlen] at h2
   exact ih e.on hlt _ u hd (List.getElem?_eq_getElem hlen) h2
theorem aKs_ {ops:Array Oper} {D:Nat→Bool} (hc:ayc_ ops D) {k b u:Nat} {o:Oper} (ho:ops[k]?=some o) (hr:∀ e∈o.after.toList,Region.binds .any e=true→D e.on=true)
  (hb:(xM_ [] ops.toList)[k]?=some b) (hu:Nat.testBit b u=true):D u=true:=by
 obtain ⟨o',ho',h⟩:=afb_ ops.toList [] k b (by simp) hb
 simp only [List.length_nil,Nat.sub_zero,Array.getElem?_toList,ho,Option.some.injEq] at ho'
 subst ho'
 obtain ⟨e,he,h1,h2⟩:=h u hu
 simp only [ab4_,Bool.and_eq_true] at h1
 have hd:=hr e he h1.1
 have hlt:e.on < k:=Nat.lt_of_succ_le (by simpa [Nat.blt] using h1.2)
 rcases h2 with rfl | h2
 ·exact hd
 ·have hlen:e.on < (xM_ [] ops.toList).length:=by
   have:=(List.getElem?_eq_some_iff.1 hb).1
   omega
  rw [List.getD_eq_getElem?_getD,List.getElem?_eq_getElem hlen] at h2
  exact ayi_ hc e.on _ u hd (List.getElem?_eq_getElem hlen) h2
def uO_:List Bool→Nat
 | []=>0
 | true :: l=>uO_ l
 | false :: l=>uO_ l+1
theorem aio_:∀ (l:List Bool) (i:Nat),l[i]?=some false→uO_ (l.set i true)+1=uO_ l
 | [],i,h=>by simp at h
 | b :: l,0,h=>by simp at h;subst h;simp [uO_]
 | true :: l,i+1,h=>by simp only [List.set_cons_succ,uO_];exact aio_ l i (by simpa using h)
 | false :: l,i+1,h=>by simp only [List.set_cons_succ,uO_];rw [← aio_ l i (by simpa using h)]
theorem amr_:∀ (l:List Bool),uO_ l=0→∀ i,i < l.length→l[i]?=some true
 | [],_,i,h=>by simp at h
 | true :: l,h,0,_=>rfl
 | true :: l,h,i+1,hi=>by simpa using amr_ l h i (by simpa using hi)
 | false :: l,h,_,_=>by simp [uO_] at h
theorem ap2_:∀ n,uO_ (List.replicate n false)=n
 | 0=>rfl
 | n+1=>by simp [List.replicate_succ,uO_,ap2_ n]
section
variable {B:Base} {d:Nat} {up:Nat→Nat→Value} {S:Nat→Sem1} {P:Program} {cx:Cx} {into:Into} {fid rid:Nat} {R:Nat} {Q:Exit→Act→World→Prop} {ops:Array Oper} {nt:Nat} {ρ:List T}
variable {its:List Item} {s0 s1:St} {c0 c1:Nat}
def MD (c0:Nat) (its:List Item) (D:Nat→Bool) (j:Nat):Prop:=j < c0∨∃ m it,its[m]?=some it∧D m=true∧it.lo≤j∧j < it.hi
def xo_ (listed:Array Bool) (j:Nat):Bool:=listed.getD j false
theorem aFu_ {listed:Array Bool} {i:Nat} (h:i < listed.size):xo_ (listed.setIfInBounds i true)=addD (xo_ listed) i:=by
 funext j
 unfold xo_ addD
 by_cases hj:j=i
 ·subst hj
  simp [Array.getD_eq_getD_getElem?,h]
 ·rw [if_neg hj,getD_set_ne _ (Ne.symm hj)]
theorem aMb_ (hc:Chain (fun i it s=>af7_ P ops Q B d up nt ρ i it.rd it.wr it.lo it.hi s) 0 s0 c0 its s1 c1) (hlen:its.length=ops.size) (hok:ag6_ [] (its.map Item.tr) (xM_ [] ops.toList)=true) (hfw:aiq_ 0 ops.toList=true)
  (hQ:∀ G a w,Rel (fun i=>i < c1) B d up s1 ρ G a w→a.tmps.size=nt→Q .normal a w) :
  ∀ (fuel:Nat) (listed:Array Bool) (a:Act) (w:World),listed.size=ops.size→uO_ listed.toList≤fuel→ayc_ ops (xo_ listed) →
   (∃ G,Rel (MD c0 its (xo_ listed)) B d up (stD (xo_ listed) 0 s0 its) ρ G a w)→a.tmps.size=nt→wpAny P .any ops Q fuel listed a w:=by
 have hblen:(xM_ [] ops.toList).length=ops.size:=by rw [amj_];simp
 have gone:∀ (listed:Array Bool),listed.size=ops.size→Region.ready .any ops listed=[]→∀ j,j < ops.size→xo_ listed j=true:=by
  intro listed hs hr j
  induction j using Nat.strongRecOn with
  | _ j ih =>
   intro hj
   cases hd:xo_ listed j with
   | true=>rfl
   | false =>
    exfalso
    have ho:ops[j]?=some ops[j]:=Array.getElem?_eq_getElem hj
    have:j∈Region.ready .any ops listed:=by
     rw [mem_ready]
     refine ⟨?_,ops[j],ho,fun e he hb=>?_⟩
     ·unfold xo_ at hd
      rw [Array.getD_eq_getD_getElem?] at hd ⊢
      rw [Array.getElem?_eq_getElem (by omega)] at hd ⊢
      simpa using hd
     ·have hlt:=aDd_ hfw j ops[j] (by simp) e (by simpa using he) hb
      have hlt:e.on < j:=by omega
      exact ih e.on hlt (by omega)
    rw [hr] at this
    cases this
 have fin:∀ (listed:Array Bool) (a:Act) (w:World),listed.size=ops.size→Region.ready .any ops listed=[]→(∃ G,Rel (MD c0 its (xo_ listed)) B d up (stD (xo_ listed) 0 s0 its) ρ G a w)→a.tmps.size=nt→Q .normal a w:=by
  rintro listed a w hs hr ⟨G,hrel⟩ hnt
  have hall:=gone listed hs hr
  rw [hc.last fun m hm=>by rw [Nat.zero_add];exact hall m (by omega)] at hrel
  refine hQ G a w (hrel.mono fun j hj=>?_) hnt
  rcases hj with h1 | ⟨m,it,hm,_,_,h3⟩
  ·exact Nat.lt_of_lt_of_le h1 hc.le
  ·exact Nat.lt_of_lt_of_le h3 (hc.get m it hm).2.2.2
 intro fuel
 induction fuel with
 | zero =>
  intro listed a w hs hf _ hr hnt
  have h0:∀ j,j < ops.size→xo_ listed j=true:=by
   intro j hj
   have:=amr_ listed.toList (by omega) j (by simp;omega)
   unfold xo_
   rw [Array.getD_eq_getD_getElem?,← Array.getElem?_toList,this]
   rfl
  have hre:Region.ready .any ops listed=[]:=by
   cases hl:Region.ready .any ops listed with
   | nil=>rfl
   | cons j l =>
    exfalso
    have hm:j∈Region.ready .any ops listed:=by rw [hl];simp
    obtain ⟨h1,o,ho,_⟩:=mem_ready.1 hm
    have hj:j < ops.size:=(Array.getElem?_eq_some_iff.1 ho).1
    have:=h0 j hj
    unfold xo_ at this
    rw [Array.getD_eq_getD_getElem?] at this h1
    rw [Array.getElem?_eq_getElem (by omega)] at this h1
    simp at this h1
    rw [this] at h1
    cases h1
  exact ⟨hre,fin listed a w hs hre hr hnt⟩
 | succ fuel ih =>
  intro listed a w hs hf hcl hr hnt
  refine ⟨fun hre=>fin listed a w hs hre hr hnt,fun k hk=>?_⟩
  obtain ⟨hk1,o,ho,hed⟩:=mem_ready.1 hk
  obtain ⟨G,hrel⟩:=hr
  have hklt:k < ops.size:=(Array.getElem?_eq_some_iff.1 ho).1
  have hkl:k < listed.size:=by omega
  have hkd:xo_ listed k=false:=by
   unfold xo_
   rw [Array.getD_eq_getD_getElem?] at hk1 ⊢
   rw [Array.getElem?_eq_getElem hkl] at hk1 ⊢
   simpa using hk1
  obtain ⟨it,hit⟩:∃ it,its[k]?=some it:=⟨its[k]'(by omega),List.getElem?_eq_getElem (by omega)⟩
  obtain ⟨b,hb⟩:∃ b,(xM_ [] ops.toList)[k]?=some b:=⟨_,List.getElem?_eq_getElem (by omega)⟩
  obtain ⟨g1,g2,g3,g4⟩:=hc.get k it hit
  have hitr:(its.map Item.tr)[k]?=some it.tr:=by rw [List.getElem?_map,hit];rfl
  have hed':∀ e∈o.after.toList,Region.binds .any e=true→xo_ listed e.on=true:=fun e he hbd=>hed e (by simpa using he) hbd
  have before:∀ m' it',its[m']?=some it'→m' < k→xo_ listed m'=false→kQ_ it'.tr it.tr=true:=by
   intro m' it' hm hlt hd
   rcases akc_ hok k m' it.tr it'.tr b hitr hb (by simpa using hlt) (by rw [List.nil_append,List.getElem?_map,hm];rfl) with h1 | h1
   ·rw [aKs_ hcl ho hed' hb h1] at hd;cases hd
   ·exact h1
  have behind:∀ m' it',its[m']?=some it'→k < m'→xo_ listed m'=true→kQ_ it.tr it'.tr=true:=by
   intro m' it' hm hlt hd
   have hml:m' < ops.size:=by rw [← hlen];exact (List.getElem?_eq_some_iff.1 hm).1
   obtain ⟨b',hb'⟩:∃ b',(xM_ [] ops.toList)[m']?=some b':=⟨_,List.getElem?_eq_getElem (by omega)⟩
   rcases akc_ hok m' k it'.tr it.tr b' (by rw [List.getElem?_map,hm];rfl) hb' (by simpa using hlt) (by rw [List.nil_append];exact hitr) with h1 | h1
   ·rw [ayi_ hcl m' b' k hd hb' h1] at hkd;cases hkd
   ·exact h1
  have hread:∀ r∈it.rd,(stD (xo_ listed) 0 s0 its).get r=(stD (fun _=>true) 0 s0 (its.take k)).get r:=by
   intro r hr
   refine avh_ rfl (by omega) (fun m' it' hm hlt hd=>?_) (fun m' it' hm hle hd=>?_)
   ·rw [Nat.zero_add] at hd;exact (ag8_ (before m' it' hm hlt hd)).1 r hr
   ·rw [Nat.zero_add] at hd
    by_cases he:m'=k
    ·subst he;rw [hkd] at hd;cases hd
    ·exact (ag8_ (behind m' it' hm (by omega) hd)).2.2 r hr
  have hfresh:∀ j,it.lo≤j→j < it.hi→¬ MD c0 its (xo_ listed) j:=by
   rintro j h1 h2 (h3 | ⟨m,it',hm,hd,h3,h4⟩)
   ·omega
   ·rcases Nat.lt_trichotomy m k with hlt | heq | hgt
    ·have:=hc.apart m k it' it hm hit hlt;omega
    ·subst heq;rw [hkd] at hd;cases hd
    ·have:=hc.apart k m it it' hit hm hgt;omega
  rw [Nat.zero_add] at g1
  refine g1 (MD c0 its (xo_ listed)) (stD (xo_ listed) 0 s0 its) G a w _ hread hrel hnt hfresh fun G' a' w' hr' hs'=>?_
  have hadd:=aFu_ (i:=k) hkl
  refine ih (listed.setIfInBounds k true) a' w' (by simp [hs]) ?_ ?_ ?_ hs'
  ·have:=aio_ listed.toList k (by
    unfold xo_ at hkd
    rw [Array.getD_eq_getD_getElem?,← Array.getElem?_toList] at hkd
    rw [List.getElem?_eq_getElem (by simpa using hkl)] at hkd ⊢
    simpa using hkd)
   rw [Array.toList_setIfInBounds]
   omega
  ·rw [hadd]
   intro j oj hj hoj e he hbd
   unfold addD at hj ⊢
   by_cases hjk:j=k
   ·subst hjk
    rw [ho] at hoj
    cases hoj
    by_cases hek:e.on=j
    ·simp [hek]
    ·rw [if_neg hek];exact hed' e he hbd
   ·rw [if_neg hjk] at hj
    by_cases hek:e.on=k
    ·simp [hek]
    ·rw [if_neg hek];exact hcl j oj hj hoj e he hbd
  ·refine ⟨G',?_⟩
   rw [hadd]
   refine (hr'.mono ?_).congr fun r=>?_
   ·rintro j (h1 | ⟨h1,h2⟩)
    ·rcases h1 with h1 | ⟨m,it',hm,hd,h3⟩
     ·exact .inl h1
     ·exact .inr ⟨m,it',hm,by unfold addD;split <;> simp_all,h3⟩
    ·exact .inr ⟨k,it,hit,by simp [addD],h1,h2⟩
   ·have:=aDe_ (D:=xo_ listed) (i:=0) hit (by rw [Nat.zero_add];exact hkd) (s:=s0) (fun m' it' hm hlt hd r=>by
     rw [Nat.zero_add] at hd
     rcases (ag8_ (behind m' it' hm hlt hd)).2.1 r with h1 | h1
     ·exact .inr h1
     ·exact .inl h1) r
    rw [Nat.zero_add] at this
    exact this.symm
end
section
variable {B:Base} {f:Fr} {S:Nat→Sem1} {P:Program} {cx:Cx} {into:Into} {fid rid:Nat} {R:Nat} {Q:Exit→Act→World→Prop} {ops:Array Oper} {out:List T} {K0:Zb}
theorem ar1_ (E:Env P cx S) (hn:∀ o∈ops.toList,∀ n,o.dst=some n→n < f.nt) {fin:List Tr→KP} {K:List Sem1} :
  ∀ (os:List Oper) (i:Nat) (tr:List Tr) (lv:Nat) (s:St) (ct:Ct) (fs:yQ_) (p:PL) (ρ:List T),ops.toList.drop i=os→aaq_ cx into fid rid f.d ops true fin os i tr lv s ct fs=some p →
   p.den S R K ρ=some out→ρ.length=ct.a→FactsOk fs ρ→∃ its ct' e s' fs' p',its.length=os.length ∧
    (∀ e',Chain (fun i it s=>af7_ P ops Q B f.d f.up f.nt (ρ++e++e') i it.rd it.wr it.lo it.hi s) i s ct.i its s' ct'.i) ∧
    fin (tr++its.map Item.tr) lv s' ct' fs'=some p'∧p'.den S R K (ρ++e)=some out∧(ρ++e).length=ct'.a∧FactsOk fs' (ρ++e)
 | [],i,tr,lv,s,ct,fs,p,ρ,_,h,hp,hl,hf=>by
  refine ⟨[],ct,[],s,fs,p,rfl,fun e'=>.nil,?_,by rw [List.append_nil];exact hp,by rw [List.append_nil];exact hl,by rw [List.append_nil];exact hf⟩
  rw [List.map_nil,List.append_nil];exact h
 | o :: os,i,tr,lv,s,ct,fs,p,ρ,hos,h,hp,hl,hf=>by
  have ho:ops[i]?=some o:=by
   rw [← Array.getElem?_toList]
   have:=congrArg (·[0]?) hos
   simpa using this
  have hn':=hn o (List.mem_of_mem_drop (i:=i) (by rw [hos];simp))
  have hos':ops.toList.drop (i+1)=os:=by
   rw [← List.drop_drop,hos];rfl
  rcases aDq_ (P:=P) (Q:=Q) (B:=B) (up:=f.up) (nt:=f.nt) (R:=R) (K:=K) (out:=out) E ho hn' (show oneO cx into fid rid f.d ops true o i (aaq_ cx into fid rid f.d ops true fin os (i+1)) tr lv s ct fs=some p from h) hp hl hf with
   ⟨rd,wr,ct',e,fs',p',hit,hle,hrc,hp',hl',hf'⟩ | ⟨hd,_⟩
  ·obtain ⟨its,ct2,e2,s2,fs2,p2,q1,q2,q3,q4,q5,q6⟩:=ar1_ E hn os (i+1) _ lv _ ct' fs' p' (ρ++e) hos' hrc hp' hl' hf'
   refine ⟨⟨rd,wr,ct.i,ct'.i⟩ :: its,ct2,e++e2,s2,fs2,p2,by simp [q1],fun e'=>.cons ?_ rfl hle ?_,?_,by rw [← List.append_assoc];exact q4,by rw [← List.append_assoc];exact q5,by rw [← List.append_assoc];exact q6⟩
   ·have:=hit (e2++e')
    simp only [List.append_assoc] at this ⊢
    exact this
   ·have:=q2 e'
    simp only [List.append_assoc] at this ⊢
    exact this
   ·simp only [List.map_cons,Item.tr]
    rw [List.append_assoc] at q3
    exact q3
  ·cases hd
theorem Rel.drew {M:Nat→Prop} {d:Nat} {up:Nat→Nat→Value} {s:St} {ρ:List T} {G:Gh} {a:Act} {w:World} (h:Rel M B d up s ρ G a w):Rel M B d up s ρ G a { w with drawn:=w.drawn+1 }:=by
 have k:Keep (fun _=>False) (fun _=>False) G w G { w with drawn:=w.drawn+1 }:=⟨Nat.le_refl _,fun _ _ h=>⟨h,rfl⟩,fun _ _ h _=>⟨h,rfl⟩,fun _ _=>⟨rfl,fun _ _=>rfl⟩⟩
 exact ⟨fun e n he=>(h.tm e n he).keep k fun _ _ hf=>hf,fun b=>(h.bx b).keep k (fun hf=>hf) (fun hf=>hf) fun _ _ hf=>hf,fun i=>(h.ob i).keep k (fun _ hf=>hf) fun hf=>hf,h.ment,h.key,h.lab,h.dn,
  ⟨h.base.os,h.base.tape,h.base.output,h.base.size,h.base.free,h.base.frn⟩,h.bt⟩
theorem ar4_ (E:Env P cx S) (hI:apa_ P S R out B into) (hmx:P.follows .mixedOrders=true) (hn:∀ o∈ops.toList,∀ n,o.dst=some n→n < f.nt) {id:Nat} {draw:Bool} {k:KP} (hk:Snd S R out B f K0 k (Q .normal))
  {lv:Nat} {s:St} {ct:Ct} {fs:yQ_} {p:PL} {a:Act} {w:World}
  (h:aaq_ cx into fid rid f.d ops draw (fun tr lv s ct fs=>bif draw then bif ag6_ [] tr (xM_ [] ops.toList) && aiq_ 0 ops.toList then k lv s ct fs else some (.dbg (fid * 100000000+100000+id) []) else k lv s ct fs) ops.toList 0 [] lv s ct fs=some p)
  (hat:At S R out B f K0 XT p lv s ct fs a w):(Code.region id ops draw).wp P Q a w:=by
 cases draw with
 | false =>
  refine wp_region ?_
  rw [List.range_eq_range',← Array.length_toList]
  exact aIm_ E hI hn (fin:=fun tr lv s ct fs=>k lv s ct fs) (fun tr=>hk) ops.toList 0 [] lv s ct fs p a w rfl h hat
 | true =>
  refine wp_region_any hmx ?_
  obtain ⟨K,ρ,G,h1,h2,h3,⟨e0,h0⟩,h4,h5,h6,h7,_⟩:=hat
  obtain ⟨its,ct',e,s',fs',p',q1,q2,q3,q4,q5,q6⟩:=ar1_ (Q:=Q) (B:=B) E hn ops.toList 0 [] lv s ct fs p ρ rfl h h1 h4 h5
  simp only [List.nil_append,cond_true] at q3
  cases hc:(ag6_ [] (its.map Item.tr) (xM_ [] ops.toList) && aiq_ 0 ops.toList) with
  | false =>
   rw [hc] at q3
   simp only [cond_false,Option.some.injEq] at q3
   subst q3
   cases q4
  | true =>
   rw [hc] at q3
   simp only [cond_true] at q3
   simp only [Bool.and_eq_true] at hc
   have hch:=q2 []
   rw [List.append_nil] at hch
   have hnone:∀ j,xo_ (Array.replicate ops.size false) j=false:=by
    intro j
    unfold xo_
    rw [Array.getD_eq_getD_getElem?,Array.getElem?_replicate]
    split <;> rfl
   refine aMb_ (B:=B) hch (by rw [q1];simp) hc.1 hc.2 (fun G a w hr hs=>hk lv s' ct' fs' p' a w q3 ⟨K,ρ++e,G,q4,h2,h3,⟨e0++e,by rw [h0,List.append_assoc]⟩,q5,q6,hr,hs,trivial⟩) ops.size _ a _ (by simp)
    (by rw [Array.toList_replicate,ap2_];exact Nat.le_refl _) (fun j o hj=>by rw [hnone j] at hj;cases hj) ⟨G,?_⟩ h7
   rw [au3_ fun m _=>hnone _]
   exact (h6.ext.drew).mono fun i hi=>.inl hi
end
theorem Lf.beq_eq {x y:Lf} (h:x.beq y=true):x=y:=by
 cases x with
 | k v =>
  cases y with
  | k u=>cases v <;> cases u <;> simp_all [Lf.beq]
  | a m=>simp [Lf.beq] at h
  | e=>simp [Lf.beq] at h
 | a n =>
  cases y with
  | a m=>simp [Lf.beq] at h;rw [h]
  | k u=>simp [Lf.beq] at h
  | e=>simp [Lf.beq] at h
 | e=>cases y <;> simp [Lf.beq] at h;rfl
theorem akv_:∀ {p q:Pth},aby_ p q=true→p=q
 | [],[],_=>rfl
 | (x,w,j) :: p,(x',w',j') :: q,h=>by
  simp only [aby_,Bool.and_eq_true] at h
  obtain ⟨⟨⟨h1,h2⟩,h3⟩,h4⟩:=h
  rw [Lf.beq_eq h1,Nat.eq_of_beq_eq_true h2,Nat.eq_of_beq_eq_true h3,akv_ h4]
 | [],_ :: _,h=>by simp [aby_] at h
 | _ :: _,[],h=>by simp [aby_] at h
theorem Ce.beq_eq {c e:Ce} (h:c.beq e=true):c=e:=by
 cases c <;> cases e <;> simp only [Ce.beq,Bool.and_eq_true] at h <;> try cases h
 ·rw [Lf.beq_eq h]
 ·rename_i h1 h2;rw [Nat.eq_of_beq_eq_true h1,akv_ h2]
 ·rfl
 ·rfl
theorem ans_:∀ {cs es:List Ce},ais_ cs es=true→cs=es
 | [],[],_=>rfl
 | c :: cs,e :: es,h=>by simp only [ais_,Bool.and_eq_true] at h;rw [Ce.beq_eq h.1,ans_ h.2]
 | [],_ :: _,h=>by simp [ais_] at h
 | _ :: _,[],h=>by simp [ais_] at h
theorem axm_:∀ {cs es:List Nat},all_ cs es=true→cs=es
 | [],[],_=>rfl
 | c :: cs,e :: es,h=>by simp only [all_,Bool.and_eq_true] at h;rw [Nat.eq_of_beq_eq_true h.1,axm_ h.2]
 | [],_ :: _,h=>by simp [all_] at h
 | _ :: _,[],h=>by simp [all_] at h
theorem ayp_:∀ {cs es:List (Bool × List Ce)},aly_ cs es=true→cs=es
 | [],[],_=>rfl
 | (a,c) :: cs,(b,e) :: es,h=>by
  simp only [aly_,Bool.and_eq_true,beq_iff_eq] at h
  rw [h.1.1,ans_ h.1.2,ayp_ h.2]
 | [],_ :: _,h=>by simp [aly_] at h
 | _ :: _,[],h=>by simp [aly_] at h
theorem SV.beq_eq {v u:SV} (h:v.beq u=true):v=.un∨v=u:=by
 cases v with
 | un=>exact .inl rfl
 | v a cs =>
  cases u with
  | v b es=>simp only [SV.beq,Bool.and_eq_true,beq_iff_eq] at h;rw [h.1,ans_ h.2];exact .inr rfl
  | _=>simp [SV.beq] at h
 | pt b o =>
  cases u with
  | pt b o=>simp only [SV.beq,Bool.and_eq_true] at h;rw [Nat.eq_of_beq_eq_true h.1,Nat.eq_of_beq_eq_true h.2];exact .inr rfl
  | _=>simp [SV.beq] at h
 | ep i q x w o =>
  cases u with
  | ep i q x w o =>
   simp only [SV.beq,Bool.and_eq_true] at h
   obtain ⟨⟨⟨⟨h1,h2⟩,h3⟩,h4⟩,h5⟩:=h
   rw [Nat.eq_of_beq_eq_true h1,akv_ h2,Lf.beq_eq h3,Nat.eq_of_beq_eq_true h4,Nat.eq_of_beq_eq_true h5];exact .inr rfl
  | _=>simp [SV.beq] at h
 | fp s x w o =>
  cases u with
  | fp s x w o =>
   simp only [SV.beq,Bool.and_eq_true] at h
   obtain ⟨⟨⟨h1,h2⟩,h3⟩,h4⟩:=h
   rw [Lf.beq_eq h1,Lf.beq_eq h2,Nat.eq_of_beq_eq_true h3,Nat.eq_of_beq_eq_true h4];exact .inr rfl
  | _=>simp [SV.beq] at h
 | tp vs =>
  cases u with
  | tp us=>simp only [SV.beq] at h;rw [ayp_ h];exact .inr rfl
  | _=>simp [SV.beq] at h
 | cl f bs =>
  cases u with
  | cl f bs=>simp only [SV.beq,Bool.and_eq_true] at h;rw [Nat.eq_of_beq_eq_true h.1,axm_ h.2];exact .inr rfl
  | _=>simp [SV.beq] at h
 | ob d x =>
  cases u with
  | ob d x=>simp only [SV.beq,Bool.and_eq_true,beq_iff_eq] at h;rw [h.1,Lf.beq_eq h.2];exact .inr rfl
  | _=>simp [SV.beq] at h
 | fz x =>
  cases u with
  | fz x=>simp only [SV.beq] at h;rw [Lf.beq_eq h];exact .inr rfl
  | _=>simp [SV.beq] at h
def Agr (n:Nat) (ρ ρ':List T):Prop:=∀ m,m < n→ρ[m]?=ρ'[m]?
theorem uS_ {a b:Nat} (h:Nat.blt a b=true):a < b:=Nat.lt_of_succ_le (by simpa [Nat.blt] using h)
section
variable {G:Gh} {w:World} {ρ ρ':List T} {n i:Nat}
theorem Lf.evo_agr (ha:Agr n ρ ρ') {x:Lf} (h:x.bel n=true):x.evo ρ=x.evo ρ':=by
 cases x with
 | k v=>rfl
 | a m=>exact ha m (uS_ h)
 | e=>rfl
theorem aj7_ (ha:Agr n ρ ρ') {x:Lf} (h:x.bel n=true):x5_ ρ x=x5_ ρ' x:=by unfold x5_;rw [Lf.evo_agr ha h]
theorem avl_ (ha:Agr n ρ ρ'):∀ {q:Pth},af5_ n q=true→pthO ρ q=pthO ρ' q
 | [],_=>rfl
 | (x,w,j) :: q,h=>by
  simp only [af5_,Bool.and_eq_true] at h
  simp only [pthO,aj7_ ha h.1,avl_ ha h.2]
theorem aw9_ (ha:Agr n ρ ρ') {id:Nat} {q:Pth} (h:af5_ n q=true):pthI ρ id q=pthI ρ' id q:=by
 cases q with
 | nil=>rfl
 | cons x q=>simp only [pthI];rw [avl_ ha h]
theorem RelCe.agr (ha:Agr n ρ ρ') {c:Ce} {v:Value} (hb:c.bel n i=true) (h:RelCe G w ρ c v):RelCe G w ρ' c v:=by
 cases c with
 | p x=>obtain ⟨t,h1,h2⟩:=h;exact ⟨t,by rw [← Lf.evo_agr ha hb];exact h1,h2⟩
 | o id q =>
  simp only [Ce.bel,Bool.and_eq_true] at hb
  obtain ⟨p,h1,h2⟩:=h
  exact ⟨p,by rw [← aw9_ ha hb.2];exact h1,h2⟩
 | n=>exact h
 | d=>exact h
theorem RelCs.agr (ha:Agr n ρ ρ'):∀ {cs:List Ce} {vs:List Value},ku_ n i cs=true→RelCs G w ρ cs vs→RelCs G w ρ' cs vs
 | [],[],_,_=>trivial
 | c :: cs,v :: vs,hb,h=>by
  simp only [ku_,Bool.and_eq_true] at hb
  exact ⟨h.1.agr ha hb.1,RelCs.agr ha hb.2 h.2⟩
 | [],_ :: _,_,h=>h.elim
 | _ :: _,[],_,h=>h.elim
theorem RelVal.agr (ha:Agr n ρ ρ') {ag:Bool} {cs:List Ce} {c:Value} (hb:ku_ n i cs=true) (h:RelVal G w ρ ag cs c):RelVal G w ρ' ag cs c:=by
 cases ag with
 | true=>obtain ⟨vs,h1,h2⟩:=h;exact ⟨vs,h1,h2.agr ha hb⟩
 | false =>
  obtain ⟨x,rfl,h2,h3⟩:=h
  simp only [ku_,Bool.and_true] at hb
  exact ⟨x,rfl,h2.agr ha hb,h3⟩
theorem RelTp.agr (ha:Agr n ρ ρ'):∀ {cs:List (Bool × List Ce)} {vs:List Value},als_ n i cs=true→RelTp G w ρ cs vs→RelTp G w ρ' cs vs
 | [],[],_,_=>trivial
 | c :: cs,v :: vs,hb,h=>by
  simp only [als_,Bool.and_eq_true] at hb
  exact ⟨h.1.agr ha hb.1,RelTp.agr ha hb.2 h.2⟩
 | [],_ :: _,_,h=>h.elim
 | _ :: _,[],_,h=>h.elim
theorem RelSV.agr (ha:Agr n ρ ρ') {v:SV} {c:Value} (hb:v.bel n i=true) (h:RelSV G w ρ v c):RelSV G w ρ' v c:=by
 cases v with
 | un=>trivial
 | v ag cs=>exact RelVal.agr ha hb h
 | pt b off=>exact h
 | ep id q ix wd off =>
  simp only [SV.bel,Bool.and_eq_true] at hb
  obtain ⟨p,b,m,cap,j,h1,h2,h3,h4⟩:=h
  exact ⟨p,b,m,cap,j,by rw [← aw9_ ha hb.1.2];exact h1,h2,by rw [← aj7_ ha hb.2];exact h3,h4⟩
 | fp s ix wd off =>
  simp only [SV.bel,Bool.and_eq_true] at hb
  obtain ⟨xs,j,r,b,base,h1,h2,h3⟩:=h
  exact ⟨xs,j,r,b,base,by rw [← Lf.evo_agr ha hb.1];exact h1,by rw [← aj7_ ha hb.2];exact h2,h3⟩
 | tp vs=>obtain ⟨us,h1,h2⟩:=h;exact ⟨us,h1,h2.agr ha hb⟩
 | cl f bs=>exact h
 | ob dp x=>exact h
 | fz x=>exact h
theorem RelBox.agr (ha:Agr n ρ ρ') {b:Nat} {v:SV} (hb:v.bel n i=true) (h:RelBox G w ρ b v):RelBox G w ρ' b v:=by
 cases v with
 | v ag cs=>obtain ⟨h1,arr,elem,h2,h3⟩:=h;exact ⟨h1,arr,elem,h2,h3.agr ha hb⟩
 | _=>exact h
theorem RelObj.agr (ha:Agr n ρ ρ') {b:Nat} {v:SV} (hb:v.bel n i=true) (h:RelObj G w ρ b v):RelObj G w ρ' b v:=by
 cases v with
 | ob dp x=>obtain ⟨t,h1,h2⟩:=h;exact ⟨t,by rw [← Lf.evo_agr ha hb];exact h1,h2⟩
 | fz x=>obtain ⟨t,h1,h2⟩:=h;exact ⟨t,by rw [← Lf.evo_agr ha hb];exact h1,h2⟩
 | _=>exact h
theorem uv_:∀ {cs:List Ce},ku_ n i cs=true→∀ j∈zq_ cs,j < i
 | [],_,j,hj=>by simp [zq_] at hj
 | c :: cs,h,j,hj=>by
  simp only [ku_,Bool.and_eq_true] at h
  cases c with
  | o id q =>
   simp only [Ce.bel,Bool.and_eq_true] at h
   simp only [zq_,List.mem_cons] at hj
   rcases hj with rfl | hj
   ·exact uS_ h.1.1
   ·exact uv_ h.2 j hj
  | p x=>exact uv_ h.2 j hj
  | n=>exact uv_ h.2 j hj
  | d=>exact uv_ h.2 j hj
theorem asm_:∀ {vs:List (Bool × List Ce)},als_ n i vs=true→∀ j∈vb_ vs,j < i
 | [],_,j,hj=>by simp [vb_] at hj
 | v :: vs,h,j,hj=>by
  simp only [als_,Bool.and_eq_true] at h
  simp only [vb_,List.mem_append] at hj
  rcases hj with hj | hj
  ·exact uv_ h.1 j hj
  ·exact asm_ h.2 j hj
theorem SV.bel_ids {v:SV} (h:v.bel n i=true):∀ j∈zs_ v,j < i:=by
 intro j hj
 cases v with
 | un=>simp [zs_] at hj
 | v ag cs=>exact uv_ h j hj
 | pt b off=>simp [zs_] at hj;subst hj;exact uS_ h
 | ep id q ix wd off=>simp [zs_] at hj;subst hj;simp only [SV.bel,Bool.and_eq_true] at h;exact uS_ h.1.1
 | fp s ix wd off=>simp [zs_] at hj
 | tp vs=>exact asm_ h j hj
 | cl f bs=>simp only [SV.bel,List.all_eq_true] at h;exact uS_ (h j (by simpa [zs_] using hj))
 | ob dp x=>simp [zs_] at hj
 | fz x=>simp [zs_] at hj
end
theorem aqh_ {i0 i1:Nat} {all:Ren}:∀ {rn:Ren},aqp_ i0 i1 all rn=true→∀ j x,(j,x)∈rn→i0≤j∧j < i1∧∀ id,x=some id→wc_ all id=some j
 | [],_,j,x,h=>by simp at h
 | (j0,x0) :: rn,h,j,x,hm=>by
  simp only [aqp_,Bool.and_eq_true] at h
  obtain ⟨⟨⟨h1,h2⟩,h3⟩,h4⟩:=h
  rcases List.mem_cons.1 hm with hm | hm
  ·cases hm
   refine ⟨Nat.le_of_ble_eq_true h1,uS_ h2,fun id he=>?_⟩
   subst he
   simp only at h3
   split at h3
   ·rename_i k hk;rw [hk,Nat.eq_of_beq_eq_true h3]
   ·cases h3
  ·exact aqh_ h4 j x hm
theorem amv_ {s:St} {a0 i0:Nat} {rn:Ren}:∀ {h:St},alr_ s a0 i0 rn h=true→∀ r v,(r,v)∈h→v=.un∨(v=s.get r∧v.bel a0 i0=true∧(∀ id,r=.o id→id < i0∧wc_ rn id=none)∧∀ b,r=.x b→b < i0)
 | [],_,r,v,hm=>by simp at hm
 | (r0,v0) :: h,hc,r,v,hm=>by
  simp only [alr_,Bool.and_eq_true] at hc
  rcases List.mem_cons.1 hm with hm | hm
  ·obtain ⟨rfl,rfl⟩:=Prod.mk.inj hm
   have hc1:=hc.1
   rw [Bool.or_eq_true] at hc1
   rcases hc1 with hu | h4
   ·cases v <;> first | exact .inl rfl | cases hu
   ·simp only [Bool.and_eq_true] at h4
    obtain ⟨⟨h1,h2⟩,h3⟩:=h4
    rcases SV.beq_eq h1 with hu | he
    ·exact .inl hu
    ·refine .inr ⟨he,h2,fun id he=>?_,fun b he=>?_⟩
     ·subst he
      simp only [aO0_,Bool.and_eq_true] at h3
      refine ⟨uS_ h3.1,?_⟩
      have h4:=h3.2
      split at h4
      ·rename_i hn;exact hn
      ·cases h4
     ·subst he;exact uS_ h3
  ·exact amv_ hc.2 r v hm
theorem kI_ {a0:Nat} {xs:List Lf} {n:Nat} {x:Lf} (h:isAt a0 xs n x=true) {ρ0 ρ:List T} (hl:ρ0.length=a0):(ρ0++xs.map (Lf.ev ρ))[n]?=some (x.ev ρ):=by
 simp only [isAt,Bool.and_eq_true] at h
 have h1:=Nat.le_of_ble_eq_true h.1
 have h2:=h.2
 split at h2
 ·rename_i y hy
  rw [List.getElem?_append_right (by omega),hl,List.getElem?_map,hy,Lf.beq_eq h2]
  rfl
 ·cases h2
theorem apv_ {s:St} {a0 i0:Nat} {xs:List Lf} {rn:Ren}:∀ {h:St},afq_ s a0 i0 xs rn h=true→∀ r v,(r,v)∈h→∃ j dp n,r=.o j∧v=.ob dp (.a n) ∧
  ((∃ id x,xN_ rn j=some (some id)∧s.get (.o id)=.ob dp x∧isAt a0 xs n x=true)∨(xN_ rn j=some none∧isAt a0 xs n .e=true) ∨
   (∃ x,xN_ rn j=none∧j < i0∧wc_ rn j=none∧s.get (.o j)=.ob dp x∧isAt a0 xs n x=true))
 | [],_,r,v,hm=>by simp at hm
 | (r0,v0) :: h,hc,r,v,hm=>by
  have hc2:afq_ s a0 i0 xs rn h=true:=by
   unfold afq_ at hc
   split at hc
   ·rename_i he;cases he
   ·rename_i j dp n ps he;cases he;simp only [Bool.and_eq_true] at hc;exact hc.2
   ·cases hc
  rcases List.mem_cons.1 hm with hm | hm
  ·cases hm
   unfold afq_ at hc
   split at hc
   ·rename_i he;cases he
   ·rename_i j dp n ps he
    cases he
    simp only [Bool.and_eq_true] at hc
    refine ⟨j,dp,n,rfl,rfl,?_⟩
    have h1:=hc.1
    split at h1
    ·rename_i id hid
     simp only [Bool.and_eq_true] at h1
     have h2:=h1.2
     split at h2
     ·rename_i dp' x hx
      simp only [Bool.and_eq_true,beq_iff_eq] at h2
      exact .inl ⟨id,x,hid,by rw [h2.1];exact hx,h2.2⟩
     ·cases h2
    ·rename_i hid
     simp only [Bool.and_eq_true] at h1
     exact .inr (.inl ⟨hid,h1.2⟩)
    ·rename_i hid
     simp only [Bool.and_eq_true] at h1
     obtain ⟨⟨h2,h3⟩,h4⟩:=h1
     have h3':wc_ rn j=none:=by
      split at h3
      ·rename_i hn;exact hn
      ·cases h3
     split at h4
     ·rename_i dp' x hx
      simp only [Bool.and_eq_true,beq_iff_eq] at h4
      exact .inr (.inr ⟨x,hid,uS_ h2,h3',by rw [h4.1];exact hx,h4.2⟩)
     ·cases h4
   ·cases hc
  ·exact apv_ hc2 r v hm
theorem aqb_ {s:St} {a0 i0:Nat} {xs:List Lf} {rn:Ren}:∀ {h:St},agb_ s a0 i0 xs rn h=true→∀ r v,(r,v)∈h→∃ ag hs cs,v=.v ag hs∧s.get r=.v ag cs∧kr_ s a0 i0 xs rn cs hs=true∧(∀ j,r≠.o j)∧∀ b,r=.x b→b < i0
 | [],_,r,v,hm=>by simp at hm
 | (r0,v0) :: h,hc,r,v,hm=>by
  have hc2:agb_ s a0 i0 xs rn h=true:=by
   unfold agb_ at hc
   split at hc
   ·rename_i he;cases he
   ·rename_i he;cases he;simp only [Bool.and_eq_true] at hc;exact hc.2
   ·cases hc
  rcases List.mem_cons.1 hm with hm | hm
  ·cases hm
   unfold agb_ at hc
   split at hc
   ·rename_i he;cases he
   ·rename_i r' ag hs ps he
    cases he
    simp only [Bool.and_eq_true] at hc
    obtain ⟨⟨h1,h2⟩,_⟩:=hc
    split at h2
    ·rename_i ag' cs hcs
     simp only [Bool.and_eq_true,beq_iff_eq] at h2
     refine ⟨ag,hs,cs,rfl,by rw [h2.1];exact hcs,h2.2,(fun j he=>by subst he;cases h1),fun b he=>by subst he;exact uS_ h1⟩
    ·cases h2
   ·cases hc
  ·exact aqb_ hc2 r v hm
def Gh.meet (G:Gh) (i0:Nat) (rn:Ren):Gh where
 ω:=fun b=>match G.ω b with
  | some .f=>some .f
  | some (.x j)=>if j < i0 then some (.x j) else none
  | some (.o j p)=>match wc_ rn j with
   | some k=>some (.o k p)
   | none=>if j < i0 then some (.o j p) else none
  | none=>none
 β:=G.β
 H:=fun j=>match xN_ rn j with
  | some (some id)=>G.H id
  | some none=>fun _=>.slice none 0 0
  | none=>G.H j
 hs:=fun j p=>by
  rcases hr:xN_ rn j with _ | (_ | id)
  ·exact G.hs j p
  ·exact ⟨_,_,_,rfl⟩
  ·exact G.hs _ p
section
variable {M:Nat→Prop} {B:Base} {d:Nat} {up:Nat→Nat→Value} {ρ:List T} {G:Gh} {a:Act} {w:World} {s:St}
theorem Rel.acts:∀ {l:List (Nat × Bool)} {s:St} {G:Gh},Rel M B d up s ρ G a w→∃ G',Rel M B d up (aap_ s l) ρ G' a w∧Less G G'
 | [],s,G,h=>⟨G,h,.refl _⟩
 | (id,all) :: l,s,G,h=>by
  simp only [aap_]
  split
  ·rename_i dp x hx
   cases all with
   | true=>obtain ⟨G',h1,h2⟩:=Rel.acts (l:=l) (h.thaw hx);exact ⟨G',h1,(G.free_less id true).trans h2⟩
   | false=>obtain ⟨G',h1,h2⟩:=Rel.acts (l:=l) (h.flat hx);exact ⟨G',h1,(G.free_less id false).trans h2⟩
  ·exact Rel.acts (l:=l) h
theorem Rel.thawAt:∀ {js:List (Nat × Bool)} {cs:List Ce} {s:St} {G:Gh},Rel M B d up s ρ G a w→∃ G',Rel M B d up (Go.Proofs.YtiebbbmibbkpcaaGreatC.thawAt s cs js) ρ G' a w
 | [],cs,s,G,h=>⟨G,h⟩
 | (j,all) :: js,cs,s,G,h=>by
  simp only [Go.Proofs.YtiebbbmibbkpcaaGreatC.thawAt]
  split
  ·split
   ·rename_i dp x hx
    cases all with
    | true=>exact Rel.thawAt (js:=js) (h.thaw hx)
    | false=>exact Rel.thawAt (js:=js) (h.flat hx)
   ·exact Rel.thawAt (js:=js) h
  ·exact Rel.thawAt (js:=js) h
theorem Rel.thawJs {d':Nat}:∀ {js:Js} {s:St} {G:Gh},Rel M B d up s ρ G a w→∃ G',Rel M B d up (Go.Proofs.YtiebbbmibbkpcaaGreatC.thawJs d' s js) ρ G' a w
 | [],s,G,h=>⟨G,h⟩
 | (n,bx,.rows js) :: l,s,G,h=>by
  simp only [Go.Proofs.YtiebbbmibbkpcaaGreatC.thawJs]
  obtain ⟨G',h'⟩:=h.thawAt (js:=js) (cs:=svCs (s.get (abl_ d' s n bx)))
  exact Rel.thawJs (js:=l) h'
 | (n,bx,.drop) :: l,s,G,h=>Rel.thawJs (js:=l) h
 | (n,bx,.phi _ _) :: l,s,G,h=>Rel.thawJs (js:=l) h
theorem art_ {a0 i0 i1:Nat} {xs:List Lf} {rn:Ren} (hi:∀ j x,xN_ rn j=some x→j < i1) (hi01:i0≤i1):∀ {cs hs:List Ce},kr_ s a0 i0 xs rn cs hs=true→∀ j∈zq_ hs,j < i1
 | [],[],_,j,hj=>by simp [zq_] at hj
 | c :: cs,h :: hs,hc,j,hj=>by
  simp only [kr_,Bool.and_eq_true] at hc
  rw [x4_] at hj
  rcases List.mem_append.1 hj with hj | hj
  ·have h1:=hc.1
   unfold aG4_ at h1
   rw [Bool.or_eq_true] at h1
   rcases h1 with h1 | h1
   ·simp only [Bool.and_eq_true] at h1
    exact Nat.lt_of_lt_of_le (uv_ (n:=a0) (i:=i0) (by simp [ku_,h1.2]) j hj) hi01
   ·split at h1
    ·simp [zq_] at hj
    ·simp [zq_] at hj
    ·simp [zq_] at hj
    ·simp only [Bool.and_eq_true] at h1
     have h2:=h1.2
     split at h2
     ·rename_i hro;simp [zq_] at hj;subst hj;exact hi _ _ hro
     ·cases h2
    ·simp only [Bool.and_eq_true] at h1
     have h2:=h1.2
     split at h2
     ·rename_i hro;simp [zq_] at hj;subst hj;exact hi _ _ hro
     ·cases h2
    ·simp [zq_] at hj
    ·cases h1
  ·exact art_ hi hi01 hc.2 j hj
 | [],_ :: _,hc,_,_=>by simp [kr_] at hc
 | _ :: _,[],hc,_,_=>by simp [kr_] at hc
theorem as0_ {G':Gh} {a0 i0:Nat} {xs:List Lf} {rn:Ren} {ρ0 e:List T} (hr:Rel M B d up s (ρ0++e) G a w) (hl:ρ0.length=a0) (k:Keep (fun l=>True) (fun j=>¬ j < i0) G w G' w)
  (hH:∀ j x,xN_ rn j=some x→G'.H j=match x with | some id=>G.H id | none=>fun _=>.slice none 0 0) :
  ∀ {cs hs:List Ce} {vs:List Value},kr_ s a0 i0 xs rn cs hs=true→RelCs G w (ρ0++e) cs vs→RelCs G' w (ρ0++xs.map (Lf.ev (ρ0++e))) hs vs
 | [],[],[],_,_=>trivial
 | c :: cs,h :: hs,v :: vs,hc,hrel=>by
  simp only [kr_,Bool.and_eq_true] at hc
  refine ⟨?_,as0_ hr hl k hH hc.2 hrel.2⟩
  have hagr:Agr a0 (ρ0++e) (ρ0++xs.map (Lf.ev (ρ0++e))):=fun m hm=>by
   rw [List.getElem?_append_left (by omega),List.getElem?_append_left (by omega)]
  have h1:=hc.1
  have hrc:=hrel.1
  clear hc hrel
  unfold aG4_ at h1
  rw [Bool.or_eq_true] at h1
  rcases h1 with h1 | h1
  ·simp only [Bool.and_eq_true] at h1
   have:=Ce.beq_eq h1.1
   subst this
   have hb:∀ j∈zq_ [h],j < i0:=uv_ (n:=a0) (by simp [ku_,h1.2])
   exact (hrc.agr hagr h1.2).keep k fun j hj hn=>hn (hb j hj)
  ·split at h1
   ·rename_i n x
    obtain ⟨t,ht,hd⟩:=hrc
    exact ⟨t,by rw [← Lf.evo_ev ht];exact kI_ h1 hl,hd.keep k.size k.free⟩
   ·rename_i n
    have hv:v=.slice none 0 0:=hrc
    subst hv
    exact ⟨.l [],kI_ h1 hl,.nil⟩
   ·rename_i n id
    split at h1
    ·rename_i x hx
     have hob:=hr.ob id
     rw [hx] at hob
     obtain ⟨t,ht,hd⟩:=hob
     obtain ⟨p,hp,hv⟩:=hrc
     simp only [yI_,Option.some.injEq] at hp
     subst hp
     rw [hv]
     exact ⟨t,by rw [← Lf.evo_ev ht];exact kI_ h1 hl,hd.keep k.size k.free⟩
    ·cases h1
   ·rename_i j
    simp only [Bool.and_eq_true] at h1
    have h2:=h1.2
    split at h2
    ·rename_i hro
     have hv:v=.slice none 0 0:=hrc
     subst hv
     exact ⟨[],rfl,by rw [hH _ _ hro]⟩
    ·cases h2
   ·rename_i j id
    simp only [Bool.and_eq_true] at h1
    have h2:=h1.2
    split at h2
    ·rename_i id' hro
     have:=Nat.eq_of_beq_eq_true h2
     subst this
     obtain ⟨p,hp,hv⟩:=hrc
     simp only [yI_,Option.some.injEq] at hp
     subst hp
     exact ⟨[],rfl,by rw [hH _ _ hro];exact hv⟩
    ·cases h2
   ·exact hrc.one
   ·cases h1
 | [],_ :: _,_,hc,_=>by simp [kr_] at hc
 | _ :: _,[],_,hc,_=>by simp [kr_] at hc
 | [],[],_ :: _,_,h=>h.elim
 | _ :: _,_ :: _,[],_,h=>h.elim
theorem aDi_ {h:Head} {xs:List Lf} {d':Nat} {ρ0 e:List T} (hm:Go.Proofs.YtiebbbmibbkpcaaGreatC.meet d' h s=some xs) (hr:Rel M B d up s (ρ0++e) G a w) (hl:ρ0.length=h.c0.a) (hbt:∀ i b,B.bt i=some b→i < h.c0.i) :
  (ρ0++xs.map (Lf.ev (ρ0++e))).length=h.ct.a∧∃ G',Rel (fun i=>i < h.ct.i) B d up h.st (ρ0++xs.map (Lf.ev (ρ0++e))) G' a w:=by
 unfold Go.Proofs.YtiebbbmibbkpcaaGreatC.meet at hm
 simp only [Option.bind_eq_some_iff] at hm
 obtain ⟨⟨xs',rn⟩,_,hm⟩:=hm
 obtain ⟨G1,hr,_⟩:=hr.acts (l:=ab8_ d' h.s0 s h.js)
 generalize aap_ s (ab8_ d' h.s0 s h.js)=s1 at hm hr
 cases hc:ars_ h s1 xs' rn with
 | false=>simp [hc] at hm
 | true =>
  simp only [hc,cond_true,Option.some.injEq] at hm
  subst hm
  unfold ars_ at hc
  simp only [Bool.and_eq_true] at hc
  obtain ⟨⟨⟨⟨⟨⟨c1,c2⟩,c3⟩,c4⟩,c5⟩,c6⟩,c7⟩:=hc
  have hlen:=Nat.eq_of_beq_eq_true c1
  have h01:=Nat.le_of_ble_eq_true c3
  have hpos:=uS_ c2
  have hren:=aqh_ c4
  refine ⟨by rw [List.length_append,List.length_map,hl,hlen],G1.meet h.c0.i rn,?_⟩
  have hagr:Agr h.c0.a (ρ0++e) (ρ0++xs'.map (Lf.ev (ρ0++e))):=fun m hm=>by
   rw [List.getElem?_append_left (by omega),List.getElem?_append_left (by omega)]
  have hnone:∀ b,G1.ω b=none→(G1.meet h.c0.i rn).ω b=none:=fun b hb=>by simp [Gh.meet,hb]
  have hHn:∀ j,j < h.c0.i→(G1.meet h.c0.i rn).H j=G1.H j:=by
   intro j hj
   have:xN_ rn j=none:=by
    cases hro:xN_ rn j with
    | none=>rfl
    | some x=>have:=(hren j x (jU_ hro)).1;omega
   simp [Gh.meet,this]
  have hHr:∀ j x,xN_ rn j=some x→(G1.meet h.c0.i rn).H j=match x with | some id=>G1.H id | none=>fun _=>.slice none 0 0:=by
   intro j x hj
   show (match xN_ rn j with | some (some id)=>G1.H id | some none=>_ | none=>G1.H j)=_
   rw [hj]
   cases x <;> rfl
  have kI:Keep (fun l=>match l with | .f=>False | .x j=>¬ j < h.c0.i | .o j _=>wc_ rn j≠none∨¬ j < h.c0.i) (fun j=>¬ j < h.c0.i) G1 w (G1.meet h.c0.i rn) w:=by
   refine ⟨Nat.le_refl _,fun b _ hb=>⟨hnone b hb,rfl⟩,fun b l hb hl=>⟨?_,rfl⟩,fun j hj=>⟨rfl,fun p _=>by rw [hHn j (Decidable.not_not.1 hj)]⟩⟩
   cases l with
   | f=>simp [Gh.meet,hb]
   | x j=>simp only [Gh.meet,hb];rw [if_pos (Decidable.not_not.1 hl)]
   | o j p =>
    have h1:wc_ rn j=none:=by
     cases hro:wc_ rn j with
     | none=>rfl
     | some k=>exact absurd (.inl (by rw [hro];simp)) hl
    have h2:j < h.c0.i:=Decidable.not_not.1 fun hn=>hl (.inr hn)
    simp only [Gh.meet,hb,h1];rw [if_pos h2]
  have kT:=kI.mono (I':=fun _=>True) (fun _ _=>trivial) fun _ hn=>hn
  have hown:∀ r v,(r,v)∈h.own→∃ j,r=.o j∧j < h.ct.i∧RelObj (G1.meet h.c0.i rn) w (ρ0++xs'.map (Lf.ev (ρ0++e))) j v∧zs_ v=[]:=by
   intro r v hm
   obtain ⟨j,dp,n,rfl,rfl,hcase⟩:=apv_ c6 r v hm
   rcases hcase with ⟨id,x,h1,h2,h3⟩ | ⟨h1,h3⟩ | ⟨x,h1,h2,h3,h4,h5⟩
   ·obtain ⟨q1,q2,q3⟩:=hren j (some id) (jU_ h1)
    refine ⟨j,rfl,q2,?_,rfl⟩
    have hob:=hr.ob id
    rw [h2] at hob
    obtain ⟨t,ht,ho⟩:=hob
    refine ⟨t,by rw [← Lf.evo_ev ht];exact kI_ h3 hl,?_⟩
    have hto:=q3 id rfl
    have hω:∀ c p,G1.ω c=some (.o id p)→(G1.meet h.c0.i rn).ω c=some (.o j p):=fun c p hcp=>by simp [Gh.meet,hcp,hto]
    have hHj:=hHr j _ h1
    cases dp with
    | true=>exact ho.move rfl (fun c p hcp=>⟨hω c p hcp,rfl⟩) fun p=>by rw [hHj]
    | false=>exact ho.flatMove (fun c hcp=>hω c [] hcp) (by rw [hHj]) hnone
   ·obtain ⟨q1,q2,_⟩:=hren j none (jU_ h1)
    exact ⟨j,rfl,q2,⟨.l [],kI_ h3 hl,.nil (by rw [hHr j _ h1])⟩,rfl⟩
   ·refine ⟨j,rfl,by omega,?_,rfl⟩
    have hob:=hr.ob j
    rw [h4] at hob
    obtain ⟨t,ht,ho⟩:=hob
    refine ⟨t,by rw [← Lf.evo_ev ht];exact kI_ h5 hl,ho.keep kI (fun p hp=>?_) fun hn=>hn h2⟩
    rcases hp with hp | hp
    ·exact hp h3
    ·exact hp h2
  have hnew:∀ r v,(r,v)∈h.new→∃ ag hs cs,v=.v ag hs∧s1.get r=.v ag cs∧(∀ vs,RelCs G1 w (ρ0++e) cs vs→RelCs (G1.meet h.c0.i rn) w (ρ0++xs'.map (Lf.ev (ρ0++e))) hs vs)∧(∀ j∈zs_ v,j < h.ct.i)∧(∀ j,r≠.o j)∧∀ b,r=.x b→b < h.c0.i:=by
   intro r v hm
   obtain ⟨ag,hs,cs,rfl,h1,h2,h3,h4⟩:=aqb_ c7 r v hm
   exact ⟨ag,hs,cs,rfl,h1,fun vs hv=>as0_ hr hl kT hHr h2 hv,fun j hj=>art_ (i1:=h.ct.i) (fun j x hj=>(hren j x (jU_ hj)).2.1) h01 h2 j hj,h3,h4⟩
  have hst:∀ r,h.st.get r=.un∨(r,h.st.get r)∈h.kept∨(r,h.st.get r)∈h.own∨(r,h.st.get r)∈h.new:=by
   intro r
   rw [St.look_get]
   cases hlk:h.st.look r with
   | none=>exact .inl rfl
   | some v =>
    have:=ahj_ hlk
    simp only [Head.st,List.mem_append] at this
    exact .inr (by simpa [or_assoc] using this)
  have hkept:=amv_ c5
  refine ⟨fun x n hx=>?_,fun b=>?_,fun i=>?_,fun r i hi=>?_,fun i hi=>?_,fun b l hb=>?_,hr.dn,?_,fun i b hb=>⟨Nat.lt_of_lt_of_le (hbt i b hb) h01,(hr.bt i b hb).2⟩⟩
  ·rcases hst (.t x n) with hu | hm | hm | hm
   ·rw [hu];trivial
   ·rcases hkept _ _ hm with hu | ⟨he,hb,_,_⟩
    ·rw [hu];trivial
    ·rw [he]
     rw [he] at hb
     exact ((hr.tm x n hx).agr hagr hb).keep kT fun j hj hn=>hn (SV.bel_ids hb j hj)
   ·obtain ⟨j,e1,_⟩:=hown _ _ hm;cases e1
   ·obtain ⟨ag,hs,cs,e1,e2,e3,_⟩:=hnew _ _ hm
    rw [e1]
    have:=hr.tm x n hx
    rw [e2] at this
    cases ag with
    | true=>obtain ⟨vs,g1,g2⟩:=this;exact ⟨vs,g1,e3 vs g2⟩
    | false =>
     obtain ⟨c,rfl,g2,g3⟩:=this
     have:=e3 [tmv up d a x n] ⟨g2,trivial⟩
     match hs,this with
     | [c'],this=>exact ⟨c',rfl,this.1,g3⟩
  ·rcases hst (.x b) with hu | hm | hm | hm
   ·rw [hu];trivial
   ·rcases hkept _ _ hm with hu | ⟨he,hb,_,hxb⟩
    ·rw [hu];trivial
    ·rw [he]
     rw [he] at hb
     have hlt:=hxb b rfl
     exact ((hr.bx b).agr hagr hb).keep kI (fun hf=>hf hlt) (fun hn=>hn hlt) fun j hj hn=>hn (SV.bel_ids hb j hj)
   ·obtain ⟨j,e1,_⟩:=hown _ _ hm;cases e1
   ·obtain ⟨ag,hs,cs,e1,e2,e3,_,_,e4⟩:=hnew _ _ hm
    rw [e1]
    have:=hr.bx b
    rw [e2] at this
    obtain ⟨g1,arr,elem,g2,g3⟩:=this
    refine ⟨?_,arr,elem,g2,e3 _ g3⟩
    show (G1.meet h.c0.i rn).ω (G1.β b)=_
    simp only [Gh.meet,g1]
    rw [if_pos (e4 b rfl)]
  ·rcases hst (.o i) with hu | hm | hm | hm
   ·rw [hu];trivial
   ·rcases hkept _ _ hm with hu | ⟨he,hb,hoi,_⟩
    ·rw [hu];trivial
    ·rw [he]
     rw [he] at hb
     obtain ⟨q1,q2⟩:=hoi i rfl
     refine ((hr.ob i).agr hagr hb).keep kI (fun p hp=>?_) (fun hn=>hn q1)
     rcases hp with hp | hp
     ·exact hp q2
     ·exact hp q1
   ·obtain ⟨j,e1,_,e2,_⟩:=hown _ _ hm;cases e1;exact e2
   ·obtain ⟨ag,hs,cs,e1,e2,e3,_,e4,_⟩:=hnew _ _ hm;exact absurd rfl (e4 i)
  ·rcases hst r with hu | hm | hm | hm
   ·rw [hu] at hi;simp [zs_] at hi
   ·rcases hkept _ _ hm with hu | ⟨he,hb,_,_⟩
    ·rw [hu] at hi;simp [zs_] at hi
    ·exact Nat.lt_of_lt_of_le (SV.bel_ids hb i hi) h01
   ·obtain ⟨j,_,_,_,e2⟩:=hown _ _ hm;rw [e2] at hi;cases hi
   ·obtain ⟨ag,hs,cs,e1,e2,e3,e4,_⟩:=hnew _ _ hm;exact e4 i hi
  ·have key:∀ r:Res,(r=.x i∨r=.o i)→h.st.get r≠.un→i < h.ct.i:=by
    intro r hri hne
    rcases hst r with hu | hm | hm | hm
    ·exact absurd hu hne
    ·rcases hkept _ _ hm with hu | ⟨he,hb,g1,g2⟩
     ·exact absurd hu hne
     ·rcases hri with rfl | rfl
      ·exact Nat.lt_of_lt_of_le (g2 i rfl) h01
      ·exact Nat.lt_of_lt_of_le (g1 i rfl).1 h01
    ·obtain ⟨j,e1,e2,_⟩:=hown _ _ hm
     rcases hri with rfl | rfl
     ·cases e1
     ·cases e1;exact e2
    ·obtain ⟨ag,hs,cs,e1,e2,e3,_,e4,e5⟩:=hnew _ _ hm
     rcases hri with rfl | rfl
     ·exact Nat.lt_of_lt_of_le (e5 i rfl) h01
     ·exact absurd rfl (e4 i)
   rcases hi with hi | hi
   ·exact key _ (.inl rfl) hi
   ·exact key _ (.inr rfl) hi
  ·cases hgb:G1.ω b with
   | none=>simp [Gh.meet,hgb] at hb
   | some l' =>
    have hlt:=(hr.lab b l' hgb).2
    refine ⟨?_,hlt⟩
    cases l' with
    | f=>simp [Gh.meet,hgb] at hb;subst hb;exact hpos
    | x j =>
     simp only [Gh.meet,hgb] at hb
     split at hb
     ·rename_i hj;cases hb;exact Nat.lt_of_lt_of_le hj h01
     ·cases hb
    | o j p =>
     simp only [Gh.meet,hgb] at hb
     split at hb
     ·rename_i k hk
      cases hb
      exact (hren k _ (adq_ hk)).2.1
     ·split at hb
      ·rename_i hj;cases hb;exact Nat.lt_of_lt_of_le hj h01
      ·cases hb
  ·obtain ⟨b1,b2,b3,b4,b5,b6⟩:=hr.base
   refine ⟨b1,b2,b3,b4,fun b hb h0=>⟨hnone b (b5 b hb h0).1,(b5 b hb h0).2⟩,fun b hb=>⟨by simp [Gh.meet,(b6 b hb).1],(b6 b hb).2⟩⟩
end
def exOf:Ex→Exit
 | .normal=>.normal
 | .exit id=>.exit id
 | .ret=>.ret
section
variable {B:Base} {f:Fr} {S:Nat→Sem1} {P:Program} {cx:Cx} {into:Into} {fid rid:Nat} {R:Nat} {out:List T}
theorem Snd.ext {Z Z':Zb} {k:KP} {Ψ:Act→World→Prop} (h:Snd S R out B f Z k Ψ) (hK:∃ pre,Z'.K=pre++Z.K) (hρ:∃ e,Z'.ρ=Z.ρ++e):Snd S R out B f Z' k Ψ:=by
 rintro lv s ct fs p a w hk ⟨K,ρ,G,h1,h2,⟨pre,h3⟩,⟨e,h4⟩,h5⟩
 obtain ⟨pre',h6⟩:=hK
 obtain ⟨e',h7⟩:=hρ
 exact h lv s ct fs p a w hk ⟨K,ρ,G,h1,h2,⟨pre++pre',by rw [h3,h6,List.append_assoc]⟩,⟨e'++e,by rw [h4,h7,List.append_assoc]⟩,h5⟩
theorem aC4_ {K:List Sem1} {ρ:List T} {J:Sem1} {h:Head} {lv tag:Nat} {Ψ:Act→World→Prop} (hlv:K.length=lv) (hl:ρ.length=h.c0.a) (hbt:∀ i b,B.bt i=some b→i < h.c0.i)
  (hJ:∀ ts a w G,J ts=some out→(ρ++ts).length=h.ct.a→Rel (fun i=>i < h.ct.i) B f.d f.up h.st (ρ++ts) G a w→a.tmps.size=f.nt→Ψ a w):Snd S R out B f ⟨J :: K,ρ⟩ (goK f.d h lv tag) Ψ:=by
 rintro lv2 s' ct' fs' p a w hk ⟨K2,ρ2,G,h1,h2,⟨pre,h3⟩,⟨e,h4⟩,h5,h6,h7,h8,_⟩
 unfold goK at hk
 split at hk
 ·rename_i xs hm
  cases hk
  simp only at h3 h4
  subst h4
  obtain ⟨g1,G',g2⟩:=aDi_ hm h7 hl hbt
  simp only [PL.den] at h1
  have hidx:K2[lv2 - lv - 1]?=some J:=by
   rw [h3]
   have:K2.length=pre.length+(K.length+1):=by rw [h3];simp
   rw [List.getElem?_append_right (by omega),show lv2 - lv - 1 - pre.length=0 by omega]
   rfl
  rw [hidx] at h1
  exact hJ _ a w G' h1 g1 g2 h8
 ·cases hk;cases h1
theorem aq4_ {Z:Zb} {K0:KP} {h:Head} {lv:Nat} {fs:yQ_} {k b:PL} {a:Act} {w:World} {s:St} {ct:Ct} {js:Js} {Ψ:Act→World→Prop} (hh:h=jk_ f.d s ct js) (hk:K0 lv h.st h.ct fs=some k) (hS:Snd S R out B f Z K0 Ψ)
  (hat:At S R out B f Z XT (.join k b) lv s ct fs a w):∃ Z',(∃ pre,Z'.K=pre++Z.K)∧(∃ e,Z'.ρ=Z.ρ++e)∧At S R out B f Z' XT b (lv+1) s ct fs a w∧∀ tag,Snd S R out B f Z' (goK f.d h lv tag) Ψ:=by
 obtain ⟨K,ρ,G,h1,h2,⟨pre,h3⟩,⟨e,h4⟩,h5,h6,h7,h8,_⟩:=hat
 simp only [PL.den] at h1
 have hc0:h.c0=ct:=by rw [hh];rfl
 refine ⟨⟨(fun ts=>k.den S R K (ρ++ts)) :: K,ρ⟩,⟨_ :: pre,by simp [h3];rfl⟩,⟨e,h4⟩,⟨_,ρ,G,h1,by simp [h2],⟨[],rfl⟩,⟨[],by simp⟩,h5,h6,h7,h8,trivial⟩,fun tag=>?_⟩
 refine aC4_ h2 (by rw [hc0];exact h5) (fun i b hb=>by rw [hc0];exact (h7.bt i b hb).1) fun ts a w G' hd hl hr hs=>?_
 exact hS lv h.st h.ct fs k a w hk ⟨K,ρ++ts,G',hd,h2,⟨pre,h3⟩,⟨e++ts,by rw [h4,List.append_assoc]⟩,hl,h6.ext,hr,hs,trivial⟩
theorem At.at {Z:Zb} {X:Gh→World→List T→Prop} {p:PL} {lv:Nat} {s:St} {ct:Ct} {fs:yQ_} {a:Act} {w:World} (h:At S R out B f Z X p lv s ct fs a w):True:=trivial
theorem aDw_ {Z:Zb} {c:Operand} {x y:Code} {tag lv:Nat} {s:St} {ct:Ct} {fs:yQ_} {p:PL} {a:Act} {w:World} {Q:Exit→Act→World→Prop} {cx' cy':yQ_→Option PL}
  (h:auh_ tag (opnd f.d s.get c) cx' cy' s fs=some p) (hat:At S R out B f Z XT p lv s ct fs a w) (hx:∀ fs p,cx' fs=some p→At S R out B f Z XT p lv s ct fs a w→x.wp P Q a w)
  (hy:∀ fs p,cy' fs=some p→At S R out B f Z XT p lv s ct fs a w→y.wp P Q a w):(Code.cond c x y).wp P Q a w:=by
 obtain ⟨K,ρ,G,h1,h2,h3,h4,h5,h6,h7,h8,_⟩:=hat
 have hrel:=(v0_ h7 c).1
 unfold auh_ at h
 split at h
 ·rename_i b hd
  have hc:=ao3_ hd hrel h6
  refine wp_cond hc ?_
  cases b with
  | true=>exact hx fs p h ⟨K,ρ,G,h1,h2,h3,h4,h5,h6,h7,h8,trivial⟩
  | false=>exact hy fs p h ⟨K,ρ,G,h1,h2,h3,h4,h5,h6,h7,h8,trivial⟩
 ·rename_i n hd
  simp only [Option.bind_eq_some_iff,Option.some.injEq] at h
  obtain ⟨px,hpx,py,hpy,rfl⟩:=h
  obtain ⟨b,hb,hp⟩:=arf_ h1
  have hc:=ao3_ (alu_ (b:=b) hd) hrel (h6.cons hb)
  refine wp_cond hc ?_
  cases b with
  | true=>exact hx _ px hpx ⟨K,ρ,G,hp,h2,h3,h4,h5,h6.cons hb,h7,h8,trivial⟩
  | false=>exact hy _ py hpy ⟨K,ρ,G,hp,h2,h3,h4,h5,h6.cons hb,h7,h8,trivial⟩
 ·cases h;cases h1
 ·cases h;cases h1
theorem aC9_ (E:Env P cx S) (hI:apa_ P S R out B into) (hmx:P.follows .mixedOrders=true):∀ (c:Code) (blk lv:Nat) (s:St) (ct:Ct) (fs:yQ_) (KE:KE) (p:PL) (a:Act) (w:World) (Z:Zb) (Q:Exit→Act→World→Prop),
  qd_ f.nt c=true→comp cx into fid f.d c blk lv s ct fs KE=some p→At S R out B f Z XT p lv s ct fs a w→(∀ e,Snd S R out B f Z (KE e) (Q (exOf e)))→c.wp P Q a w:=by
 intro c
 induction c with
 | skip=>intro blk lv s ct fs KE p a w Z Q _ h hat hK;exact wp_skip (hK .normal lv s ct fs p a w h hat)
 | label l=>intro blk lv s ct fs KE p a w Z Q _ h hat hK;exact wp_label (hK .normal lv s ct fs p a w h hat)
 | seq x y ihx ihy =>
  intro blk lv s ct fs KE p a w Z Q hd h hat hK
  simp only [qd_,Bool.and_eq_true] at hd
  refine wp_seq (ihx 0 lv s ct fs _ p a w Z _ hd.1 h hat fun e=>?_)
  cases e with
  | normal=>exact fun lv s ct fs p a w hk hat=>ihy 0 lv s ct fs KE p a w Z Q hd.2 hk hat hK
  | exit id=>exact hK (.exit id)
  | ret=>exact hK .ret
 | region id ops draw =>
  intro blk lv s ct fs KE p a w Z Q hd h hat hK
  have hn:∀ o∈ops.toList,∀ n,o.dst=some n→n < f.nt:=by
   intro o ho n hn
   have:=List.all_eq_true.1 hd o ho
   rw [hn] at this
   exact uS_ this
  have hat':∀ p,At S R out B f Z XT p lv s ct fs a w→At S R out B f Z XT p lv (aE9_ cx fid f.d id s) ct fs a w:=by
   rintro p ⟨K,ρ,G,h1,h2,h3,h4,h5,h6,h7,h8,_⟩
   unfold aE9_
   cases cx.hint fid 4 id with
   | none=>exact ⟨K,ρ,G,h1,h2,h3,h4,h5,h6,h7,h8,trivial⟩
   | some js =>
    obtain ⟨G',h7'⟩:=h7.thawJs (js:=js) (d':=f.d)
    exact ⟨K,ρ,G',h1,h2,h3,h4,h5,h6,h7',h8,trivial⟩
  have hat2:=hat' p hat
  simp only [comp] at h
  split at h
  ·exact ar4_ E hI hmx hn (hK .normal) h hat2
  ·rename_i js hj
   simp only [Option.bind_eq_some_iff,Option.some.injEq] at h
   obtain ⟨k,hk,b,hb,rfl⟩:=h
   obtain ⟨Z',z1,z2,hat3,hS⟩:=aq4_ rfl hk (hK .normal) hat2
   exact ar4_ E hI hmx hn (hS _) hb hat3
 | cond c x y ihx ihy =>
  intro blk lv s ct fs KE p a w Z Q hd h hat hK
  simp only [qd_,Bool.and_eq_true] at hd
  simp only [comp] at h
  split at h
  ·exact aDw_ h hat (fun fs p hp hat=>ihx 0 lv s ct fs KE p a w Z Q hd.1 hp hat hK) (fun fs p hp hat=>ihy 0 lv s ct fs KE p a w Z Q hd.2 hp hat hK)
  ·rename_i js hj
   simp only [Option.bind_eq_some_iff,Option.some.injEq] at h
   obtain ⟨k,hk,b,hb,rfl⟩:=h
   obtain ⟨Z',z1,z2,hat3,hS⟩:=aq4_ rfl hk (hK .normal) hat
   have hKE:∀ tag e,Snd S R out B f Z' (app_ f.d (jk_ f.d s ct js) lv tag KE e) (Q (exOf e)):=by
    intro tag e
    cases e with
    | normal=>exact hS tag
    | exit id=>exact (hK (.exit id)).ext z1 z2
    | ret=>exact (hK .ret).ext z1 z2
   exact aDw_ hb hat3 (fun fs p hp hat=>ihx 0 (lv+1) s ct fs _ p a w Z' Q hd.1 hp hat (hKE _)) (fun fs p hp hat=>ihy 0 (lv+1) s ct fs _ p a w Z' Q hd.2 hp hat (hKE _))
 | block id body ih =>
  intro blk lv s ct fs KE p a w Z Q hd h hat hK
  have blk_snd:∀ (Z:Zb) (KE':Go.Proofs.YtiebbbmibbkpcaaGreatC.KE),(∀ e,Snd S R out B f Z (KE' e) (Q (exOf e)))→∀ e,Snd S R out B f Z (api_ id KE' e) (Exit.inBlock id Q (exOf e)):=by
   intro Z KE' hK e
   cases e with
   | normal=>exact hK .normal
   | ret=>exact hK .ret
   | exit i =>
    intro lv s ct fs p a w hk hat
    simp only [api_] at hk
    show (if i=id then Q .normal a w else Q (.exit i) a w)
    cases hb:Nat.beq i id with
    | true =>
     rw [hb] at hk
     rw [if_pos (Nat.eq_of_beq_eq_true hb)]
     exact hK .normal lv s ct fs p a w hk hat
    | false =>
     rw [hb] at hk
     rw [if_neg (fun e=>by subst e;simp at hb)]
     exact hK (.exit i) lv s ct fs p a w hk hat
  simp only [comp] at h
  split at h
  ·exact wp_block (ih id lv s ct fs _ p a w Z _ hd h hat (blk_snd Z KE hK))
  ·rename_i js hj
   simp only [Option.bind_eq_some_iff,Option.some.injEq] at h
   obtain ⟨k,hk,b,hb,rfl⟩:=h
   obtain ⟨Z',z1,z2,hat3,hS⟩:=aq4_ rfl hk (hK .normal) hat
   refine wp_block (ih id (lv+1) s ct fs _ b a w Z' _ hd hb hat3 (blk_snd Z' _ fun e=>?_))
   cases e with
   | normal=>exact hS _
   | exit id=>exact (hK (.exit id)).ext z1 z2
   | ret=>exact (hK .ret).ext z1 z2
 | loop body ih =>
  intro blk lv s ct fs KE p a w Z Q hd h hat hK
  simp only [comp] at h
  split at h
  ·cases h;obtain ⟨K,ρ,G,h1,_⟩:=hat;cases h1
  ·rename_i js hj
   split at h
   ·cases h;obtain ⟨K,ρ,G,h1,_⟩:=hat;cases h1
   ·rename_i xs hm
    simp only [Option.bind_eq_some_iff,Option.some.injEq] at h
    obtain ⟨b,hb,rfl⟩:=h
    obtain ⟨K,ρ,G,h1,h2,⟨pre,h3⟩,⟨e,h4⟩,h5,h6,h7,h8,_⟩:=hat
    have hbt:∀ i b,B.bt i=some b→i < (jk_ f.d s ct js).c0.i:=fun i b hb=>(h7.bt i b hb).1
    have key:∀ (n:Nat) (ts:List T) (a:Act) (w:World) (G:Gh),iter (fun self ts=>b.den S R (self :: K) (ρ++ts)) n ts=some out→(ρ++ts).length=(jk_ f.d s ct js).ct.a →
      Rel (fun i=>i < (jk_ f.d s ct js).ct.i) B f.d f.up (jk_ f.d s ct js).st (ρ++ts) G a w→a.tmps.size=f.nt→Code.rounds P body Q n a w:=by
     intro n
     induction n with
     | zero=>intro ts a w G hi;cases hi
     | succ n ihn =>
      intro ts a w G hi hl hr hs
      rw [rounds_succ]
      refine ih 0 (lv+1) _ _ fs _ b a w ⟨iter (fun self ts=>b.den S R (self :: K) (ρ++ts)) n :: K,ρ⟩ _ hd hb ⟨_,ρ++ts,G,hi,by simp [h2],⟨[],rfl⟩,⟨ts,rfl⟩,hl,h6.ext,hr,hs,trivial⟩ fun e'=>?_
      cases e' with
      | normal=>exact aC4_ h2 h5 hbt fun ts a w G hJ hl hr hs=>ihn ts a w G hJ hl hr hs
      | exit id=>exact (hK (.exit id)).ext ⟨_ :: pre,by simp [h3];rfl⟩ ⟨e,h4⟩
      | ret=>exact (hK .ret).ext ⟨_ :: pre,by simp [h3];rfl⟩ ⟨e,h4⟩
    simp only [PL.den] at h1
    obtain ⟨g1,G',g2⟩:=aDi_ (e:=[]) hm (by rw [List.append_nil];exact h7) h5 hbt
    rw [List.append_nil] at g1 g2
    exact wp_loop_rounds R (key R _ a w G' h1 g1 g2 h8)
 | exit id=>intro blk lv s ct fs KE p a w Z Q _ h hat hK;exact wp_exit (hK (.exit id) lv s ct fs p a w h hat)
 | ret=>intro blk lv s ct fs KE p a w Z Q _ h hat hK;exact wp_ret (hK .ret lv s ct fs p a w h hat)
 | _=>intros;rename_i h hat _;simp only [comp,Option.some.injEq] at h;subst h;obtain ⟨K,ρ,G,h1,_⟩:=hat;cases h1
end
section
variable {M:Nat→Prop} {B:Base} {d:Nat} {up:Nat→Nat→Value} {ρ:List T} {G:Gh} {a:Act} {w:World} {s:St} {S:Nat→Sem1} {P:Program} {cx:Cx} {R:Nat} {out:List T}
theorem aA3_ {t:Nat} {ti:TI} (hT:TyOk P t ti) {b off:Nat} {vs:List Value} (hl:vs.length=ti.sz) (hc:∀ j v,vs[j]?=some v→w.cell? ⟨b,off+j,none⟩=some v) :
  (loadVar t ⟨b,off,none⟩).run P w=.ok (if ti.ag then .agg vs.toArray else vs.getD 0 undef) w:=by
 have:=abb_ (P:=P) hT hl hc
 simpa [Instr.loadAt,Instr.sureAddr] using this
def afo_ (tmps:Array Value):ResultVar→Sem Value
 | .tmp t=>pure (tmps.getD t undef)
 | .cell a t=>do loadVar t (← asAddr (tmps.getD a undef))
theorem ai1_ (tys:TyAll P cx) (hr:Rel M B d up s ρ G a w):∀ {rvs:List ResultVar} {rs:List SV},Go.Proofs.YtiebbbmibbkpcaaGreatC.results cx d s rvs=some rs →
  ∃ us:List Value,(rvs.mapM (afo_ a.tmps)).run P w=.ok us w∧RelSVs G w ρ rs us∧∀ v∈rs,∀ i∈zs_ v,M i
 | [],rs,h=>by
  simp [Go.Proofs.YtiebbbmibbkpcaaGreatC.results] at h
  subst h
  exact ⟨[],rfl,trivial,fun v hv=>by cases hv⟩
 | .tmp t :: rvs,rs,h=>by
  simp only [Go.Proofs.YtiebbbmibbkpcaaGreatC.results,Option.bind_eq_some_iff,Option.some.injEq] at h
  obtain ⟨vs,hvs,rfl⟩:=h
  obtain ⟨us,g1,g2,g3⟩:=ai1_ tys hr hvs
  have ht:=hr.tm d t (Nat.le_refl _)
  simp only [tmv,if_true] at ht
  refine ⟨a.tmps.getD t undef :: us,?_,⟨ht,g2⟩,fun v hv=>?_⟩
  ·rw [List.mapM_cons,Sem.run_bind]
   simp only [afo_,Sem.run_pure,Result.andThen_ok,Sem.run_bind,g1]
  ·rcases List.mem_cons.1 hv with rfl | hv
   ·exact hr.ment _
   ·exact g3 v hv
 | .cell ad t :: rvs,rs,h=>by
  simp only [Go.Proofs.YtiebbbmibbkpcaaGreatC.results,Option.bind_eq_some_iff] at h
  obtain ⟨ti,hti,h⟩:=h
  have ht:=hr.tm d ad (Nat.le_refl _)
  simp only [tmv,if_true] at ht
  split at h
  ·rename_i bx off hpt
   split at h
   ·rename_i ag cs hbx
    cases hb:Nat.ble (off+ti.sz) cs.length with
    | false=>simp [hb] at h
    | true =>
     simp only [hb,cond_true,Option.bind_eq_some_iff,Option.some.injEq] at h
     obtain ⟨vs,hvs,rfl⟩:=h
     obtain ⟨us,g1,g2,g3⟩:=ai1_ tys hr hvs
     rw [hpt] at ht
     have hbox:=hr.bx bx
     rw [hbx] at hbox
     obtain ⟨_,arr,elem,hh,hcs⟩:=hbox
     have hle:=Nat.le_of_ble_eq_true hb
     have hlen:=hcs.length
     simp only [Array.length_toList] at hlen
     have hT:=tys.ty _ _ hti
     have hr1:=RelCs.take ti.sz (RelCs.drop off hcs)
     have hl1:((arr.toList.drop off).take ti.sz).length=ti.sz:=by simp;omega
     have hrun:=aA3_ (P:=P) (w:=w) (b:=G.β bx) (off:=off) hT hl1 (fun j v hj=>by
      rw [v2_ hh]
      have hlt:=(List.getElem?_eq_some_iff.1 hj).1
      rw [List.getElem?_take,if_pos (by omega),List.getElem?_drop] at hj
      simpa using hj)
     refine ⟨_ :: us,?_,⟨aiz_ hT hr1 hl1,g2⟩,fun v hv=>?_⟩
     ·rw [List.mapM_cons,Sem.run_bind]
      simp only [afo_,Sem.run_bind]
      rw [show a.tmps.getD ad undef=.pointer (some ⟨G.β bx,off,none⟩) from ht]
      simp only [asAddr,Sem.run_pure,Result.andThen_ok,hrun,g1]
     ·rcases List.mem_cons.1 hv with rfl | hv
      ·intro i hi
       have hm:=hr.ment (.x bx)
       rw [hbx] at hm
       exact hm i (air_ _ _ i (ai3_ _ _ i hi))
      ·exact g3 v hv
   ·cases h
  ·cases h
theorem am2_ {fn:Func} {us:List Value} (h:(fn.results.toList.mapM (afo_ a.tmps)).run P w=.ok us w):(Go.results fn a.tmps).run P w=.ok (tupV us) w:=by
 have h2:(fn.results.mapM (afo_ a.tmps)).run P w=.ok us.toArray w:=by
  rw [Array.mapM_eq_mapM_toList,Sem.run_map,h]
  rfl
 have h3:Go.results fn a.tmps=(do let vs ← fn.results.mapM (afo_ a.tmps);pure (if h:vs.size=1 then vs[0] else .tuple vs)):=by
  unfold Go.results
  congr 1
 rw [h3,Sem.run_bind,h2]
 simp only [Result.andThen_ok,Sem.run_pure,tupV,List.size_toArray]
 by_cases hl:us.length=1
 ·simp [hl]
 ·simp [hl]
theorem uG_ (d e n:Nat):∀ s:St,(wx_ d s).get (.t e n)=if d≤e then .un else s.get (.t e n)
 | []=>by simp [wx_,St.get]
 | (.t e' n',v) :: s=>by
  simp only [wx_]
  cases hb:Nat.ble d e' with
  | true =>
   have:=Nat.le_of_ble_eq_true hb
   simp only [cond_true]
   rw [uG_ d e n s]
   split
   ·rfl
   ·simp only [St.get]
    have:(Res.t e' n').beq (.t e n)=false:=by
     cases hq:(Res.t e' n').beq (.t e n) with
     | false=>rfl
     | true=>have:=Res.beq_iff.1 hq;cases this;omega
    rw [this];rfl
  | false =>
   have hlt:¬ d≤e':=fun h=>by rw [Nat.ble_eq_true_of_le h] at hb;cases hb
   simp only [cond_false,St.get]
   cases hq:(Res.t e' n').beq (.t e n) with
   | true=>have:=Res.beq_iff.1 hq;cases this;simp [hlt]
   | false=>simp only [cond_false];exact uG_ d e n s
 | (.x b,v) :: s=>by
  simp only [wx_,St.get]
  rw [show (Res.x b).beq (.t e n)=false from rfl]
  exact uG_ d e n s
 | (.o b,v) :: s=>by
  simp only [wx_,St.get]
  rw [show (Res.o b).beq (.t e n)=false from rfl]
  exact uG_ d e n s
theorem uJ_ (d:Nat) (r:Res) (hr:∀ e n,r≠.t e n):∀ s:St,(wx_ d s).get r=s.get r
 | []=>rfl
 | (.t e' n',v) :: s=>by
  have hb:(Res.t e' n').beq r=false:=by
   cases hq:(Res.t e' n').beq r with
   | false=>rfl
   | true=>exact absurd (Res.beq_iff.1 hq).symm (hr e' n')
  simp only [wx_]
  cases Nat.ble d e' with
  | true=>simp only [cond_true,St.get,hb,cond_false];exact uJ_ d r hr s
  | false=>simp only [cond_false,St.get,hb];exact uJ_ d r hr s
 | (.x b,v) :: s=>by
  simp only [wx_,St.get]
  rw [uJ_ d r hr s]
 | (.o b,v) :: s=>by
  simp only [wx_,St.get]
  rw [uJ_ d r hr s]
theorem k9_ (d:Nat):∀ (vs:List SV) (s:St) (i:Nat) (r:Res),(kL_ d s i vs).get r=match r with
  | .t e n=>if e=d∧i≤n∧n < i+vs.length then vs.getD (n - i) .un else s.get (.t e n)
  | r=>s.get r
 | [],s,i,r=>by
  cases r with
  | t e n=>simp only [kL_,List.length_nil];rw [if_neg (by omega)]
  | _=>rfl
 | v :: vs,s,i,r=>by
  simp only [kL_]
  rw [k9_ d vs (s.set (.t d i) v) (i+1) r]
  cases r with
  | t e n =>
   simp only [List.length_cons]
   by_cases h1:e=d∧i+1≤n∧n < i+1+vs.length
   ·rw [if_pos h1,if_pos ⟨h1.1,by omega,by omega⟩]
    rw [show n - i=(n - (i+1))+1 by omega]
    simp
   ·rw [if_neg h1]
    by_cases h2:e=d∧n=i
    ·obtain ⟨rfl,rfl⟩:=h2
     rw [if_pos ⟨rfl,by omega,by omega⟩,St.get_set_self]
     simp
    ·rw [if_neg (by omega),St.get_set_ne _ _ (fun h=>by cases h;exact h2 ⟨rfl,rfl⟩)]
  | x b=>exact St.get_set_ne _ _ (by simp)
  | o b=>exact St.get_set_ne _ _ (by simp)
theorem RelSVs.get {vs:List SV} {us:List Value} (h:RelSVs G w ρ vs us):∀ (i:Nat) (v:SV),vs[i]?=some v→∃ u,us[i]?=some u∧RelSV G w ρ v u:=by
 induction vs generalizing us with
 | nil=>intro i v hi;simp at hi
 | cons x vs ih =>
  cases us with
  | nil=>exact h.elim
  | cons u us =>
   intro i v hi
   cases i with
   | zero=>simp at hi;subst hi;exact ⟨u,rfl,h.1⟩
   | succ i=>simpa using ih h.2 i v (by simpa using hi)
theorem Rel.enter {vs:List SV} {args:List Value} {nt:Nat} (hr:Rel M B d up s ρ G a w) (hv:RelSVs G w ρ vs args) (hm:∀ v∈vs,∀ i∈zs_ v,M i) (hn:vs.length≤nt) :
  Rel M B (d+1) (tmv up d a) (kL_ (d+1) (wx_ (d+1) s) 0 vs) ρ G { tmps:=args.toArray++Array.replicate (nt - args.toArray.size) undef,defers:=[] } w ∧
   (args.toArray++Array.replicate (nt - args.toArray.size) undef:Array Value).size=nt:=by
 have hl:=hv.length
 have hg:∀ r,(∀ e n,r≠.t e n)→(kL_ (d+1) (wx_ (d+1) s) 0 vs).get r=s.get r:=by
  intro r hr
  rw [k9_]
  cases r with
  | t e n=>exact absurd rfl (hr e n)
  | x b=>exact uJ_ _ _ hr s
  | o b=>exact uJ_ _ _ hr s
 refine ⟨⟨fun e n he=>?_,fun b=>?_,fun i=>?_,fun r i hi=>?_,fun i hi=>?_,hr.lab,rfl,hr.base,hr.bt⟩,by simp;omega⟩
 ·rw [k9_]
  simp only [Nat.zero_le,true_and,Nat.zero_add,Nat.sub_zero]
  by_cases hed:e=d+1
  ·subst hed
   by_cases hnl:n < vs.length
   ·rw [if_pos ⟨rfl,hnl⟩]
    obtain ⟨u,hu,hru⟩:=hv.get n vs[n] (List.getElem?_eq_getElem hnl)
    rw [List.getD_eq_getElem?_getD,List.getElem?_eq_getElem hnl]
    have:tmv (tmv up d a) (d+1) { tmps:=args.toArray++Array.replicate (nt - args.toArray.size) undef,defers:=[] } (d+1) n=u:=by
     simp only [tmv,if_true]
     rw [Array.getD_eq_getD_getElem?,Array.getElem?_append_left (by simp;omega),List.getElem?_toArray,hu]
     rfl
    rw [this]
    exact hru
   ·rw [if_neg (by omega),uG_,if_pos (Nat.le_refl _)]
    trivial
  ·rw [if_neg (by omega),uG_,if_neg (by omega)]
   have:tmv (tmv up d a) (d+1) { tmps:=args.toArray++Array.replicate (nt - args.toArray.size) undef,defers:=[] } e n=tmv up d a e n:=by
    show (if e=d+1 then _ else _)=_
    rw [if_neg hed]
   rw [this]
   exact hr.tm e n (by omega)
 ·rw [hg _ (by simp)];exact hr.bx b
 ·rw [hg _ (by simp)];exact hr.ob i
 ·rw [k9_] at hi
  cases r with
  | t e n =>
   simp only [Nat.zero_le,true_and,Nat.zero_add,Nat.sub_zero] at hi
   split at hi
   ·rename_i hc
    rw [List.getD_eq_getElem?_getD,List.getElem?_eq_getElem hc.2] at hi
    exact hm _ (List.getElem_mem hc.2) i hi
   ·rw [uG_] at hi
    split at hi
    ·simp [zs_] at hi
    ·exact hr.ment _ i hi
  | x b =>
   simp only at hi
   exact hr.ment (.x b) i (by rwa [uJ_ _ _ (by simp) s] at hi)
  | o b =>
   simp only at hi
   exact hr.ment (.o b) i (by rwa [uJ_ _ _ (by simp) s] at hi)
 ·rw [hg _ (by simp),hg _ (by simp)] at hi;exact hr.key i hi
theorem Rel.leave {a2:Act} {w2:World} {G2:Gh} {s2:St} {ρ2:List T} (hd:a.defers=[]) (hr:Rel M B (d+1) (tmv up d a) s2 ρ2 G2 a2 w2):Rel M B d up (wx_ (d+1) s2) ρ2 G2 a w2:=by
 have hg:∀ r,(∀ e n,r≠.t e n)→(wx_ (d+1) s2).get r=s2.get r:=fun r hr=>uJ_ _ _ hr s2
 refine ⟨fun e n he=>?_,fun b=>?_,fun i=>?_,fun r i hi=>?_,fun i hi=>?_,hr.lab,hd,hr.base,hr.bt⟩
 ·rw [uG_,if_neg (by omega)]
  have:=hr.tm e n (by omega)
  have e1:tmv (tmv up d a) (d+1) a2 e n=tmv up d a e n:=by
   show (if e=d+1 then _ else _)=_
   rw [if_neg (by omega)]
  rw [e1] at this
  exact this
 ·rw [hg _ (by simp)];exact hr.bx b
 ·rw [hg _ (by simp)];exact hr.ob i
 ·cases r with
  | t e n =>
   rw [uG_] at hi
   split at hi
   ·simp [zs_] at hi
   ·exact hr.ment _ i hi
  | x b=>exact hr.ment (.x b) i (by rwa [hg _ (by simp)] at hi)
  | o b=>exact hr.ment (.o b) i (by rwa [hg _ (by simp)] at hi)
 ·rw [hg _ (by simp),hg _ (by simp)] at hi;exact hr.key i hi
theorem aDo_ (E:Env P cx S) (hmx:P.follows .mixedOrders=true):∀ n,apa_ P S R out B (auc_ cx n)
 | 0=>by intro f g vs lv s ct fs kk p K0 a w args Ψ h;cases h
 | n+1=>by
  intro f g vs lv s ct fs kk p Z a w args Ψ h hat hk
  simp only [auc_,Option.bind_eq_some_iff] at h
  obtain ⟨fn,hfn,c,hc,h⟩:=h
  obtain ⟨hf,hin⟩:=E.into g fn hfn
  refine ⟨hin,?_⟩
  cases hb:(Nat.ble vs.length fn.ntmps && qd_ fn.ntmps c) with
  | false=>simp [hb] at h
  | true =>
   simp only [hb,cond_true] at h
   simp only [Bool.and_eq_true] at hb
   obtain ⟨K,ρ,G,h1,h2,h3,h4,h5,h6,h7,h8,h9,h10⟩:=hat
   have hle:=Nat.le_of_ble_eq_true hb.1
   obtain ⟨q1,q2⟩:=h7.enter h9 h10 hle
   refine calls_of_wp hf hc ?_
   refine aC9_ (f:=⟨f.d+1,tmv f.up f.d a,fn.ntmps⟩) E (aDo_ E hmx n) hmx c 0 lv _ ct fs _ p _ w Z _ hb.2 h ⟨K,ρ,G,h1,h2,h3,h4,h5,h6,q1,q2,trivial⟩ fun e=>?_
   have fin:∀ (lv':Nat) (s':St) (ct':Ct) (fs':yQ_) (p':PL) (a2:Act) (w2:World),(Go.Proofs.YtiebbbmibbkpcaaGreatC.results cx (f.d+1) s' fn.results.toList).bind (fun rs=>kk rs lv' (wx_ (f.d+1) s') ct' fs')=some p' →
     At S R out B ⟨f.d+1,tmv f.up f.d a,fn.ntmps⟩ Z XT p' lv' s' ct' fs' a2 w2→a2.defers=[]∧∃ v,(Go.results fn a2.tmps).run P w2=.ok v w2∧∃ v',Ending.returned v=.returned v'∧Ψ v' w2:=by
    rintro lv' s' ct' fs' p' a2 w2 hk2 ⟨K2,ρ2,G2,g1,g2,g3,g4,g5,g6,g7,g8,_⟩
    rw [Option.bind_eq_some_iff] at hk2
    obtain ⟨rs,hrs,hk2⟩:=hk2
    obtain ⟨us,u1,u2,u3⟩:=ai1_ E.tys g7 hrs
    refine ⟨g7.dn,tupV us,am2_ u1,tupV us,rfl,?_⟩
    exact hk rs lv' _ ct' fs' p' w2 us hk2 ⟨K2,ρ2,G2,g1,g2,g3,g4,g5,g6,g7.leave h7.dn,h8,u2,u3⟩
   cases e with
   | normal=>intro lv' s' ct' fs' p' a2 w2 hk2 hat2;exact fin lv' s' ct' fs' p' a2 w2 hk2 hat2
   | ret=>intro lv' s' ct' fs' p' a2 w2 hk2 hat2;exact fin lv' s' ct' fs' p' a2 w2 hk2 hat2
   | exit id=>intro lv' s' ct' fs' p' a2 w2 hk2 hat2;cases hk2
theorem avg_ {k:Wk} {c:Ce} {x:Lf} {v:Value} (hk:∀ id,RelObj G w ρ id (k.get (.o id))) (h:k.plain c=some x) (hr:RelCe G w ρ c v):∃ t,x.ev ρ=t∧Den G.ω w t v:=by
 unfold Wk.plain at h
 split at h
 ·cases h;obtain ⟨t,h1,h2⟩:=hr;exact ⟨t,Lf.evo_ev h1,h2⟩
 ·cases h
  have hv:v=.slice none 0 0:=hr
  subst hv
  exact ⟨_,rfl,.nil⟩
 ·rename_i id
  split at h
  ·rename_i y hy
   cases h
   have hob:=hk id
   rw [hy] at hob
   obtain ⟨t,h1,h2⟩:=hob
   obtain ⟨p,hp,hv⟩:=hr
   simp only [yI_,Option.some.injEq] at hp
   subst hp
   exact ⟨t,Lf.evo_ev h1,by rw [hv];exact h2⟩
  ·cases h
 ·cases h
theorem asv_ {k:Wk} (hk:∀ id,RelObj G w ρ id (k.get (.o id))):∀ {cs:List Ce} {xs:List Lf} {vs:List Value},k.plains cs=some xs→RelCs G w ρ cs vs→DenL G.ω w (xs.map (Lf.ev ρ)) vs∧xs.length=cs.length
 | [],xs,vs,h,hr=>by
  simp [Wk.plains] at h
  subst h
  cases vs with
  | nil=>exact ⟨trivial,rfl⟩
  | cons _ _=>exact hr.elim
 | c :: cs,xs,[],h,hr=>hr.elim
 | c :: cs,xs,v :: vs,h,hr=>by
  simp only [Wk.plains,Option.bind_eq_some_iff,Option.some.injEq] at h
  obtain ⟨x,hx,ys,hys,rfl⟩:=h
  obtain ⟨t,ht,hd⟩:=avg_ hk hx hr.1
  obtain ⟨g1,g2⟩:=asv_ hk hys hr.2
  exact ⟨⟨by rw [ht];exact hd,g1⟩,by simp [g2]⟩
theorem ac4_:∀ {cs:List Ce} {ks:List Ck} {k k1:Wk} {xs:List Lf} {ids:List Nat} {vs:List Value},xg_ k cs ks=some (k1,xs,ids)→(∀ id,RelObj G w ρ id (k.get (.o id)))→RelCs G w ρ cs vs→k1.Done S ρ →
  k.Done S ρ∧k.Same k1∧∃ is,OutCs G w ks vs (xs.map (Lf.ev ρ)) is∧is.filterMap id=ids
 | [],[],k,k1,xs,ids,vs,h,hk,hr,hd=>by
  simp only [xg_,Option.some.injEq,Prod.mk.injEq] at h
  obtain ⟨rfl,rfl,rfl⟩:=h
  cases vs with
  | nil=>exact ⟨hd,.refl _,[],trivial,rfl⟩
  | cons _ _=>exact hr.elim
 | c :: cs,ck :: ks,k,k1,xs,ids,[],h,hk,hr,hd=>hr.elim
 | c :: cs,.p :: ks,k,k1,xs,ids,v :: vs,h,hk,hr,hd=>by
  have h':(k.plain c).bind (fun x=>(xg_ k cs ks).bind fun r=>some (r.1,x :: r.2.1,r.2.2))=some (k1,xs,ids):=by
   cases c with
   | o id q=>cases q <;> exact h
   | p x=>exact h
   | n=>exact h
   | d=>exact h
  simp only [Option.bind_eq_some_iff,Option.some.injEq,Prod.mk.injEq] at h'
  obtain ⟨x,hx,⟨k2,ys,ids2⟩,h2,rfl,rfl,rfl⟩:=h'
  obtain ⟨g1,g2,is,g3,g4⟩:=ac4_ h2 hk hr.2 hd
  obtain ⟨t,ht,hden⟩:=avg_ hk hx hr.1
  exact ⟨g1,g2,none :: is,⟨rfl,by rw [ht];exact hden,g3⟩,by simpa using g4⟩
 | .p x :: cs,.s :: ks,k,k1,xs,ids,v :: vs,h,hk,hr,hd=>by
  simp only [xg_,Option.bind_eq_some_iff,Option.some.injEq,Prod.mk.injEq] at h
  obtain ⟨⟨k2,ys,ids2⟩,h2,rfl,rfl,rfl⟩:=h
  obtain ⟨hd2,r,hrr,hrv⟩:=Wk.em_done hd
  obtain ⟨g1,g2,is,g3,g4⟩:=ac4_ h2 hk hr.2 hd2
  obtain ⟨t,ht,hden⟩:=hr.1
  simp only [List.map_cons,List.map_nil,Lf.evo_ev ht,Prim.ev] at hrr
  split at hrr
  ·rename_i hsc
   cases hrr
   refine ⟨g1,g2.trans (Wk.em_same _ _ _),none :: is,⟨rfl,?_,?_,g3⟩,by simpa using g4⟩
   ·rw [Lf.evo_ev hrv];exact hden
   ·rw [Lf.evo_ev hrv];exact hsc
  ·cases hrr
 | .n :: cs,.o dp :: ks,k,k1,xs,ids,v :: vs,h,hk,hr,hd=>by
  simp only [xg_,Option.bind_eq_some_iff,Option.some.injEq,Prod.mk.injEq] at h
  obtain ⟨⟨k2,ys,ids2⟩,h2,rfl,rfl,rfl⟩:=h
  obtain ⟨g1,g2,is,g3,g4⟩:=ac4_ h2 hk hr.2 hd
  exact ⟨g1,g2,none :: is,⟨hr.1,rfl,g3⟩,by simpa using g4⟩
 | .o id [] :: cs,.o dp :: ks,k,k1,xs,ids,v :: vs,h,hk,hr,hd=>by
  simp only [xg_] at h
  split at h
  ·rename_i dp' x hx
   cases hdp:(dp' == dp) with
   | false=>simp [hdp] at h
   | true =>
    simp only [hdp,cond_true,Option.bind_eq_some_iff,Option.some.injEq,Prod.mk.injEq] at h
    simp only [beq_iff_eq] at hdp
    subst hdp
    obtain ⟨⟨k2,ys,ids2⟩,h2,rfl,rfl,rfl⟩:=h
    obtain ⟨g1,g2,is,g3,g4⟩:=ac4_ h2 hk hr.2 hd
    have hob:=hk id
    rw [hx] at hob
    obtain ⟨t,ht,hown⟩:=hob
    obtain ⟨p,hp,hv⟩:=hr.1
    simp only [yI_,Option.some.injEq] at hp
    subst hp
    exact ⟨g1,g2,some id :: is,⟨hv,by rw [Lf.evo_ev ht];exact hown,g3⟩,by simpa using g4⟩
  ·cases h
 | [],_ :: _,k,k1,xs,ids,vs,h,_,_,_=>by simp [xg_] at h
 | c :: _,[],k,k1,xs,ids,vs,h,_,_,_=>by simp [xg_] at h
 | .p _ :: _,.o _ :: _,k,k1,xs,ids,_ :: _,h,_,_,_=>by simp [xg_] at h
 | .n :: _,.s :: _,k,k1,xs,ids,_ :: _,h,_,_,_=>by simp [xg_] at h
 | .d :: _,.s :: _,k,k1,xs,ids,_ :: _,h,_,_,_=>by simp [xg_] at h
 | .d :: _,.o _ :: _,k,k1,xs,ids,_ :: _,h,_,_,_=>by simp [xg_] at h
 | .o _ _ :: _,.s :: _,k,k1,xs,ids,_ :: _,h,_,_,_=>by simp [xg_] at h
 | .o _ (_ :: _) :: _,.o _ :: _,k,k1,xs,ids,_ :: _,h,_,_,_=>by simp [xg_] at h
theorem kj_:∀ {cs:List Ce} {ks:List Ck} {k k1:Wk} {xs:List Lf} {ids:List Nat},xg_ k cs ks=some (k1,xs,ids)→k.Same k1
 | [],[],k,k1,xs,ids,h=>by
  simp only [xg_,Option.some.injEq,Prod.mk.injEq] at h
  obtain ⟨rfl,rfl,rfl⟩:=h
  exact .refl _
 | c :: cs,.p :: ks,k,k1,xs,ids,h=>by
  have h':(k.plain c).bind (fun x=>(xg_ k cs ks).bind fun r=>some (r.1,x :: r.2.1,r.2.2))=some (k1,xs,ids):=by
   cases c with
   | o id q=>cases q <;> exact h
   | p x=>exact h
   | n=>exact h
   | d=>exact h
  simp only [Option.bind_eq_some_iff,Option.some.injEq,Prod.mk.injEq] at h'
  obtain ⟨x,hx,⟨k2,ys,ids2⟩,h2,rfl,rfl,rfl⟩:=h'
  exact kj_ h2
 | .p x :: cs,.s :: ks,k,k1,xs,ids,h=>by
  simp only [xg_,Option.bind_eq_some_iff,Option.some.injEq,Prod.mk.injEq] at h
  obtain ⟨⟨k2,ys,ids2⟩,h2,rfl,rfl,rfl⟩:=h
  exact (kj_ h2).trans (Wk.em_same _ _ _)
 | .n :: cs,.o dp :: ks,k,k1,xs,ids,h=>by
  simp only [xg_,Option.bind_eq_some_iff,Option.some.injEq,Prod.mk.injEq] at h
  obtain ⟨⟨k2,ys,ids2⟩,h2,rfl,rfl,rfl⟩:=h
  exact kj_ h2
 | .o id [] :: cs,.o dp :: ks,k,k1,xs,ids,h=>by
  simp only [xg_] at h
  split at h
  ·rename_i dp' x hx
   cases hdp:(dp' == dp) with
   | false=>simp [hdp] at h
   | true =>
    simp only [hdp,cond_true,Option.bind_eq_some_iff,Option.some.injEq,Prod.mk.injEq] at h
    obtain ⟨⟨k2,ys,ids2⟩,h2,rfl,rfl,rfl⟩:=h
    exact kj_ h2
  ·cases h
 | [],_ :: _,k,k1,xs,ids,h=>by simp [xg_] at h
 | c :: _,[],k,k1,xs,ids,h=>by simp [xg_] at h
 | .p _ :: _,.o _ :: _,k,k1,xs,ids,h=>by simp [xg_] at h
 | .n :: _,.s :: _,k,k1,xs,ids,h=>by simp [xg_] at h
 | .d :: _,.s :: _,k,k1,xs,ids,h=>by simp [xg_] at h
 | .d :: _,.o _ :: _,k,k1,xs,ids,h=>by simp [xg_] at h
 | .o _ _ :: _,.s :: _,k,k1,xs,ids,h=>by simp [xg_] at h
 | .o _ (_ :: _) :: _,.o _ :: _,k,k1,xs,ids,h=>by simp [xg_] at h
theorem aix_:∀ {vs:List SV} {rs:List (Bool × List Ck)} {k k1:Wk} {xs:List Lf} {ids:List Nat},xP_ k vs rs=some (k1,xs,ids)→k.Same k1
 | [],[],k,k1,xs,ids,h=>by
  simp only [xP_,Option.some.injEq,Prod.mk.injEq] at h
  obtain ⟨rfl,rfl,rfl⟩:=h
  exact .refl _
 | .v ag cs :: vs,(ag',ks) :: rs,k,k1,xs,ids,h=>by
  simp only [xP_] at h
  cases hag:(ag == ag') with
  | false=>simp [hag] at h
  | true =>
   simp only [hag,cond_true,Option.bind_eq_some_iff,Option.some.injEq,Prod.mk.injEq] at h
   obtain ⟨⟨k2,ys,ids2⟩,h2,⟨k3,zs,ids3⟩,h3,rfl,rfl,rfl⟩:=h
   exact (aix_ h2).trans (kj_ h3)
 | [],_ :: _,k,k1,xs,ids,h=>by simp [xP_] at h
 | v :: _,[],k,k1,xs,ids,h=>by cases v <;> simp [xP_] at h
 | .un :: _,_ :: _,k,k1,xs,ids,h=>by simp [xP_] at h
 | .pt _ _ :: _,_ :: _,k,k1,xs,ids,h=>by simp [xP_] at h
 | .ep _ _ _ _ _ :: _,_ :: _,k,k1,xs,ids,h=>by simp [xP_] at h
 | .fp _ _ _ _ :: _,_ :: _,k,k1,xs,ids,h=>by simp [xP_] at h
 | .tp _ :: _,_ :: _,k,k1,xs,ids,h=>by simp [xP_] at h
 | .cl _ _ :: _,_ :: _,k,k1,xs,ids,h=>by simp [xP_] at h
 | .ob _ _ :: _,_ :: _,k,k1,xs,ids,h=>by simp [xP_] at h
 | .fz _ :: _,_ :: _,k,k1,xs,ids,h=>by simp [xP_] at h
theorem avt_:∀ {vs:List SV} {rs:List (Bool × List Ck)} {k k1:Wk} {xs:List Lf} {ids:List Nat} {us:List Value},xP_ k vs rs=some (k1,xs,ids)→(∀ id,RelObj G w ρ id (k.get (.o id)))→RelSVs G w ρ vs us→k1.Done S ρ →
  k.Done S ρ∧k.Same k1∧∃ is,OutVs G w rs us (xs.map (Lf.ev ρ)) is∧is.filterMap id=ids
 | [],[],k,k1,xs,ids,us,h,hk,hr,hd=>by
  simp only [xP_,Option.some.injEq,Prod.mk.injEq] at h
  obtain ⟨rfl,rfl,rfl⟩:=h
  cases us with
  | nil=>exact ⟨hd,.refl _,[],trivial,rfl⟩
  | cons _ _=>exact hr.elim
 | .v ag cs :: vs,(ag',ks) :: rs,k,k1,xs,ids,[],h,hk,hr,hd=>hr.elim
 | .v ag cs :: vs,(ag',ks) :: rs,k,k1,xs,ids,u :: us,h,hk,hr,hd=>by
  simp only [xP_] at h
  cases hag:(ag == ag') with
  | false=>simp [hag] at h
  | true =>
   simp only [hag,cond_true,Option.bind_eq_some_iff,Option.some.injEq,Prod.mk.injEq] at h
   simp only [beq_iff_eq] at hag
   subst hag
   obtain ⟨⟨k2,ys,ids2⟩,h2,⟨k3,zs,ids3⟩,h3,rfl,rfl,rfl⟩:=h
   have h0:=hr.1
   have key:∀ ws:List Value,RelCs G w ρ cs ws→(∀ is,OutCs G w ks ws (zs.map (Lf.ev ρ)) is→OutV G w (ag,ks) u (zs.map (Lf.ev ρ)) is) →
     k.Done S ρ∧k.Same k3∧∃ is,OutVs G w ((ag,ks) :: rs) (u :: us) ((zs++ys).map (Lf.ev ρ)) is∧is.filterMap id=ids3++ids2:=by
    intro ws hws hout
    have hsame:∀ {k':Wk},k.Same k'→∀ id,RelObj G w ρ id (k'.get (.o id)):=fun hs id=>by rw [hs.get];exact hk id
    have pre:k.Same k2:=aix_ h2
    obtain ⟨g1,g2,is,g3,g4⟩:=ac4_ h3 (hsame pre) hws hd
    obtain ⟨f1,f2,is2,f3,f4⟩:=avt_ h2 hk hr.2 g1
    exact ⟨f1,f2.trans g2,is++is2,⟨_,_,is,is2,List.map_append,rfl,hout is g3,f3⟩,by rw [List.filterMap_append,g4,f4]⟩
   cases ag with
   | true=>obtain ⟨ws,rfl,hws⟩:=h0;exact key ws hws fun is ho=>⟨ws,rfl,ho⟩
   | false=>obtain ⟨c,rfl,hc,hna⟩:=h0;exact key [u] ⟨hc,trivial⟩ fun is ho=>⟨ho,hna⟩
 | [],_ :: _,k,k1,xs,ids,us,h,_,_,_=>by simp [xP_] at h
 | v :: _,[],k,k1,xs,ids,us,h,_,_,_=>by cases v <;> simp [xP_] at h
 | .un :: _,_ :: _,k,k1,xs,ids,us,h,_,_,_=>by simp [xP_] at h
 | .pt _ _ :: _,_ :: _,k,k1,xs,ids,us,h,_,_,_=>by simp [xP_] at h
 | .ep _ _ _ _ _ :: _,_ :: _,k,k1,xs,ids,us,h,_,_,_=>by simp [xP_] at h
 | .fp _ _ _ _ :: _,_ :: _,k,k1,xs,ids,us,h,_,_,_=>by simp [xP_] at h
 | .tp _ :: _,_ :: _,k,k1,xs,ids,us,h,_,_,_=>by simp [xP_] at h
 | .cl _ _ :: _,_ :: _,k,k1,xs,ids,us,h,_,_,_=>by simp [xP_] at h
 | .ob _ _ :: _,_ :: _,k,k1,xs,ids,us,h,_,_,_=>by simp [xP_] at h
 | .fz _ :: _,_ :: _,k,k1,xs,ids,us,h,_,_,_=>by simp [xP_] at h
end
section
variable {ρ:List T} {w:World} {S:Nat→Sem1} {P:Program} {cx:Cx} {R:Nat} {out:List T}
def Gh.ini (ω:Nat→Option Lb) (bl:Nat→Option Nat):Gh where
 ω:=ω
 β:=fun i=>(bl i).getD 0
 H:=fun _ _=>.slice none 0 0
 hs:=fun _ _=>⟨_,_,_,rfl⟩
theorem avn_ {ω0:Nat→Option Lb} {bl:Nat→Option Nat}:∀ {ps:List PS} {args:List Value} {ts:List T} {i a:Nat},alp_ ω0 w bl i ps args ts→(∀ j t,ts[j]?=some t→ρ[a+j]?=some t) →
  (v5_ a i ps).1=a+ts.length∧args.length=ps.length∧(∀ n,(∃ m,ps[n]?=some (.x m))→bl (i+n)≠none) ∧
  ∀ r v,(r,v)∈(v5_ a i ps).2→(∃ n c,r=.t 0 (i+n)∧n < ps.length∧args[n]?=some c∧RelSV (Gh.ini ω0 bl) w ρ v c∧∀ j∈zs_ v,j < i+ps.length) ∨
   (∃ b,r=.x b∧b < i+ps.length∧RelBox (Gh.ini ω0 bl) w ρ b v∧zs_ v=[])
 | [],args,ts,i,a,h,hρ=>by
  obtain ⟨rfl,rfl⟩:=h
  exact ⟨rfl,rfl,fun n ⟨m,hm⟩=>by simp at hm,fun r v hm=>by simp [v5_] at hm⟩
 | .v ag n :: ps,args,ts,i,a,h,hρ=>by
  obtain ⟨c,args',vs,t1,t2,rfl,rfl,hl,hag,hd,h⟩:=h
  obtain ⟨g1,g2,g3,g4⟩:=avn_ (i:=i+1) (a:=a+n) h (fun j t hj=>by
   have:=hρ (n+j) t (by rw [List.getElem?_append_right (by omega),hl];simpa using hj)
   rw [← this];congr 1;omega)
  obtain ⟨r1,r2⟩:=aef_ (a:=a) (G:=Gh.ini ω0 bl) hl hd (fun j t hj=>hρ j t (by rw [List.getElem?_append_left (List.getElem?_eq_some_iff.1 hj).1];exact hj))
  refine ⟨by simp only [v5_,List.length_append];omega,by simp [g2],fun n' ⟨m,hm⟩=>?_,fun r v hm=>?_⟩
  ·cases n' with
   | zero=>simp at hm
   | succ n'=>have:=g3 n' ⟨m,by simpa using hm⟩;rwa [show i+1+n'=i+(n'+1) by omega] at this
  ·simp only [v5_,List.mem_cons,Prod.mk.injEq] at hm
   simp only [List.length_cons]
   rcases hm with ⟨rfl,rfl⟩ | hm
   ·left
    refine ⟨0,c,by simp,by omega,rfl,?_,fun j hj=>by rw [show zs_ (.v ag (vj_ a n))=zq_ (vj_ a n) from rfl,r2] at hj;cases hj⟩
    cases ag with
    | true=>exact ⟨vs,hag,r1⟩
    | false =>
     obtain ⟨rfl,hna⟩:=hag
     match h0:vj_ a n,r1 with
     | [x],r1=>exact ⟨x,h0.symm ▸ h0,r1.1,hna⟩
   ·rcases g4 r v hm with ⟨n',c',e1,e2,e3,e4,e5⟩ | ⟨b,e1,e2,e3,e4⟩
    ·exact .inl ⟨n'+1,c',by rw [e1];congr 1;omega,by omega,by simpa using e3,e4,fun j hj=>by have:=e5 j hj;omega⟩
    ·exact .inr ⟨b,e1,by omega,e3,e4⟩
 | .x n :: ps,args,ts,i,a,h,hρ=>by
  obtain ⟨c,args',b,arr,elem,t1,t2,rfl,hc,hb,hω,hh,rfl,hl,hd,h⟩:=h
  obtain ⟨g1,g2,g3,g4⟩:=avn_ (i:=i+1) (a:=a+n) h (fun j t hj=>by
   have:=hρ (n+j) t (by rw [List.getElem?_append_right (by omega),hl];simpa using hj)
   rw [← this];congr 1;omega)
  obtain ⟨r1,r2⟩:=aef_ (a:=a) (G:=Gh.ini ω0 bl) hl hd (fun j t hj=>hρ j t (by rw [List.getElem?_append_left (List.getElem?_eq_some_iff.1 hj).1];exact hj))
  have hβ:(Gh.ini ω0 bl).β i=b:=by simp [Gh.ini,hb]
  refine ⟨by simp only [v5_,List.length_append];omega,by simp [g2],fun n' ⟨m,hm⟩=>?_,fun r v hm=>?_⟩
  ·cases n' with
   | zero=>rw [Nat.add_zero,hb];simp
   | succ n'=>have:=g3 n' ⟨m,by simpa using hm⟩;rwa [show i+1+n'=i+(n'+1) by omega] at this
  ·simp only [v5_,List.mem_cons,Prod.mk.injEq] at hm
   simp only [List.length_cons]
   rcases hm with ⟨rfl,rfl⟩ | ⟨rfl,rfl⟩ | hm
   ·exact .inl ⟨0,c,by simp,by omega,rfl,by rw [RelSV,hβ];exact hc,fun j hj=>by simp [zs_] at hj;omega⟩
   ·exact .inr ⟨i,rfl,by omega,⟨by rw [hβ];exact hω,arr,elem,by rw [hβ];exact hh,r1⟩,r2⟩
   ·rcases g4 r v hm with ⟨n',c',e1,e2,e3,e4,e5⟩ | ⟨b,e1,e2,e3,e4⟩
    ·exact .inl ⟨n'+1,c',by rw [e1];congr 1;omega,by omega,by simpa using e3,e4,fun j hj=>by have:=e5 j hj;omega⟩
    ·exact .inr ⟨b,e1,by omega,e3,e4⟩
theorem anm_ {G:Gh} {bl:Nat→Option Nat} {k:Wk} (hk:∀ id,RelObj G w ρ id (k.get (.o id))) (hx:∀ b,RelBox G w ρ b (k.get (.x b))) (hbl:∀ i b,bl i=some b→G.β i=b) :
  ∀ {ps:List PS} {i:Nat} {xs:List Lf},alj_ k i ps=some xs→(∀ n,(∃ m,ps[n]?=some (.x m))→bl (i+n)≠none)→ac8_ G w bl i ps (xs.map (Lf.ev ρ))
 | [],i,xs,h,_=>by simp [alj_] at h;subst h;rfl
 | .v _ _ :: ps,i,xs,h,hn=>anm_ (ps:=ps) (i:=i+1) hk hx hbl h fun n ⟨m,hm⟩=>by have:=hn (n+1) ⟨m,by simpa using hm⟩;rwa [show i+1+n=i+(n+1) by omega]
 | .x n :: ps,i,xs,h,hn=>by
  simp only [alj_] at h
  split at h
  ·rename_i ag cs hcs
   cases hb:Nat.beq cs.length n with
   | false=>simp [hb] at h
   | true =>
    simp only [hb,cond_true,Option.bind_eq_some_iff,Option.some.injEq] at h
    obtain ⟨x1,h1,x2,h2,rfl⟩:=h
    have hbox:=hx i
    rw [hcs] at hbox
    obtain ⟨g1,arr,elem,g2,g3⟩:=hbox
    obtain ⟨f1,f2⟩:=asv_ hk h1 g3
    cases hbi:bl i with
    | none=>exact absurd hbi (by have:=hn 0 ⟨n,rfl⟩;simpa using this)
    | some b =>
     have hβ:=hbl i b hbi
     rw [hβ] at g1 g2
     exact ⟨b,arr,elem,_,_,hbi,g1,g2,List.map_append,by rw [List.length_map,f2];exact Nat.eq_of_beq_eq_true hb,f1,
      anm_ hk hx hbl h2 fun n ⟨m,hm⟩=>by have:=hn (n+1) ⟨m,by simpa using hm⟩;rwa [show i+1+n=i+(n+1) by omega]⟩
  ·cases h
theorem OutVs.len {G':Gh} {w':World}:∀ {rs:List (Bool × List Ck)} {vs:List Value} {ts:List T} {is:List (Option Nat)},OutVs G' w' rs vs ts is→rs.length=vs.length
 | [],[],[],[],_=>rfl
 | r :: rs,v :: vs,ts,is,h=>by
  obtain ⟨t1,t2,i1,i2,rfl,rfl,h1,h2⟩:=h
  simp [OutVs.len h2]
 | [],[],_ :: _,_,h=>h.elim
 | [],[],[],_ :: _,h=>h.elim
 | [],_ :: _,_,_,h=>h.elim
 | _ :: _,[],_,_,h=>h.elim
theorem aQy_ {G':Gh} {w':World} {rs:List (Bool × List Ck)} {vs:List Value} {ts:List T} {is:List (Option Nat)} (h:OutVs G' w' rs vs ts is):RetV G' w' rs (tupV vs) ts is:=by
 have hl:=h.len
 match rs,vs,h,hl with
 | [],[],h,_ =>
  cases ts with
  | nil=>cases is with
   | nil=>exact ⟨rfl,rfl⟩
   | cons _ _=>exact h.elim
  | cons _ _=>exact h.elim
 | [r],[v],h,_=>exact h
 | r :: r' :: rs,v :: v' :: vs,h,_ =>
  refine ⟨v :: v' :: vs,?_,h⟩
  unfold tupV
  rw [dif_neg (by simp)]
theorem RelSVs.ext {G:Gh} {e:List T}:∀ {vs:List SV} {us:List Value},RelSVs G w ρ vs us→RelSVs G w (ρ++e) vs us
 | [],[],_=>trivial
 | _ :: _,_ :: _,h=>⟨h.1.ext,RelSVs.ext h.2⟩
 | [],_ :: _,h=>h.elim
 | _ :: _,[],h=>h.elim
theorem ar7_ {n fid:Nat} {fn:Func} {sg:Sig} {pl:PL} (E:Env P cx S) (hmx:P.follows .mixedOrders=true) (hf:P.funcs[fid]?=some fn) (h:aqn_ cx n fid fn sg=some pl) :
  aqr_ P sg fid fun ts=>pl.den S R [] ts:=by
 intro w ω0 bl args ts outs hF hst hin
 unfold aqn_ at h
 simp only [Option.bind_eq_some_iff] at h
 obtain ⟨c,hc,h⟩:=h
 cases hb:(qd_ fn.ntmps c && Nat.ble sg.ps.length fn.ntmps) with
 | false=>simp [hb] at h
 | true =>
  simp only [hb,cond_true] at h
  simp only [Bool.and_eq_true] at hb
  have hnt:=Nat.le_of_ble_eq_true hb.2
  obtain ⟨g1,g2,g3,g4⟩:=avn_ (ρ:=ts) (i:=0) (a:=0) hin (fun j t hj=>by rw [Nat.zero_add];exact hj)
  simp only [Nat.zero_add] at g1 g3 g4
  have hlook:∀ r,(v5_ 0 0 sg.ps).2.get r=.un∨(r,(v5_ 0 0 sg.ps).2.get r)∈(v5_ 0 0 sg.ps).2:=by
   intro r
   rw [St.look_get]
   cases hl:(v5_ 0 0 sg.ps).2.look r with
   | none=>exact .inl rfl
   | some v=>exact .inr (ahj_ hl)
  refine calls_of_wp hf hc ?_
  have hsz:(args.toArray++Array.replicate (fn.ntmps - args.toArray.size) undef:Array Value).size=fn.ntmps:=by simp;omega
  have hrel:Rel (fun i=>i < sg.ps.length+1) ⟨w,ω0,bl⟩ 0 (fun _ _=>undef) (v5_ 0 0 sg.ps).2 ts (Gh.ini ω0 bl) { tmps:=args.toArray++Array.replicate (fn.ntmps - args.toArray.size) undef,defers:=[] } w:=by
   refine ⟨fun e m he=>?_,fun b=>?_,fun i=>?_,fun r i hi=>?_,fun i hi=>?_,fun b l hb=>?_,rfl,⟨rfl,rfl,rfl,Nat.le_refl _,fun b _ hb=>⟨hb,rfl⟩,fun b hb=>⟨hb,rfl⟩⟩,fun i b hb=>⟨by have:=(hst.bl i b hb).1;omega,by show (bl i).getD 0=b;rw [show bl i=some b from hb];rfl⟩⟩
   ·obtain rfl:e=0:=by omega
    rcases hlook (.t 0 m) with hu | hm
    ·rw [hu];trivial
    ·rcases g4 _ _ hm with ⟨k,c',e1,e2,e3,e4,_⟩ | ⟨b,e1,_⟩
     ·cases e1
      simp only [tmv,if_true]
      rw [Array.getD_eq_getD_getElem?,Array.getElem?_append_left (by simp;omega),List.getElem?_toArray,e3]
      exact e4
     ·cases e1
   ·rcases hlook (.x b) with hu | hm
    ·rw [hu];trivial
    ·rcases g4 _ _ hm with ⟨k,c',e1,_⟩ | ⟨b',e1,_,e2,_⟩
     ·cases e1
     ·cases e1;exact e2
   ·rcases hlook (.o i) with hu | hm
    ·rw [hu];trivial
    ·rcases g4 _ _ hm with ⟨k,c',e1,_⟩ | ⟨b',e1,_⟩ <;> cases e1
   ·rcases hlook r with hu | hm
    ·rw [hu] at hi;simp [zs_] at hi
    ·rcases g4 _ _ hm with ⟨k,c',_,_,_,_,e5⟩ | ⟨b',_,_,_,e4⟩
     ·have:=e5 i hi;omega
     ·rw [e4] at hi;cases hi
   ·rcases hi with hi | hi
    ·rcases hlook (.x i) with hu | hm
     ·exact absurd hu hi
     ·rcases g4 _ _ hm with ⟨k,c',e1,_⟩ | ⟨b',e1,e2,_⟩
      ·cases e1
      ·cases e1;omega
    ·rcases hlook (.o i) with hu | hm
     ·exact absurd hu hi
     ·rcases g4 _ _ hm with ⟨k,c',e1,_⟩ | ⟨b',e1,_⟩ <;> cases e1
   ·obtain ⟨q1,q2⟩:=hst.lab b l hb
    refine ⟨?_,q1⟩
    rcases q2 with rfl | ⟨i,rfl,hi⟩
    ·show 0 < sg.ps.length+1;omega
    ·have:=(hst.bl i b hi).1;show i < _;omega
  refine aC9_ (f:=⟨0,fun _ _=>undef,fn.ntmps⟩) (R:=R) (out:=outs) (B:=⟨w,ω0,bl⟩) E (aDo_ E hmx n) hmx c 0 0 _ ⟨(v5_ 0 0 sg.ps).1,sg.ps.length+1⟩ [] _ pl _ w ⟨[],ts⟩ _ hb.1 h
   ⟨[],ts,Gh.ini ω0 bl,hF,rfl,⟨[],rfl⟩,⟨[],by simp⟩,g1.symm,fun n b hn=>by simp [fact] at hn,hrel,hsz,trivial⟩ fun e=>?_
  have fin:∀ (lv':Nat) (s':St) (ct':Ct) (fs':yQ_) (p':PL) (a2:Act) (w2:World),endK cx fn sg lv' s' ct' fs'=some p'→At S R outs ⟨w,ω0,bl⟩ ⟨0,fun _ _=>undef,fn.ntmps⟩ ⟨[],ts⟩ XT p' lv' s' ct' fs' a2 w2 →
    a2.defers=[]∧∃ v,(Go.results fn a2.tmps).run P w2=.ok v w2∧∃ v' G is o1 o2,Ending.returned v=.returned v'∧Post sg w ω0 bl outs v' w2 G is o1 o2:=by
   rintro lv' s' ct' fs' p' a2 w2 hk ⟨K2,ρ2,G2,d1,d2,d3,d4,d5,d6,d7,d8,_⟩
   unfold endK at hk
   rw [Option.bind_eq_some_iff] at hk
   obtain ⟨vs,hvs,hk⟩:=hk
   obtain ⟨us,u1,u2,u3⟩:=ai1_ E.tys d7 hvs
   refine ⟨d7.dn,tupV us,am2_ u1,?_⟩
   simp only at hk
   split at hk
   ·cases hk;cases d1
   ·rename_i k xs ids hov
    split at hk
    ·cases hk;cases d1
    ·rename_i ys hys
     cases hnd:ada_ ids with
     | false=>rw [hnd] at hk;simp only [cond_false,Option.some.injEq] at hk;subst hk;cases d1
     | true =>
      rw [hnd] at hk
      simp only [cond_true] at hk
      cases hck:(Nat.beq k.ct.a (ct'.a+isz k.is) && abk_ k.ct.a k.is) with
      | false=>rw [hck] at hk;cases hk
      | true =>
       rw [hck] at hk
       simp only [cond_true,Option.some.injEq] at hk
       subst hk
       simp only [Bool.and_eq_true] at hck
       have hca:=Nat.eq_of_beq_eq_true hck.1
       obtain ⟨tz,w1,w3,w4⟩:=ah7_ (S:=S) (R:=R) (K:=K2) (out:=outs) (ρ:=ρ2) (by rw [d5,← hca];exact hck.2) d1
       have hdone:k.Done S (ρ2++tz):=by
        have:=w4 []
        rw [List.append_nil,d5,← hca] at this
        exact this
       obtain ⟨G3,d9,hless⟩:=(d7.ext (e:=tz)).acts (l:=alm_ vs sg.rs++ak5_ s' 0 sg.ps)
       have hvals:RelSVs G3 w2 (ρ2++tz) vs us:=RelSVs.keep (hless.keep w2) (RelSVs.ext u2)
       have hg:∀ r,k.get r=(aap_ s' (alm_ vs sg.rs++ak5_ s' 0 sg.ps)).get r:=fun r=>(aix_ hov).get r
       obtain ⟨_,_,is,v3,v4⟩:=avt_ hov (fun id=>d9.ob id) hvals hdone
       simp only [PL.den,Option.some.injEq,List.map_append] at w3
       refine ⟨tupV us,G3,is,_,_,rfl,⟨⟨d9.base.os,d9.base.tape,d9.base.output⟩,d9.base.size,d9.base.free,d9.base.frn,fun b l hb=>(d9.lab b l hb).2,w3.symm,?_,aQy_ v3,?_⟩⟩
       ·rw [v4];exact akd_ hnd
       ·exact anm_ (k:=k) (fun id=>by rw [hg];exact d9.ob id) (fun b=>by rw [hg];exact d9.bx b) (fun i b hb=>(d9.bt i b hb).2) hys fun n hn=>by rw [Nat.zero_add];exact g3 n hn
  cases e with
  | normal=>intro lv' s' ct' fs' p' a2 w2 hk2 hat2;exact fin lv' s' ct' fs' p' a2 w2 hk2 hat2
  | ret=>intro lv' s' ct' fs' p' a2 w2 hk2 hat2;exact fin lv' s' ct' fs' p' a2 w2 hk2 hat2
  | exit id=>intro lv' s' ct' fs' p' a2 w2 hk2 hat2;cases hk2
end
end Go.Proofs.YtiebbbmibbkpcaaGreatC
namespace Go.Proofs.YtiebbbmibbkpcaaGreatC
def pick (l:List (Nat × Sem1)) (g:Nat):Sem1 :=
 match l with
 | []=>fun _=>none
 | e :: l=>bif Nat.beq e.1 g then e.2 else pick l g
def Q (p:Prim) (l:List Lf) (r:PL):PL:=.ins (.pr p l) r
def I (n:Int):Lf:=.k (.int .i64 n)
instance Lfn {n:Nat}:OfNat Lf n:=⟨.a n⟩
def Qc (w i:Nat) (l:List Lf) (r:PL):PL:=.ins (.pr (.cell w i) l) r
def Qz (l:List Lf) (r:PL):PL:=.ins (.pr (.scl) l) r
def Qa (l:List Lf) (r:PL):PL:=.ins (.pr (.bin .add) l) r
def Qb (l:List Lf) (r:PL):PL:=.ins (.pr (.bnd) l) r
def Ql (l:List Lf) (r:PL):PL:=.ins (.pr (.bin .lss) l) r
def Qe (l:List Lf) (r:PL):PL:=.ins (.pr (.bin .eql) l) r
def Qn (l:List Lf) (r:PL):PL:=.ins (.pr (.len) l) r
def Qt (l:List Lf) (r:PL):PL:=.ins (.pr (.un .not) l) r
def Qp (l:List Lf) (r:PL):PL:=.ins (.pr (.app true 1) l) r
def Qo (l:List Lf) (r:PL):PL:=.ins (.pr (.app false 3) l) r
def Qu (l:List Lf) (r:PL):PL:=.ins (.pr (.bin .neq) l) r
def Qg (l:List Lf) (r:PL):PL:=.ins (.pr (.bin .gtr) l) r
def Qm (l:List Lf) (r:PL):PL:=.ins (.pr (.bin .leq) l) r
def Qh (l:List Lf) (r:PL):PL:=.ins (.pr (.bin .geq) l) r
def Qs (l:List Lf) (r:PL):PL:=.ins (.pr (.bin .sub) l) r
def Qv (l:List Lf) (r:PL):PL:=.ins (.pr (.sub 1 true false) l) r
def Qw (l:List Lf) (r:PL):PL:=.ins (.pr (.sub 1 false true) l) r
def Qx (l:List Lf) (r:PL):PL:=.ins (.pr (.lit 1 [true]) l) r
def Qy (l:List Lf) (r:PL):PL:=.ins (.pr (.app false 8) l) r
def Qq (l:List Lf) (r:PL):PL:=.ins (.pr .bnd l) <| .ins (.pr (.scell 1 0) l) r
def Q1 (l:List Lf) (r:PL):PL:=.ins (.pr .bnd l) <| .ins (.pr (.cell 1 0) l) <| r
def Q2 (l:List Lf) (r:PL):PL:=.ins (.pr .bnd l) <| .ins (.pr (.cell 2 0) l) <| .ins (.pr (.cell 2 1) l) <| r
def Q3 (l:List Lf) (r:PL):PL:=.ins (.pr .bnd l) <| .ins (.pr (.cell 3 0) l) <| .ins (.pr (.cell 3 1) l) <| .ins (.pr (.cell 3 2) l) <| r
def Q4 (l:List Lf) (r:PL):PL:=.ins (.pr .bnd l) <| .ins (.pr (.cell 4 0) l) <| .ins (.pr (.cell 4 1) l) <| .ins (.pr (.cell 4 2) l) <| .ins (.pr (.cell 4 3) l) <| r
def Q8 (l:List Lf) (r:PL):PL:=.ins (.pr .bnd l) <| .ins (.pr (.cell 8 0) l) <| .ins (.pr (.cell 8 1) l) <| .ins (.pr (.cell 8 2) l) <| .ins (.pr (.cell 8 3) l) <| .ins (.pr (.cell 8 4) l) <| .ins (.pr (.cell 8 5) l) <| .ins (.pr (.cell 8 6) l) <| .ins (.pr (.cell 8 7) l) <| r
def Qi (g:Nat) (l:List Lf) (m:Nat) (r:PL):PL:=.ins (.cl g l m) r
def Fs (p:PL) (l:List (Nat × Sem1)):Sem1:=fun ts=>p.den (pick l) rounds [] ts
end Go.Proofs.YtiebbbmibbkpcaaGreatC
namespace Go.Proofs.YtiebbbmibbkpcaaGreatC
inductive Ty where
 | i (k:IntKind)
 | b
 | s
 | sl (fs:List Ty)
mutual
def WT:Ty→T→Prop
 | .i k,t=>∃ n,t=.c (.int k n)∧(Lit.int k n).wf=true
 | .b,t=>∃ b,t=.c (.bool b)
 | .s,t=>∃ s:ByteArray,t=.c (.string s)∧s.size≤maxLen
 | .sl fs,t=>∃ xs,t=.l xs∧xs.length≤maxLen∧∀ r∈xs,WTs fs r
def WTs:List Ty→List T→Prop
 | [],ts=>ts=[]
 | f :: fs,ts=>∃ t ts',ts=t :: ts'∧WT f t∧WTs fs ts'
end
def WTsU:List Ty→List T→Prop
 | [],ts=>ts=[]
 | f :: fs,ts=>∃ t ts',ts=t :: ts'∧(match f with
  | .i k=>∃ n,t=.c (.int k n)∧(Lit.int k n).wf=true
  | .b=>∃ b,t=.c (.bool b)
  | .s=>∃ s:ByteArray,t=.c (.string s)∧s.size≤maxLen
  | .sl gs=>WT (.sl gs) t)∧WTsU fs ts'
theorem wo_:∀ {fs:List Ty} {ts:List T},WTs fs ts→WTsU fs ts
 | [],ts,h=>by unfold WTs at h;exact h
 | f :: fs,ts,h=>by
  unfold WTs at h
  obtain ⟨t,ts',rfl,h1,h2⟩:=h
  refine ⟨t,ts',rfl,?_,wo_ h2⟩
  cases f with
  | i k=>unfold WT at h1;exact h1
  | b=>unfold WT at h1;exact h1
  | s=>unfold WT at h1;exact h1
  | sl gs=>exact h1
theorem wl_:∀ {fs:List Ty} {ts:List T},WTsU fs ts→WTs fs ts
 | [],ts,h=>by unfold WTs;exact h
 | f :: fs,ts,h=>by
  obtain ⟨t,ts',rfl,h1,h2⟩:=h
  unfold WTs
  refine ⟨t,ts',rfl,?_,wl_ h2⟩
  cases f with
  | i k=>unfold WT;exact h1
  | b=>unfold WT;exact h1
  | s=>unfold WT;exact h1
  | sl gs=>exact h1
theorem WTs.append:∀ {fs gs:List Ty} {ts us:List T},WTs fs ts→WTs gs us→WTs (fs++gs) (ts++us)
 | [],gs,ts,us,h,h'=>by
  unfold WTs at h
  subst h
  exact h'
 | f :: fs,gs,ts,us,h,h'=>by
  unfold WTs at h
  obtain ⟨t,ts',rfl,h1,h2⟩:=h
  show WTs (f :: (fs++gs)) (t :: (ts'++us))
  unfold WTs
  exact ⟨t,_,rfl,h1,h2.append h'⟩
theorem WTs.length:∀ {fs:List Ty} {ts:List T},WTs fs ts→ts.length=fs.length
 | [],ts,h=>by
  unfold WTs at h
  subst h
  rfl
 | f :: fs,ts,h=>by
  unfold WTs at h
  obtain ⟨t,ts',rfl,h1,h2⟩:=h
  simp [h2.length]
mutual
def bulk:T→Nat
 | .c (.string s)=>s.size
 | .c _=>0
 | .l xs=>zH_ xs
def xc_:List T→Nat
 | []=>0
 | t :: ts=>bulk t+xc_ ts
def zH_:List (List T)→Nat
 | []=>0
 | r :: rs=>1+(xc_ r+zH_ rs)
end
theorem q3_:∀ (xs:List (List T)),xs.length≤zH_ xs
 | []=>by simp [zH_]
 | r :: rs=>by have:=q3_ rs;simp [zH_];omega
theorem kc_:∀ {xs:List (List T)} {i:Nat} {r:List T},xs[i]?=some r→xc_ r+1≤zH_ xs
 | [],_,_,h=>by simp at h
 | r' :: rs,0,r,h=>by simp at h;subst h;simp [zH_];omega
 | r' :: rs,i+1,r,h=>by
  have:=kc_ (xs:=rs) (i:=i) (r:=r) (by simpa using h)
  simp [zH_];omega
theorem jA_:∀ {xs:List (List T)} {i:Nat} {r:List T},xs[i]?=some r→zH_ (xs.take (i+1))=zH_ (xs.take i)+(xc_ r+1)
 | [],_,_,h=>by simp at h
 | r' :: rs,0,r,h=>by simp at h;subst h;simp [zH_];omega
 | r' :: rs,i+1,r,h=>by
  have:=jA_ (xs:=rs) (i:=i) (r:=r) (by simpa using h)
  simp only [List.take_succ_cons,zH_,this];omega
theorem ajj_ (xs ys:List (List T)):zH_ (xs++ys)=zH_ xs+zH_ ys:=by
 induction xs with
 | nil=>simp [zH_]
 | cons r rs ih=>simp [zH_,ih];omega
theorem z3_ (xs:List (List T)):bulk (.l xs)=zH_ xs:=by simp only [bulk]
theorem yw_ (k:IntKind) (n:Int):bulk (.c (.int k n))=0:=by simp only [bulk]
theorem yB_ (b:Bool):bulk (.c (.bool b))=0:=by simp only [bulk]
theorem xG_ (s:ByteArray):bulk (.c (.string s))=s.size:=by simp only [bulk]
theorem zx_:xc_ []=0:=by simp only [xc_]
theorem zo_ (t:T) (ts:List T):xc_ (t :: ts)=bulk t+xc_ ts:=by simp only [xc_]
theorem za_ {α β:Type} (a:α) (f:α→Option β):(some a).bind f=f a:=rfl
theorem je_ {n:Int} (h:-9223372036854775808≤n) (h':n < 9223372036854775808):IntKind.i64.wrap n=n:=by
 simp [IntKind.wrap,IntKind.bits,IntKind.signed]
 omega
theorem wT_ (xs:List (List T)):Prim.ev .len [.l xs]=some (.c (.int .i64 xs.length)):=rfl
theorem aC1_ (s:ByteArray):Prim.ev .lens [.c (.string s)]=some (.c (.int .i64 s.size)):=rfl
theorem adc_ (k:IntKind) (n:Int):Prim.ev .scl [.c (.int k n)]=some (.c (.int k n)):=rfl
theorem ahu_ (b:Bool):Prim.ev .scl [.c (.bool b)]=some (.c (.bool b)):=rfl
theorem aw7_ (s:ByteArray):Prim.ev .scl [.c (.string s)]=some (.c (.string s)):=rfl
theorem vu_ (k:IntKind) (a b:Int):Prim.ev (.bin .lss) [.c (.int k a),.c (.int k b)]=some (.c (.bool (decide (a < b)))):=by simp [Prim.ev,T.val,binV]
theorem aH3_ (k:IntKind) (a b:Int):Prim.ev (.bin .leq) [.c (.int k a),.c (.int k b)]=some (.c (.bool (decide (a≤b)))):=by simp [Prim.ev,T.val,binV]
theorem aLe_ (k:IntKind) (a b:Int):Prim.ev (.bin .gtr) [.c (.int k a),.c (.int k b)]=some (.c (.bool (decide (a > b)))):=by simp [Prim.ev,T.val,binV]
theorem aIn_ (k:IntKind) (a b:Int):Prim.ev (.bin .geq) [.c (.int k a),.c (.int k b)]=some (.c (.bool (decide (a ≥ b)))):=by simp [Prim.ev,T.val,binV]
theorem apc_ (k:IntKind) (a b:Int):Prim.ev (.bin .eql) [.c (.int k a),.c (.int k b)]=some (.c (.bool (a == b))):=by simp [Prim.ev,T.val,binV]
theorem afp_ (k:IntKind) (a b:Int):Prim.ev (.bin .neq) [.c (.int k a),.c (.int k b)]=some (.c (.bool (a != b))):=by simp [Prim.ev,T.val,binV]
theorem qj_ (k:IntKind) (a b:Int):Prim.ev (.bin .add) [.c (.int k a),.c (.int k b)]=some (.c (.int k (k.wrap (a+b)))):=by simp [Prim.ev,T.val,binV]
theorem aok_ (k:IntKind) (a b:Int):Prim.ev (.bin .sub) [.c (.int k a),.c (.int k b)]=some (.c (.int k (k.wrap (a - b)))):=by simp [Prim.ev,T.val,binV]
theorem aRr_ (k:IntKind) (a b:Int):Prim.ev (.bin .mul) [.c (.int k a),.c (.int k b)]=some (.c (.int k (k.wrap (a * b)))):=by simp [Prim.ev,T.val,binV]
theorem aDp_ (a b:ByteArray):Prim.ev (.bin .eql) [.c (.string a),.c (.string b)]=some (.c (.bool (a.toList == b.toList))):=by simp [Prim.ev,T.val,binV]
theorem aDf_ (a b:ByteArray):Prim.ev (.bin .neq) [.c (.string a),.c (.string b)]=some (.c (.bool !(a.toList == b.toList))):=by simp [Prim.ev,T.val,binV]
theorem any_ (a b:Bool):Prim.ev (.bb .neq) [.c (.bool a),.c (.bool b)]=some (.c (.bool (a != b))):=by cases a <;> cases b <;> rfl
theorem ayg_ (a b:Bool):Prim.ev (.bb .eql) [.c (.bool a),.c (.bool b)]=some (.c (.bool (a == b))):=by cases a <;> cases b <;> rfl
theorem av6_ (a:Bool):Prim.ev (.un .not) [.c (.bool a)]=some (.c (.bool !a)):=by cases a <;> rfl
theorem acs_ {xs:List (List T)} {i:Nat} {r:List T} {k:IntKind} (h:xs[i]?=some r):uM_ (.l xs) (.c (.int k (i:Int)))=some r:=by
 simp [uM_,T.rows,T.int,h]
theorem jg_ {xs:List (List T)} {i:Nat} {r:List T} {k:IntKind} (h:xs[i]?=some r):Prim.ev .bnd [.l xs,.c (.int k (i:Int))]=some (.c (.bool true)):=by
 simp [Prim.ev,acs_ h]
theorem aqz_ {xs:List (List T)} {i w j:Nat} {r:List T} {t:T} {k:IntKind} (h:xs[i]?=some r) (hw:r.length=w) (hj:r[j]?=some t):Prim.ev (.cell w j) [.l xs,.c (.int k (i:Int))]=some t:=by
 simp [Prim.ev,acs_ h,hw,hj]
theorem au7_ {sc:Bool} {xs:List (List T)} {i w off n:Nat} {r vs:List T} {k:IntKind} (h:xs[i]?=some r) (hw:r.length=w) (ho:off+n≤w) (hv:vs.length=n) (hs:(!sc || vs.all scal)=true) :
  Prim.ev (.put sc w off n) (.l xs :: .c (.int k (i:Int)) :: vs)=some (.l (setRow xs i off vs)):=by
 simp only [Prim.ev,acs_ h,hw,ho,hv,hs,T.rows,T.int,Option.bind_some,if_true,Int.toNat_natCast]
theorem aPb_ {k k':IntKind} {n:Nat} {ts:List T} (h:n < vy_):Prim.ev .mk (.c (.int k (n:Int)) :: .c (.int k' (n:Int)) :: ts)=some (.l (List.replicate n ts)):=by
 unfold vy_ at h
 simp [Prim.ev,vy_,show (n:Int) < 4294967296 by omega]
theorem ags_ {α β:Type} {F:(α→Option β)→α→Option β} {n:Nat} (st:Nat→α) {out:β} (h:∀ i,i < n→∀ self,F self (st i)=self (st (i+1))) (hn:∀ self,F self (st n)=some out) :
  ∀ R,n < R→iter F R (st 0)=some out:=by
 have:∀ d i,i+d=n→∀ R,d < R→iter F R (st i)=some out:=by
  intro d
  induction d with
  | zero =>
   intro i hi R hR
   cases R with
   | zero=>omega
   | succ R=>rw [Nat.add_zero] at hi;subst hi;exact hn _
  | succ d ih =>
   intro i hi R hR
   cases R with
   | zero=>omega
   | succ R=>unfold iter;rw [h i (by omega)];exact ih (i+1) (by omega) R (by omega)
 intro R hR
 exact this n 0 (by omega) R hR
theorem uT_ {S:Nat→Sem1} {R:Nat} {K:List Sem1} {ρ:List T} (xs:List Lf):PL.den S R K ρ (.ret xs)=some (xs.map (Lf.ev ρ)):=by simp only [PL.den]
theorem y1_ {S:Nat→Sem1} {R:Nat} {K:List Sem1} {ρ:List T} (p:Prim) (xs:List Lf) (k:PL):PL.den S R K ρ (.ins (.pr p xs) k)=(p.ev (xs.map (Lf.ev ρ))).bind fun t=>k.den S R K (ρ++[t]):=by simp only [PL.den]
theorem jz_ {S:Nat→Sem1} {R:Nat} {K:List Sem1} {ρ:List T} (g:Nat) (xs:List Lf) (m:Nat) (k:PL):PL.den S R K ρ (.ins (.cl g xs m) k)=(S g (xs.map (Lf.ev ρ))).bind fun ts=>k.den S R K (ρ++ym_ ts 0 m):=by simp only [PL.den]
def ifT (t:T) (x y:Option (List T)):Option (List T):=match t with
 | .c (.bool b)=>bif b then x else y
 | _=>none
theorem w6_ (b:Bool) (x y:Option (List T)):ifT (.c (.bool b)) x y=bif b then x else y:=rfl
theorem wb_ {S:Nat→Sem1} {R:Nat} {K:List Sem1} {ρ:List T} (c:Nat) (x y:PL):PL.den S R K ρ (.ite c x y)=ifT (ρ.getD c T.dft) (x.den S R K ρ) (y.den S R K ρ):=by
 simp only [PL.den,ifT]
 generalize ρ.getD c T.dft=t
 cases t with
 | c v=>cases v <;> rfl
 | l xs=>rfl
theorem af8_ {S:Nat→Sem1} {R:Nat} {K:List Sem1} {ρ:List T} (xs:List Lf) (b:PL):PL.den S R K ρ (.loop xs b)=iter (fun self ts=>b.den S R (self :: K) (ρ++ts)) R (xs.map (Lf.ev ρ)):=by simp only [PL.den]
theorem qv_ {S:Nat→Sem1} {R:Nat} {f:Sem1} {K:List Sem1} {ρ:List T} (xs:List Lf):PL.den S R (f :: K) ρ (.go 0 xs)=f (xs.map (Lf.ev ρ)):=by simp [PL.den]
theorem aH5_ {S:Nat→Sem1} {R j:Nat} {f:Sem1} {K:List Sem1} {ρ:List T} (xs:List Lf):PL.den S R (f :: K) ρ (.go (j+1) xs)=PL.den S R K ρ (.go j xs):=by simp [PL.den]
theorem ev_k (ρ:List T) (v:Value):Lf.ev ρ (.k v)=.c v:=rfl
theorem ev_e (ρ:List T):Lf.ev ρ .e=.l []:=rfl
theorem ev_a (ρ:List T) (n:Nat):Lf.ev ρ (.a n)=ρ.getD n T.dft:=rfl
set_option linter.unusedSimpArgs false
def big:Nat:=1048576
def SzOk (F:Sem1) (fs:List Ty):Prop :=
 ∀ (ts:List T) (l:Int),WTs fs ts→0≤l→l≤1048576→∃ n:Int,F (ts++[.c (.int .i64 l)])=some [.c (.int .i64 n)]∧n≤l∧(0≤n→n=l - xc_ ts)
def ToOk (F:Sem1) (fs:List Ty):Prop:=∀ ts:List T,WTs fs ts→xc_ ts≤1048576→F ts=some ts
def EqOk (F:Sem1) (fs:List Ty):Prop:=∀ ts:List T,WTs fs ts→xc_ ts≤1048576→F (ts++ts)=some [.c (.bool true)]
def avz_:Ty→Bool
 | .i _=>true
 | .b=>true
 | _=>false
theorem apq_:∀ {fs:List Ty} {ts:List T},fs.all avz_=true→WTs fs ts→xc_ ts=0
 | [],ts,_,h=>by unfold WTs at h;subst h;rfl
 | f :: fs,ts,hf,h=>by
  unfold WTs at h
  obtain ⟨t,ts',rfl,h1,h2⟩:=h
  simp only [List.all_cons,Bool.and_eq_true] at hf
  have h3:=apq_ hf.2 h2
  rw [zo_,h3]
  cases f with
  | i k=>unfold WT at h1;obtain ⟨n,rfl,_⟩:=h1;simp [yw_]
  | b=>unfold WT at h1;obtain ⟨n,rfl⟩:=h1;simp [yB_]
  | s=>cases hf.1
  | sl gs=>cases hf.1
theorem amy_ {fs:List Ty} (hf:fs.all avz_=true):∀ {xs:List (List T)},(∀ r∈xs,WTs fs r)→zH_ xs=xs.length
 | [],_=>by simp [zH_]
 | r :: xs,h=>by
  have h1:=apq_ hf (h r (.head _))
  have h2:=amy_ hf (xs:=xs) fun r hr=>h r (.tail _ hr)
  simp [zH_,h1,h2];omega
theorem WTs.one {f:Ty} {ts:List T} (h:WTs [f] ts):∃ t,ts=[t]∧WT f t:=by
 unfold WTs at h
 obtain ⟨t,ts',rfl,h1,h2⟩:=h
 unfold WTs at h2
 subst h2
 exact ⟨t,rfl,h1⟩
theorem WTs.sl1 {fs:List Ty} {ts:List T} (h:WTs [.sl fs] ts):∃ xs,ts=[.l xs]∧xs.length≤maxLen∧∀ r∈xs,WTs fs r:=by
 obtain ⟨t,rfl,h1⟩:=h.one
 unfold WT at h1
 obtain ⟨xs,rfl,h1,h2⟩:=h1
 exact ⟨xs,rfl,h1,h2⟩
theorem vK_ {α:Type} {xs:List α} {i:Nat} {r:α} (h:xs[i]?=some r):r∈xs:=List.mem_of_getElem? h
theorem kH_ {α:Type} {xs:List α} {i:Nat} (h:i < xs.length):∃ r,xs[i]?=some r:=⟨xs[i],List.getElem?_eq_getElem h⟩
def kn_ (w s i:Nat):Nat→Nat→PL→PL
 | _,0,k=>k
 | j,n+1,k=>.ins (.pr (.cell w j) [.a s,.a i]) (kn_ w s i (j+1) n k)
def uL_:Nat→Nat→List Lf
 | _,0=>[]
 | b,n+1=>.a b :: uL_ (b+1) n
theorem ev_ext {ρ B:List T} {n:Nat} (h:n < ρ.length):Lf.ev (ρ++B) (.a n)=Lf.ev ρ (.a n):=by
 simp [Lf.ev,List.getD,List.getElem?_append_left h]
theorem aS4_ {A B:List T} {t:T} {n:Nat} (hA:A.length=n):Lf.ev (A++t :: B) (.a n)=t:=by
 subst hA
 simp [Lf.ev,List.getD]
theorem ar0_ {A r C:List T} {n k:Nat} (h:n=A.length+r.length+k):(A++(r++C)).getD n T.dft=C.getD k T.dft:=by
 subst h
 simp only [List.getD,List.getElem?_append_right (show A.length≤A.length+r.length+k by omega)]
 rw [List.getElem?_append_right (by omega)]
 congr 2
 omega
theorem ab9_:∀ {r A B:List T} {b w:Nat},A.length=b→r.length=w→(uL_ b w).map (Lf.ev (A++(r++B)))=r
 | [],A,B,b,w,hA,hr=>by subst hr;rfl
 | t :: r,A,B,b,w,hA,hr=>by
  subst hr
  show Lf.ev (A++(t :: (r++B))) (.a b) :: (uL_ (b+1) r.length).map (Lf.ev (A++(t :: (r++B))))=t :: r
  rw [aS4_ hA]
  have:=ab9_ (r:=r) (A:=A++[t]) (B:=B) (b:=b+1) (w:=r.length) (by simp [hA]) rfl
  rw [List.append_assoc] at this
  exact congrArg _ this
theorem ahf_ {S:Nat→Sem1} {R:Nat} {K:List Sem1} {k:PL} {xs:List (List T)} {i:Nat} {r:List T} {w s ix:Nat} (hr:xs[i]?=some r) (hw:r.length=w):∀ (n j:Nat) {ρ:List T},j+n=w→s < ρ.length→ix < ρ.length →
  Lf.ev ρ (.a s)=.l xs→Lf.ev ρ (.a ix)=.c (.int .i64 (i:Int))→PL.den S R K ρ (kn_ w s ix j n k)=k.den S R K (ρ++r.drop j)
 | 0,j,ρ,hj,_,_,_,_=>by
  have:r.drop j=[]:=List.drop_eq_nil_iff.2 (by omega)
  rw [this,List.append_nil]
  rfl
 | n+1,j,ρ,hj,h1,h2,h3,h4=>by
  obtain ⟨t,ht⟩:=kH_ (xs:=r) (i:=j) (by omega)
  show PL.den S R K ρ (.ins (.pr (.cell w j) [.a s,.a ix]) (kn_ w s ix (j+1) n k))=_
  rw [y1_,List.map_cons,List.map_cons,List.map_nil,h3,h4,aqz_ hr hw ht,za_,
   ahf_ hr hw n (j+1) (by omega) (by simp;omega) (by simp;omega) (by rw [ev_ext h1];exact h3) (by rw [ev_ext h2];exact h4)]
  congr 1
  rw [List.append_assoc]
  congr 1
  rw [List.drop_eq_getElem_cons (by omega:j < r.length)]
  rw [List.getElem?_eq_getElem (by omega)] at ht
  cases ht
  rfl
def szLenP:PL :=
 .ins (.pr .len [.a 0]) <|
 .ins (.pr (.bin .sub) [.a 1,.a 2]) <|
 .ins (.pr (.bin .lss) [.a 3,.k (.int .i64 0)]) <|
 .ite 4 (.ins (.pr .scl [.k (.int .i64 (-1))]) <| .ret [.a 5]) (.ins (.pr .scl [.a 3]) <| .ret [.a 5])
theorem avs_ {S:Nat→Sem1} {R:Nat} {fs:List Ty} (hf:fs.all avz_=true):SzOk (fun ts=>szLenP.den S R [] ts) [.sl fs]:=by
 intro ts l ht h0 h1
 obtain ⟨xs,rfl,h2,h3⟩:=ht.sl1
 have e1:IntKind.i64.wrap (l - xs.length)=l - xs.length:=je_ (by unfold maxLen at h2;omega) (by omega)
 have e2:=amy_ hf h3
 by_cases h:l - (xs.length:Int) < 0
 ·refine ⟨-1,?_,by omega,by omega⟩
  simp only [szLenP,uT_,y1_,jz_,wb_,List.map_cons,List.map_nil,ev_k,ev_e,ev_a,List.cons_append,List.nil_append,List.getD_cons_zero,List.getD_cons_succ,za_,wT_,aok_,vu_,e1,h,decide_true,decide_false,w6_,cond_true,cond_false,adc_]
 ·refine ⟨l - xs.length,?_,by omega,fun _=>?_⟩
  ·simp only [szLenP,uT_,y1_,jz_,wb_,List.map_cons,List.map_nil,ev_k,ev_e,ev_a,List.cons_append,List.nil_append,List.getD_cons_zero,List.getD_cons_succ,za_,wT_,aok_,vu_,e1,h,decide_true,decide_false,w6_,cond_true,cond_false,adc_]
  ·rw [zo_,zx_,z3_,e2];omega
set_option linter.unusedSimpArgs false
theorem aGt_ {xs ys:List (List T)} {z r:List T} {i:Nat} (hi:xs.length=i) (hz:z.length=r.length):setRow (xs++z :: ys) i 0 r=xs++r :: ys:=by
 have hd:z.drop r.length=[]:=List.drop_eq_nil_iff.2 (by omega)
 unfold setRow
 induction xs generalizing i with
 | nil=>subst hi;simp [hd]
 | cons x xs ih =>
  subst hi
  have:=ih (i:=xs.length) rfl
  simp only [List.length_cons,List.cons_append,List.modify_succ_cons,this]
theorem ash_ {α:Type} {xs:List α} {i:Nat} {r:α} (h:xs[i]?=some r):xs.take (i+1)=xs.take i++[r]:=by
 rw [List.take_add_one,h];rfl
theorem aB8_ {xs:List (List T)} {z r:List T} {i:Nat} (h:xs[i]?=some r) (hz:z.length=r.length):setRow (xs.take i++List.replicate (xs.length - i) z) i 0 r=xs.take (i+1)++List.replicate (xs.length - (i+1)) z:=by
 have hi:i < xs.length:=by
  rcases Nat.lt_or_ge i xs.length with h' | h'
  ·exact h'
  ·rw [List.getElem?_eq_none h'] at h;cases h
 obtain ⟨d,hd⟩:∃ d,xs.length - i=d+1:=⟨xs.length - i - 1,by omega⟩
 rw [hd,List.replicate_succ,aGt_ (by simp;omega) hz,ash_ h,List.append_assoc,show xs.length - (i+1)=d by omega]
 rfl
theorem aL8_ {xs:List (List T)} {z:List T} {i:Nat} (hi:i < xs.length):(xs.take i++List.replicate (xs.length - i) z)[i]?=some z:=by
 have hl:(xs.take i).length=i:=by simp;omega
 rw [List.getElem?_append_right (by omega),hl,Nat.sub_self]
 obtain ⟨d,hd⟩:∃ d,xs.length - i=d+1:=⟨xs.length - i - 1,by omega⟩
 rw [hd]
 rfl
def aJs_ (w g:Nat) (zs:List Lf) (st:Prim):PL :=
 .ins (.pr .len [.a 0]) <|
 .ins (.pr .mk (.a 1 :: .a 1 :: zs)) <|
 .loop [.k (.int .i64 0),.a 2] <|
  .ins (.pr .len [.a 0]) <|
  .ins (.pr (.bin .lss) [.a 3,.a 5]) <|
  .ite 6 (.ins (.pr .bnd [.a 0,.a 3]) <| kn_ w 0 3 0 w <|
   .ins (.cl g (uL_ 8 w) w) <|
   .ins (.pr .bnd [.a 4,.a 3]) <|
   .ins (.pr st (.a 4 :: .a 3 :: uL_ (8+w) w)) <|
   .ins (.pr (.bin .add) [.a 3,.k (.int .i64 1)]) <|
   .go 0 [.a (10+(w+w)),.a (9+(w+w))])
  (.ret [.a 4])
def aLu_:Lf→Bool
 | .k _=>true
 | .e=>true
 | .a _=>false
theorem ayz_ {ρ ρ':List T}:∀ {zs:List Lf},zs.all aLu_=true→zs.map (Lf.ev ρ)=zs.map (Lf.ev ρ')
 | [],_=>rfl
 | z :: zs,h=>by
  simp only [List.all_cons,Bool.and_eq_true] at h
  rw [List.map_cons,List.map_cons,ayz_ (ρ:=ρ) (ρ':=ρ') h.2]
  cases z with
  | k v=>rfl
  | e=>rfl
  | a n=>cases h.1
theorem aKt_:∀ (ts:List T) (i:Nat),ym_ ts i (ts.length - i)=ts.drop i
 | ts,i=>by
  generalize hd:ts.length - i=d
  induction d generalizing i with
  | zero=>simp [ym_,List.drop_eq_nil_iff.2 (show ts.length≤i by omega)]
  | succ d ih =>
   have hi:i < ts.length:=by omega
   simp only [ym_,ih (i+1) (by omega),List.drop_eq_getElem_cons hi,List.getD,List.getElem?_eq_getElem hi,Option.getD_some]
theorem awj_ {S:Nat→Sem1} {w g:Nat} {zs:List Lf} {st:Prim} {fs:List Ty} (hw:fs.length=w) (hg:ToOk (S g) fs) (hz:zs.all aLu_=true) (hzl:zs.length=w)
  (hst:∀ (xs:List (List T)) (i:Nat) (z vs:List T),xs[i]?=some z→z.length=w→WTs fs vs→Prim.ev st (.l xs :: .c (.int .i64 (i:Int)) :: vs)=some (.l (setRow xs i 0 vs))) :
  ToOk (fun ts=>(aJs_ w g zs st).den S rounds [] ts) [.sl fs]:=by
 intro ts ht hb
 obtain ⟨xs,rfl,h2,h3⟩:=ht.sl1
 rw [zo_,zx_,z3_,Nat.add_zero] at hb
 have hlen:=q3_ xs
 let z:List T:=zs.map (Lf.ev [])
 have hzz:∀ ρ,zs.map (Lf.ev ρ)=z:=fun ρ=>ayz_ hz
 have hzw:z.length=w:=by simp [z,hzl]
 have key:=ags_ (n:=xs.length) (out:=[T.l xs]) (F:=fun self ts=>(PL.den S rounds (self :: []) ([T.l xs,.c (.int .i64 (xs.length:Int)),.l (List.replicate xs.length z)]++ts) (
  .ins (.pr .len [.a 0]) <|
  .ins (.pr (.bin .lss) [.a 3,.a 5]) <|
  .ite 6 (.ins (.pr .bnd [.a 0,.a 3]) <| kn_ w 0 3 0 w <|
   .ins (.cl g (uL_ 8 w) w) <|
   .ins (.pr .bnd [.a 4,.a 3]) <|
   .ins (.pr st (.a 4 :: .a 3 :: uL_ (8+w) w)) <|
   .ins (.pr (.bin .add) [.a 3,.k (.int .i64 1)]) <|
   .go 0 [.a (10+(w+w)),.a (9+(w+w))])
  (.ret [.a 4])))) (fun i=>[.c (.int .i64 (i:Int)),.l (xs.take i++List.replicate (xs.length - i) z)]) ?_ ?_ rounds (by unfold rounds;omega)
 ·simp only [aJs_,y1_,List.map_cons,List.map_nil,ev_k,ev_a,List.cons_append,List.nil_append,List.getD_cons_zero,List.getD_cons_succ,za_,wT_,hzz,aPb_ (show xs.length < vy_ by unfold vy_;omega)]
  rw [af8_]
  exact key
 ·intro i hi self
  obtain ⟨r,hr⟩:=kH_ hi
  have hrw:r.length=w:=by rw [(h3 r (vK_ hr)).length,hw]
  have hbr:=kc_ hr
  have hgr:=hg r (h3 r (vK_ hr)) (by omega)
  have hlt:(i:Int) < xs.length:=by omega
  have e3:IntKind.i64.wrap ((i:Int)+1)=((i+1:Nat):Int):=by rw [je_ (by omega) (by omega)];simp
  have e4:=aKt_ r 0
  rw [Nat.sub_zero,List.drop_zero,hrw] at e4
  have hf:=aL8_ (z:=z) hi
  have hst':=hst _ i z r hf hzw (h3 r (vK_ hr))
  rw [aB8_ hr (by rw [hzw,hrw])] at hst'
  have e5:(uL_ 8 w).map (Lf.ev (.l xs :: .c (.int .i64 xs.length) :: .l (List.replicate xs.length z) :: .c (.int .i64 i) :: .l (xs.take i++List.replicate (xs.length - i) z) :: .c (.int .i64 xs.length) :: .c (.bool true) :: .c (.bool true) :: r))=r:=by
   have:=ab9_ (r:=r) (A:=[.l xs,.c (.int .i64 xs.length),.l (List.replicate xs.length z),.c (.int .i64 i),.l (xs.take i++List.replicate (xs.length - i) z),.c (.int .i64 xs.length),.c (.bool true),.c (.bool true)]) (B:=[]) (b:=8) (w:=w) rfl hrw
   rw [List.append_nil] at this
   exact this
  have e6:∀ B,(uL_ (8+w) w).map (Lf.ev (.l xs :: .c (.int .i64 xs.length) :: .l (List.replicate xs.length z) :: .c (.int .i64 i) :: .l (xs.take i++List.replicate (xs.length - i) z) :: .c (.int .i64 xs.length) :: .c (.bool true) :: .c (.bool true) :: (r++(r++B))))=r:=fun B =>
   ab9_ (r:=r) (A:=.l xs :: .c (.int .i64 xs.length) :: .l (List.replicate xs.length z) :: .c (.int .i64 i) :: .l (xs.take i++List.replicate (xs.length - i) z) :: .c (.int .i64 xs.length) :: .c (.bool true) :: .c (.bool true) :: r) (B:=B) (b:=8+w) (w:=w) (by simp [hrw];omega) hrw
  have past:∀ (n k:Nat) (C:List T),n=8+(w+w)+k→(.l xs :: .c (.int .i64 xs.length) :: .l (List.replicate xs.length z) :: .c (.int .i64 i) :: .l (xs.take i++List.replicate (xs.length - i) z) :: .c (.int .i64 xs.length) :: .c (.bool true) :: .c (.bool true) :: (r++(r++C))).getD n T.dft=C.getD k T.dft:=fun n k C h =>
   ar0_ (A:=.l xs :: .c (.int .i64 xs.length) :: .l (List.replicate xs.length z) :: .c (.int .i64 i) :: .l (xs.take i++List.replicate (xs.length - i) z) :: .c (.int .i64 xs.length) :: .c (.bool true) :: .c (.bool true) :: r) (r:=r) (C:=C) (by simp [hrw];omega)
  have e7:=fun C=>past (9+(w+w)) 1 C (by omega)
  have e8:=fun C=>past (10+(w+w)) 2 C (by omega)
  simp only [uT_,y1_,jz_,wb_,qv_,List.map_cons,List.map_nil,ev_k,ev_a,List.cons_append,List.nil_append,List.getD_cons_zero,List.getD_cons_succ,za_,wT_,vu_,hlt,decide_true,w6_,cond_true,jg_ hr]
  rw [ahf_ hr hrw w 0 (by omega) (by simp) (by simp) rfl rfl]
  simp only [uT_,y1_,jz_,wb_,qv_,List.map_cons,List.map_nil,List.map_append,ev_k,ev_a,List.cons_append,List.nil_append,List.append_assoc,List.getD_cons_zero,List.getD_cons_succ,za_,List.drop_zero,e5,hgr,e4,e6,hst',e7,e8,jg_ hf,qj_,e3]
 ·intro self
  simp only [uT_,y1_,jz_,wb_,qv_,List.map_cons,List.map_nil,ev_k,ev_a,List.cons_append,List.nil_append,List.getD_cons_zero,List.getD_cons_succ,za_,wT_,vu_,Int.lt_irrefl,decide_false,w6_,cond_false,List.take_length,Nat.sub_self,List.replicate_zero,List.append_nil]
def aF1_:Ty→Bool
 | .sl _=>false
 | _=>true
theorem aNw_ {f:Ty} {t:T} (hf:aF1_ f=true) (h:WT f t):scal t=true:=by
 cases f with
 | i k=>unfold WT at h;obtain ⟨n,rfl,_⟩:=h;rfl
 | b=>unfold WT at h;obtain ⟨n,rfl⟩:=h;rfl
 | s=>unfold WT at h;obtain ⟨n,rfl,_⟩:=h;rfl
 | sl gs=>cases hf
theorem aKu_ {fs:List Ty} {w:Nat} (hw:fs.length=w) (hf:fs.all aF1_=true) (xs:List (List T)) (i:Nat) (z vs:List T) (hi:xs[i]?=some z) (hz:z.length=w) (hv:WTs fs vs) :
  Prim.ev (.put true w 0 w) (.l xs :: .c (.int .i64 (i:Int)) :: vs)=some (.l (setRow xs i 0 vs)):=by
 refine au7_ hi hz (by omega) (by rw [hv.length,hw]) ?_
 have:∀ {fs:List Ty} {vs:List T},fs.all aF1_=true→WTs fs vs→vs.all scal=true:=by
  intro fs
  induction fs with
  | nil=>intro vs _ h;unfold WTs at h;subst h;rfl
  | cons f fs ih =>
   intro vs hf h
   unfold WTs at h
   obtain ⟨t,ts',rfl,h1,h2⟩:=h
   simp only [List.all_cons,Bool.and_eq_true] at hf ⊢
   exact ⟨aNw_ hf.1 h1,ih hf.2 h2⟩
 simp [this hf hv]
def aKh_ (w g:Nat):PL :=
 .ins (.pr .len [.a 0]) <|
 .ins (.pr .len [.a 1]) <|
 .ins (.pr (.bin .neq) [.a 2,.a 3]) <|
 .ite 4 (.ins (.pr .scl [.k (.bool false)]) <| .ret [.a 5]) <|
 .loop [.k (.bool false),.k (.int .i64 0)] <|
  .ins (.pr .len [.a 0]) <|
  .ins (.pr (.bin .lss) [.a 6,.a 7]) <|
  .ite 8 (.ins (.pr .bnd [.a 0,.a 6]) <| kn_ w 0 6 0 w <|
   .ins (.pr .bnd [.a 1,.a 6]) <| kn_ w 1 6 0 w <|
   .ins (.cl g (uL_ 10 w++uL_ (11+w) w) 1) <|
   .ins (.pr (.un .not) [.a (11+(w+w))]) <|
   .ite (12+(w+w)) (.ins (.pr .scl [.k (.bool false)]) <| .ret [.a (13+(w+w))]) <|
   .ins (.pr (.bin .add) [.a 6,.k (.int .i64 1)]) <|
   .go 0 [.a 5,.a (13+(w+w))])
  (.ins (.pr .scl [.k (.bool true)]) <| .ret [.a 9])
theorem aco_ {S:Nat→Sem1} {w g:Nat} {fs:List Ty} (hw:fs.length=w) (hg:EqOk (S g) fs):EqOk (fun ts=>(aKh_ w g).den S rounds [] ts) [.sl fs]:=by
 intro ts ht hb
 obtain ⟨xs,rfl,h2,h3⟩:=ht.sl1
 rw [zo_,zx_,z3_,Nat.add_zero] at hb
 have hlen:=q3_ xs
 have key:=ags_ (n:=xs.length) (out:=[T.c (.bool true)]) (F:=fun self ts=>(PL.den S rounds (self :: []) ([T.l xs,.l xs,.c (.int .i64 (xs.length:Int)),.c (.int .i64 (xs.length:Int)),.c (.bool false)]++ts) (
  .ins (.pr .len [.a 0]) <|
  .ins (.pr (.bin .lss) [.a 6,.a 7]) <|
  .ite 8 (.ins (.pr .bnd [.a 0,.a 6]) <| kn_ w 0 6 0 w <|
   .ins (.pr .bnd [.a 1,.a 6]) <| kn_ w 1 6 0 w <|
   .ins (.cl g (uL_ 10 w++uL_ (11+w) w) 1) <|
   .ins (.pr (.un .not) [.a (11+(w+w))]) <|
   .ite (12+(w+w)) (.ins (.pr .scl [.k (.bool false)]) <| .ret [.a (13+(w+w))]) <|
   .ins (.pr (.bin .add) [.a 6,.k (.int .i64 1)]) <|
   .go 0 [.a 5,.a (13+(w+w))])
  (.ins (.pr .scl [.k (.bool true)]) <| .ret [.a 9])))) (fun i=>[.c (.bool false),.c (.int .i64 (i:Int))]) ?_ ?_ rounds (by unfold rounds;omega)
 ·simp only [aKh_,y1_,wb_,List.map_cons,List.map_nil,ev_k,ev_a,List.cons_append,List.nil_append,List.getD_cons_zero,List.getD_cons_succ,za_,wT_,afp_,bne_self_eq_false,w6_,cond_false]
  rw [af8_]
  exact key
 ·intro i hi self
  obtain ⟨r,hr⟩:=kH_ hi
  have hrw:r.length=w:=by rw [(h3 r (vK_ hr)).length,hw]
  have hbr:=kc_ hr
  have hgr:=hg r (h3 r (vK_ hr)) (by omega)
  have hlt:(i:Int) < xs.length:=by omega
  have e3:IntKind.i64.wrap ((i:Int)+1)=((i+1:Nat):Int):=by rw [je_ (by omega) (by omega)];simp
  have e5:∀ B,(uL_ 10 w).map (Lf.ev (.l xs :: .l xs :: .c (.int .i64 xs.length) :: .c (.int .i64 xs.length) :: .c (.bool false) :: .c (.bool false) :: .c (.int .i64 i) :: .c (.int .i64 xs.length) :: .c (.bool true) :: .c (.bool true) :: (r++B)))=r:=fun B =>
   ab9_ (r:=r) (A:=[.l xs,.l xs,.c (.int .i64 xs.length),.c (.int .i64 xs.length),.c (.bool false),.c (.bool false),.c (.int .i64 i),.c (.int .i64 xs.length),.c (.bool true),.c (.bool true)]) (B:=B) (b:=10) (w:=w) rfl hrw
  have e6:∀ t,(uL_ (11+w) w).map (Lf.ev (.l xs :: .l xs :: .c (.int .i64 xs.length) :: .c (.int .i64 xs.length) :: .c (.bool false) :: .c (.bool false) :: .c (.int .i64 i) :: .c (.int .i64 xs.length) :: .c (.bool true) :: .c (.bool true) :: (r++t :: r)))=r:=fun t=>by
   have:=ab9_ (r:=r) (A:=.l xs :: .l xs :: .c (.int .i64 xs.length) :: .c (.int .i64 xs.length) :: .c (.bool false) :: .c (.bool false) :: .c (.int .i64 i) :: .c (.int .i64 xs.length) :: .c (.bool true) :: .c (.bool true) :: (r++[t])) (B:=[]) (b:=11+w) (w:=w) (by simp [hrw];omega) hrw
   simpa using this
  have past:∀ (n k:Nat) (t:T) (C:List T),n=11+(w+w)+k→(.l xs :: .l xs :: .c (.int .i64 xs.length) :: .c (.int .i64 xs.length) :: .c (.bool false) :: .c (.bool false) :: .c (.int .i64 i) :: .c (.int .i64 xs.length) :: .c (.bool true) :: .c (.bool true) :: (r++t :: (r++C))).getD n T.dft=C.getD k T.dft:=fun n k t C h=>by
   have:=ar0_ (A:=.l xs :: .l xs :: .c (.int .i64 xs.length) :: .c (.int .i64 xs.length) :: .c (.bool false) :: .c (.bool false) :: .c (.int .i64 i) :: .c (.int .i64 xs.length) :: .c (.bool true) :: .c (.bool true) :: (r++[t])) (r:=r) (C:=C) (n:=n) (k:=k) (by simp [hrw];omega)
   rw [← this]
   simp
  have e7:=fun t C=>past (11+(w+w)) 0 t C (by omega)
  have e8:=fun t C=>past (12+(w+w)) 1 t C (by omega)
  have e9:=fun t C=>past (13+(w+w)) 2 t C (by omega)
  simp only [uT_,y1_,jz_,wb_,qv_,List.map_cons,List.map_nil,ev_k,ev_a,List.cons_append,List.nil_append,List.getD_cons_zero,List.getD_cons_succ,za_,wT_,vu_,hlt,decide_true,w6_,cond_true,jg_ hr]
  rw [ahf_ hr hrw w 0 (by omega) (by simp) (by simp) rfl rfl]
  simp only [y1_,List.map_cons,List.map_nil,ev_a,List.cons_append,List.nil_append,List.append_assoc,List.getD_cons_zero,List.getD_cons_succ,za_,List.drop_zero,jg_ hr]
  rw [ahf_ hr hrw w 0 (by omega) (by simp) (by simp) rfl rfl]
  simp only [uT_,y1_,jz_,wb_,qv_,List.map_cons,List.map_nil,List.map_append,ev_k,ev_a,List.cons_append,List.nil_append,List.append_assoc,List.getD_cons_zero,List.getD_cons_succ,za_,List.drop_zero,e5,e6,hgr,ym_,e7,e8,e9,av6_,Bool.not_true,w6_,cond_false,qj_,e3]
 ·intro self
  simp only [uT_,y1_,jz_,wb_,qv_,List.map_cons,List.map_nil,ev_k,ev_a,List.cons_append,List.nil_append,List.getD_cons_zero,List.getD_cons_succ,za_,wT_,vu_,Int.lt_irrefl,decide_false,w6_,cond_false,ahu_]
def aJ1_ (op:Prim):PL :=
 .ins (.pr .len [.a 0]) <|
 .ins (.pr .len [.a 1]) <|
 .ins (.pr (.bin .neq) [.a 2,.a 3]) <|
 .ite 4 (.ins (.pr .scl [.k (.bool false)]) <| .ret [.a 5]) <|
 .loop [.k (.bool false),.k (.int .i64 0)] <|
  .ins (.pr .len [.a 0]) <|
  .ins (.pr (.bin .lss) [.a 6,.a 7]) <|
  .ite 8 (.ins (.pr .bnd [.a 0,.a 6]) <| .ins (.pr (.cell 1 0) [.a 0,.a 6]) <|
   .ins (.pr .bnd [.a 1,.a 6]) <| .ins (.pr (.cell 1 0) [.a 1,.a 6]) <|
   .ins (.pr op [.a 10,.a 12]) <|
   .ite 13 (.ins (.pr .scl [.k (.bool false)]) <| .ret [.a 14]) <|
   .ins (.pr (.bin .add) [.a 6,.k (.int .i64 1)]) <|
   .go 0 [.a 5,.a 14])
  (.ins (.pr .scl [.k (.bool true)]) <| .ret [.a 9])
theorem aMp_ {S:Nat→Sem1} {op:Prim} {f:Ty} (hop:∀ t,WT f t→Prim.ev op [t,t]=some (.c (.bool false))):EqOk (fun ts=>(aJ1_ op).den S rounds [] ts) [.sl [f]]:=by
 intro ts ht hb
 obtain ⟨xs,rfl,h2,h3⟩:=ht.sl1
 rw [zo_,zx_,z3_,Nat.add_zero] at hb
 have hlen:=q3_ xs
 have key:=ags_ (n:=xs.length) (out:=[T.c (.bool true)]) (F:=fun self ts=>(PL.den S rounds (self :: []) ([T.l xs,.l xs,.c (.int .i64 (xs.length:Int)),.c (.int .i64 (xs.length:Int)),.c (.bool false)]++ts) (
  .ins (.pr .len [.a 0]) <|
  .ins (.pr (.bin .lss) [.a 6,.a 7]) <|
  .ite 8 (.ins (.pr .bnd [.a 0,.a 6]) <| .ins (.pr (.cell 1 0) [.a 0,.a 6]) <|
   .ins (.pr .bnd [.a 1,.a 6]) <| .ins (.pr (.cell 1 0) [.a 1,.a 6]) <|
   .ins (.pr op [.a 10,.a 12]) <|
   .ite 13 (.ins (.pr .scl [.k (.bool false)]) <| .ret [.a 14]) <|
   .ins (.pr (.bin .add) [.a 6,.k (.int .i64 1)]) <|
   .go 0 [.a 5,.a 14])
  (.ins (.pr .scl [.k (.bool true)]) <| .ret [.a 9])))) (fun i=>[.c (.bool false),.c (.int .i64 (i:Int))]) ?_ ?_ rounds (by unfold rounds;omega)
 ·simp only [aJ1_,y1_,wb_,List.map_cons,List.map_nil,ev_k,ev_a,List.cons_append,List.nil_append,List.getD_cons_zero,List.getD_cons_succ,za_,wT_,afp_,bne_self_eq_false,w6_,cond_false]
  rw [af8_]
  exact key
 ·intro i hi self
  obtain ⟨r,hr⟩:=kH_ hi
  have hwr:=h3 r (vK_ hr)
  obtain ⟨t,rfl,ht⟩:=hwr.one
  have hlt:(i:Int) < xs.length:=by omega
  have e3:IntKind.i64.wrap ((i:Int)+1)=((i+1:Nat):Int):=by rw [je_ (by omega) (by omega)];simp
  simp only [uT_,y1_,jz_,wb_,qv_,List.map_cons,List.map_nil,ev_k,ev_a,List.cons_append,List.nil_append,List.getD_cons_zero,List.getD_cons_succ,za_,wT_,vu_,hlt,decide_true,w6_,cond_true,jg_ hr,aqz_ hr (w:=1) (j:=0) rfl rfl,hop t ht,cond_false,qj_,e3]
 ·intro self
  simp only [uT_,y1_,jz_,wb_,qv_,List.map_cons,List.map_nil,ev_k,ev_a,List.cons_append,List.nil_append,List.getD_cons_zero,List.getD_cons_succ,za_,wT_,vu_,Int.lt_irrefl,decide_false,w6_,cond_false,ahu_]
theorem aSj_ {k:IntKind} (t:T) (h:WT (.i k) t):Prim.ev (.bin .neq) [t,t]=some (.c (.bool false)):=by
 unfold WT at h
 obtain ⟨n,rfl,_⟩:=h
 rw [afp_,bne_self_eq_false]
end Go.Proofs.YtiebbbmibbkpcaaGreatC

/- The walk by reflection: a part of its laws, for any function. Conditions: none. -/
import Derived.Test.YtbhplkilhknciaaDoorKc
import Derived.Test.YtbhplkilhknciaaDoorKa
import Derived.ChangeSame
import Derived.JoinedOf
import Derived.JoinedAt
import Derived.RowKit3
import Derived.Carry
namespace Go.Proofs.YtbhplkilhknciaaDoorC
set_option linter.unusedVariables false
section
variable {M:Nat→Prop} {B:Base} {d:Nat} {up:Nat→Nat→Value} {ρ:List T} {G:Gh} {a:Act} {w:World} {s:St} {S:Nat→Sem1} {P:Program} {cx:Cx} {R:Nat} {out:List T}
theorem run_loadVar {t:Nat} {ti:TI} (hT:TyOk P t ti) {b off:Nat} {vs:List Value} (hl:vs.length=ti.sz) (hc:∀ j v,vs[j]?=some v→w.cell? ⟨b,off+j,none⟩=some v) :
  (loadVar t ⟨b,off,none⟩).run P w=.ok (if ti.ag then .agg vs.toArray else vs.getD 0 undef) w:=by
 have:=run_loadAt (P:=P) hT hl hc
 simpa [Instr.loadAt,Instr.sureAddr] using this
def oneRes (tmps:Array Value):ResultVar→Sem Value
 | .tmp t=>pure (tmps.getD t undef)
 | .cell a t=>do loadVar t (← asAddr (tmps.getD a undef))
theorem res_vals (tys:TyAll P cx) (hr:Rel M B d up s ρ G a w):∀ {rvs:List ResultVar} {rs:List SV},Go.Proofs.YtbhplkilhknciaaDoorC.results cx d s rvs=some rs →
  ∃ us:List Value,(rvs.mapM (oneRes a.tmps)).run P w=.ok us w∧RelSVs G w ρ rs us∧∀ v∈rs,∀ i∈idsSV v,M i
 | [],rs,h=>by
  simp [Go.Proofs.YtbhplkilhknciaaDoorC.results] at h
  subst h
  exact ⟨[],rfl,trivial,fun v hv=>by cases hv⟩
 | .tmp t :: rvs,rs,h=>by
  simp only [Go.Proofs.YtbhplkilhknciaaDoorC.results,Option.bind_eq_some_iff,Option.some.injEq] at h
  obtain ⟨vs,hvs,rfl⟩:=h
  obtain ⟨us,g1,g2,g3⟩:=res_vals tys hr hvs
  have ht:=hr.tm d t (Nat.le_refl _)
  simp only [tmv,if_true] at ht
  refine ⟨a.tmps.getD t undef :: us,?_,⟨ht,g2⟩,fun v hv=>?_⟩
  ·rw [List.mapM_cons,Sem.run_bind]
   simp only [oneRes,Sem.run_pure,Result.andThen_ok,Sem.run_bind,g1]
  ·rcases List.mem_cons.1 hv with rfl | hv
   ·exact hr.ment _
   ·exact g3 v hv
 | .cell ad t :: rvs,rs,h=>by
  simp only [Go.Proofs.YtbhplkilhknciaaDoorC.results,Option.bind_eq_some_iff] at h
  obtain ⟨ti,hti,h⟩:=h
  have ht:=hr.tm d ad (Nat.le_refl _)
  simp only [tmv,if_true] at ht
  split at h
  ·rename_i bx off hpt
   split at h
   ·rename_i ag cs hbx
    cases hb:Nat.ble (off+ti.sz) cs.length with
    | false=>simp [hb] at h
    | true =>
     simp only [hb,cond_true,Option.bind_eq_some_iff,Option.some.injEq] at h
     obtain ⟨vs,hvs,rfl⟩:=h
     obtain ⟨us,g1,g2,g3⟩:=res_vals tys hr hvs
     rw [hpt] at ht
     have hbox:=hr.bx bx
     rw [hbx] at hbox
     obtain ⟨_,arr,elem,hh,hcs⟩:=hbox
     have hle:=Nat.le_of_ble_eq_true hb
     have hlen:=hcs.length
     simp only [Array.length_toList] at hlen
     have hT:=tys.ty _ _ hti
     have hr1:=RelCs.take ti.sz (RelCs.drop off hcs)
     have hl1:((arr.toList.drop off).take ti.sz).length=ti.sz:=by simp;omega
     have hrun:=run_loadVar (P:=P) (w:=w) (b:=G.β bx) (off:=off) hT hl1 (fun j v hj=>by
      rw [cell_row hh]
      have hlt:=(List.getElem?_eq_some_iff.1 hj).1
      rw [List.getElem?_take,if_pos (by omega),List.getElem?_drop] at hj
      simpa using hj)
     refine ⟨_ :: us,?_,⟨load_rel hT hr1 hl1,g2⟩,fun v hv=>?_⟩
     ·rw [List.mapM_cons,Sem.run_bind]
      simp only [oneRes,Sem.run_bind]
      rw [show a.tmps.getD ad undef=.pointer (some ⟨G.β bx,off,none⟩) from ht]
      simp only [asAddr,Sem.run_pure,Result.andThen_ok,hrun,g1]
     ·rcases List.mem_cons.1 hv with rfl | hv
      ·intro i hi
       have hm:=hr.ment (.x bx)
       rw [hbx] at hm
       exact hm i (idsCs_drop _ _ i (idsCs_take _ _ i hi))
      ·exact g3 v hv
   ·cases h
  ·cases h
theorem run_results {fn:Func} {us:List Value} (h:(fn.results.toList.mapM (oneRes a.tmps)).run P w=.ok us w):(Go.results fn a.tmps).run P w=.ok (tupV us) w:=by
 have h2:(fn.results.mapM (oneRes a.tmps)).run P w=.ok us.toArray w:=by
  rw [Array.mapM_eq_mapM_toList,Sem.run_map,h]
  rfl
 have h3:Go.results fn a.tmps=(do let vs ← fn.results.mapM (oneRes a.tmps);pure (if h:vs.size=1 then vs[0] else .tuple vs)):=by
  unfold Go.results
  congr 1
 rw [h3,Sem.run_bind,h2]
 simp only [Result.andThen_ok,Sem.run_pure,tupV,List.size_toArray]
 by_cases hl:us.length=1
 ·simp [hl]
 ·simp [hl]
theorem noDeep_t (d e n:Nat):∀ s:St,(noDeep d s).get (.t e n)=if d≤e then .un else s.get (.t e n)
 | []=>by simp [noDeep,St.get]
 | (.t e' n',v) :: s=>by
  simp only [noDeep]
  cases hb:Nat.ble d e' with
  | true =>
   have:=Nat.le_of_ble_eq_true hb
   simp only [cond_true]
   rw [noDeep_t d e n s]
   split
   ·rfl
   ·simp only [St.get]
    have:(Res.t e' n').beq (.t e n)=false:=by
     cases hq:(Res.t e' n').beq (.t e n) with
     | false=>rfl
     | true=>have:=Res.beq_iff.1 hq;cases this;omega
    rw [this];rfl
  | false =>
   have hlt:¬ d≤e':=fun h=>by rw [Nat.ble_eq_true_of_le h] at hb;cases hb
   simp only [cond_false,St.get]
   cases hq:(Res.t e' n').beq (.t e n) with
   | true=>have:=Res.beq_iff.1 hq;cases this;simp [hlt]
   | false=>simp only [cond_false];exact noDeep_t d e n s
 | (.x b,v) :: s=>by
  simp only [noDeep,St.get]
  rw [show (Res.x b).beq (.t e n)=false from rfl]
  exact noDeep_t d e n s
 | (.o b,v) :: s=>by
  simp only [noDeep,St.get]
  rw [show (Res.o b).beq (.t e n)=false from rfl]
  exact noDeep_t d e n s
theorem noDeep_o (d:Nat) (r:Res) (hr:∀ e n,r≠.t e n):∀ s:St,(noDeep d s).get r=s.get r
 | []=>rfl
 | (.t e' n',v) :: s=>by
  have hb:(Res.t e' n').beq r=false:=by
   cases hq:(Res.t e' n').beq r with
   | false=>rfl
   | true=>exact absurd (Res.beq_iff.1 hq).symm (hr e' n')
  simp only [noDeep]
  cases Nat.ble d e' with
  | true=>simp only [cond_true,St.get,hb,cond_false];exact noDeep_o d r hr s
  | false=>simp only [cond_false,St.get,hb];exact noDeep_o d r hr s
 | (.x b,v) :: s=>by
  simp only [noDeep,St.get]
  rw [noDeep_o d r hr s]
 | (.o b,v) :: s=>by
  simp only [noDeep,St.get]
  rw [noDeep_o d r hr s]
theorem setTmps_get (d:Nat):∀ (vs:List SV) (s:St) (i:Nat) (r:Res),(setTmps d s i vs).get r=match r with
  | .t e n=>if e=d∧i≤n∧n < i+vs.length then vs.getD (n - i) .un else s.get (.t e n)
  | r=>s.get r
 | [],s,i,r=>by
  cases r with
  | t e n=>simp only [setTmps,List.length_nil];rw [if_neg (by omega)]
  | _=>rfl
 | v :: vs,s,i,r=>by
  simp only [setTmps]
  rw [setTmps_get d vs (s.set (.t d i) v) (i+1) r]
  cases r with
  | t e n =>
   simp only [List.length_cons]
   by_cases h1:e=d∧i+1≤n∧n < i+1+vs.length
   ·rw [if_pos h1,if_pos ⟨h1.1,by omega,by omega⟩]
    rw [show n - i=(n - (i+1))+1 by omega]
    simp
   ·rw [if_neg h1]
    by_cases h2:e=d∧n=i
    ·obtain ⟨rfl,rfl⟩:=h2
     rw [if_pos ⟨rfl,by omega,by omega⟩,St.get_set_self]
     simp
    ·rw [if_neg (by omega),St.get_set_ne _ _ (fun h=>by cases h;exact h2 ⟨rfl,rfl⟩)]
  | x b=>exact St.get_set_ne _ _ (by simp)
  | o b=>exact St.get_set_ne _ _ (by simp)
theorem RelSVs.get {vs:List SV} {us:List Value} (h:RelSVs G w ρ vs us):∀ (i:Nat) (v:SV),vs[i]?=some v→∃ u,us[i]?=some u∧RelSV G w ρ v u:=by
 induction vs generalizing us with
 | nil=>intro i v hi;simp at hi
 | cons x vs ih =>
  cases us with
  | nil=>exact h.elim
  | cons u us =>
   intro i v hi
   cases i with
   | zero=>simp at hi;subst hi;exact ⟨u,rfl,h.1⟩
   | succ i=>simpa using ih h.2 i v (by simpa using hi)
theorem Rel.enter {vs:List SV} {args:List Value} {nt:Nat} (hr:Rel M B d up s ρ G a w) (hv:RelSVs G w ρ vs args) (hm:∀ v∈vs,∀ i∈idsSV v,M i) (hn:vs.length≤nt) :
  Rel M B (d+1) (tmv up d a) (setTmps (d+1) (noDeep (d+1) s) 0 vs) ρ G { tmps:=args.toArray++Array.replicate (nt - args.toArray.size) undef,defers:=[] } w ∧
   (args.toArray++Array.replicate (nt - args.toArray.size) undef:Array Value).size=nt:=by
 have hl:=hv.length
 have hg:∀ r,(∀ e n,r≠.t e n)→(setTmps (d+1) (noDeep (d+1) s) 0 vs).get r=s.get r:=by
  intro r hr
  rw [setTmps_get]
  cases r with
  | t e n=>exact absurd rfl (hr e n)
  | x b=>exact noDeep_o _ _ hr s
  | o b=>exact noDeep_o _ _ hr s
 refine ⟨⟨fun e n he=>?_,fun b=>?_,fun i=>?_,fun r i hi=>?_,fun i hi=>?_,hr.lab,rfl,hr.base,hr.bt⟩,by simp;omega⟩
 ·rw [setTmps_get]
  simp only [Nat.zero_le,true_and,Nat.zero_add,Nat.sub_zero]
  by_cases hed:e=d+1
  ·subst hed
   by_cases hnl:n < vs.length
   ·rw [if_pos ⟨rfl,hnl⟩]
    obtain ⟨u,hu,hru⟩:=hv.get n vs[n] (List.getElem?_eq_getElem hnl)
    rw [List.getD_eq_getElem?_getD,List.getElem?_eq_getElem hnl]
    have:tmv (tmv up d a) (d+1) { tmps:=args.toArray++Array.replicate (nt - args.toArray.size) undef,defers:=[] } (d+1) n=u:=by
     simp only [tmv,if_true]
     rw [Array.getD_eq_getD_getElem?,Array.getElem?_append_left (by simp;omega),List.getElem?_toArray,hu]
     rfl
    rw [this]
    exact hru
   ·rw [if_neg (by omega),noDeep_t,if_pos (Nat.le_refl _)]
    trivial
  ·rw [if_neg (by omega),noDeep_t,if_neg (by omega)]
   have:tmv (tmv up d a) (d+1) { tmps:=args.toArray++Array.replicate (nt - args.toArray.size) undef,defers:=[] } e n=tmv up d a e n:=by
    show (if e=d+1 then _ else _)=_
    rw [if_neg hed]
   rw [this]
   exact hr.tm e n (by omega)
 ·rw [hg _ (by simp)];exact hr.bx b
 ·rw [hg _ (by simp)];exact hr.ob i
 ·rw [setTmps_get] at hi
  cases r with
  | t e n =>
   simp only [Nat.zero_le,true_and,Nat.zero_add,Nat.sub_zero] at hi
   split at hi
   ·rename_i hc
    rw [List.getD_eq_getElem?_getD,List.getElem?_eq_getElem hc.2] at hi
    exact hm _ (List.getElem_mem hc.2) i hi
   ·rw [noDeep_t] at hi
    split at hi
    ·simp [idsSV] at hi
    ·exact hr.ment _ i hi
  | x b =>
   simp only at hi
   exact hr.ment (.x b) i (by rwa [noDeep_o _ _ (by simp) s] at hi)
  | o b =>
   simp only at hi
   exact hr.ment (.o b) i (by rwa [noDeep_o _ _ (by simp) s] at hi)
 ·rw [hg _ (by simp),hg _ (by simp)] at hi;exact hr.key i hi
theorem Rel.leave {a2:Act} {w2:World} {G2:Gh} {s2:St} {ρ2:List T} (hd:a.defers=[]) (hr:Rel M B (d+1) (tmv up d a) s2 ρ2 G2 a2 w2):Rel M B d up (noDeep (d+1) s2) ρ2 G2 a w2:=by
 have hg:∀ r,(∀ e n,r≠.t e n)→(noDeep (d+1) s2).get r=s2.get r:=fun r hr=>noDeep_o _ _ hr s2
 refine ⟨fun e n he=>?_,fun b=>?_,fun i=>?_,fun r i hi=>?_,fun i hi=>?_,hr.lab,hd,hr.base,hr.bt⟩
 ·rw [noDeep_t,if_neg (by omega)]
  have:=hr.tm e n (by omega)
  have e1:tmv (tmv up d a) (d+1) a2 e n=tmv up d a e n:=by
   show (if e=d+1 then _ else _)=_
   rw [if_neg (by omega)]
  rw [e1] at this
  exact this
 ·rw [hg _ (by simp)];exact hr.bx b
 ·rw [hg _ (by simp)];exact hr.ob i
 ·cases r with
  | t e n =>
   rw [noDeep_t] at hi
   split at hi
   ·simp [idsSV] at hi
   ·exact hr.ment _ i hi
  | x b=>exact hr.ment (.x b) i (by rwa [hg _ (by simp)] at hi)
  | o b=>exact hr.ment (.o b) i (by rwa [hg _ (by simp)] at hi)
 ·rw [hg _ (by simp),hg _ (by simp)] at hi;exact hr.key i hi
theorem into_ok (E:Env P cx S) (hmx:P.follows .mixedOrders=true):∀ n,IntoOk P S R out B (intoN cx n)
 | 0=>by intro f g vs lv s ct fs kk p K0 a w args Ψ h;cases h
 | n+1=>by
  intro f g vs lv s ct fs kk p Z a w args Ψ h hat hk
  simp only [intoN,Option.bind_eq_some_iff] at h
  obtain ⟨fn,hfn,c,hc,h⟩:=h
  obtain ⟨hf,hin⟩:=E.into g fn hfn
  refine ⟨hin,?_⟩
  cases hb:(Nat.ble vs.length fn.ntmps && dstOk fn.ntmps c) with
  | false=>simp [hb] at h
  | true =>
   simp only [hb,cond_true] at h
   simp only [Bool.and_eq_true] at hb
   obtain ⟨K,ρ,G,h1,h2,h3,h4,h5,h6,h7,h8,h9,h10⟩:=hat
   have hle:=Nat.le_of_ble_eq_true hb.1
   obtain ⟨q1,q2⟩:=h7.enter h9 h10 hle
   refine calls_of_wp hf hc ?_
   refine comp_ok (f:=⟨f.d+1,tmv f.up f.d a,fn.ntmps⟩) E (into_ok E hmx n) hmx c 0 lv _ ct fs _ p _ w Z _ hb.2 h ⟨K,ρ,G,h1,h2,h3,h4,h5,h6,q1,q2,trivial⟩ fun e=>?_
   have fin:∀ (lv':Nat) (s':St) (ct':Ct) (fs':Facts) (p':PL) (a2:Act) (w2:World),(Go.Proofs.YtbhplkilhknciaaDoorC.results cx (f.d+1) s' fn.results.toList).bind (fun rs=>kk rs lv' (noDeep (f.d+1) s') ct' fs')=some p' →
     At S R out B ⟨f.d+1,tmv f.up f.d a,fn.ntmps⟩ Z XT p' lv' s' ct' fs' a2 w2→a2.defers=[]∧∃ v,(Go.results fn a2.tmps).run P w2=.ok v w2∧∃ v',Ending.returned v=.returned v'∧Ψ v' w2:=by
    rintro lv' s' ct' fs' p' a2 w2 hk2 ⟨K2,ρ2,G2,g1,g2,g3,g4,g5,g6,g7,g8,_⟩
    rw [Option.bind_eq_some_iff] at hk2
    obtain ⟨rs,hrs,hk2⟩:=hk2
    obtain ⟨us,u1,u2,u3⟩:=res_vals E.tys g7 hrs
    refine ⟨g7.dn,tupV us,run_results u1,tupV us,rfl,?_⟩
    exact hk rs lv' _ ct' fs' p' w2 us hk2 ⟨K2,ρ2,G2,g1,g2,g3,g4,g5,g6,g7.leave h7.dn,h8,u2,u3⟩
   cases e with
   | normal=>intro lv' s' ct' fs' p' a2 w2 hk2 hat2;exact fin lv' s' ct' fs' p' a2 w2 hk2 hat2
   | ret=>intro lv' s' ct' fs' p' a2 w2 hk2 hat2;exact fin lv' s' ct' fs' p' a2 w2 hk2 hat2
   | exit id=>intro lv' s' ct' fs' p' a2 w2 hk2 hat2;cases hk2
theorem plain_ok {k:Wk} {c:Ce} {x:Lf} {v:Value} (hk:∀ id,RelObj G w ρ id (k.get (.o id))) (h:k.plain c=some x) (hr:RelCe G w ρ c v):∃ t,x.ev ρ=t∧Den G.q w t v:=by
 unfold Wk.plain at h
 split at h
 ·cases h;obtain ⟨t,h1,h2⟩:=hr;exact ⟨t,Lf.evo_ev h1,h2⟩
 ·cases h
  have hv:v=.slice none 0 0:=hr
  subst hv
  exact ⟨_,rfl,.nil⟩
 ·rename_i id
  split at h
  ·rename_i y hy
   cases h
   have hob:=hk id
   rw [hy] at hob
   obtain ⟨t,h1,h2,_⟩:=hob
   obtain ⟨p,hp,hv⟩:=hr
   simp only [pthI_nil,Option.some.injEq] at hp
   subst hp
   exact ⟨t,Lf.evo_ev h1,by rw [hv];exact h2⟩
  ·cases h
 ·cases h
theorem plains_ok {k:Wk} (hk:∀ id,RelObj G w ρ id (k.get (.o id))):∀ {cs:List Ce} {xs:List Lf} {vs:List Value},k.plains cs=some xs→RelCs G w ρ cs vs→DenL G.q w (xs.map (Lf.ev ρ)) vs∧xs.length=cs.length
 | [],xs,vs,h,hr=>by
  simp [Wk.plains] at h
  subst h
  cases vs with
  | nil=>exact ⟨trivial,rfl⟩
  | cons _ _=>exact hr.elim
 | c :: cs,xs,[],h,hr=>hr.elim
 | c :: cs,xs,v :: vs,h,hr=>by
  simp only [Wk.plains,Option.bind_eq_some_iff,Option.some.injEq] at h
  obtain ⟨x,hx,ys,hys,rfl⟩:=h
  obtain ⟨t,ht,hd⟩:=plain_ok hk hx hr.1
  obtain ⟨g1,g2⟩:=plains_ok hk hys hr.2
  exact ⟨⟨by rw [ht];exact hd,g1⟩,by simp [g2]⟩
theorem outCs_ok:∀ {cs:List Ce} {ks:List Ck} {k k1:Wk} {xs:List Lf} {ids:List Nat} {vs:List Value},outCs k cs ks=some (k1,xs,ids)→(∀ id,RelObj G w ρ id (k.get (.o id)))→RelCs G w ρ cs vs→k1.Done S ρ →
  k.Done S ρ∧k.Same k1∧∃ is,OutCs G w ks vs (xs.map (Lf.ev ρ)) is∧is.filterMap id=ids∧∀ j,some j∈is→j % 4≠2
 | [],[],k,k1,xs,ids,vs,h,hk,hr,hd=>by
  simp only [outCs,Option.some.injEq,Prod.mk.injEq] at h
  obtain ⟨rfl,rfl,rfl⟩:=h
  cases vs with
  | nil=>exact ⟨hd,.refl _,[],trivial,rfl,fun j hj=>by cases hj⟩
  | cons _ _=>exact hr.elim
 | c :: cs,ck :: ks,k,k1,xs,ids,[],h,hk,hr,hd=>hr.elim
 | c :: cs,.p :: ks,k,k1,xs,ids,v :: vs,h,hk,hr,hd=>by
  have h':(k.plain c).bind (fun x=>(outCs k cs ks).bind fun r=>some (r.1,x :: r.2.1,r.2.2))=some (k1,xs,ids):=by
   cases c with
   | o id q=>cases q <;> exact h
   | p x=>exact h
   | n=>exact h
   | d=>exact h
  simp only [Option.bind_eq_some_iff,Option.some.injEq,Prod.mk.injEq] at h'
  obtain ⟨x,hx,⟨k2,ys,ids2⟩,h2,rfl,rfl,rfl⟩:=h'
  obtain ⟨g1,g2,is,g3,g4,g5⟩:=outCs_ok h2 hk hr.2 hd
  obtain ⟨t,ht,hden⟩:=plain_ok hk hx hr.1
  exact ⟨g1,g2,none :: is,⟨rfl,by rw [ht];exact hden,g3⟩,by simpa using g4,fun j hj=>g5 j (by simpa using hj)⟩
 | .p x :: cs,.s :: ks,k,k1,xs,ids,v :: vs,h,hk,hr,hd=>by
  simp only [outCs,Option.bind_eq_some_iff,Option.some.injEq,Prod.mk.injEq] at h
  obtain ⟨⟨k2,ys,ids2⟩,h2,rfl,rfl,rfl⟩:=h
  obtain ⟨hd2,r,hrr,hrv⟩:=Wk.em_done hd
  obtain ⟨g1,g2,is,g3,g4,g5⟩:=outCs_ok h2 hk hr.2 hd2
  obtain ⟨t,ht,hden⟩:=hr.1
  simp only [List.map_cons,List.map_nil,Lf.evo_ev ht,Prim.ev] at hrr
  split at hrr
  ·rename_i hsc
   cases hrr
   refine ⟨g1,g2.trans (Wk.em_same _ _ _),none :: is,⟨rfl,?_,?_,g3⟩,by simpa using g4,fun j hj=>g5 j (by simpa using hj)⟩
   ·rw [Lf.evo_ev hrv];exact hden
   ·rw [Lf.evo_ev hrv];exact hsc
  ·cases hrr
 | .n :: cs,.o dp :: ks,k,k1,xs,ids,v :: vs,h,hk,hr,hd=>by
  simp only [outCs,Option.bind_eq_some_iff,Option.some.injEq,Prod.mk.injEq] at h
  obtain ⟨⟨k2,ys,ids2⟩,h2,rfl,rfl,rfl⟩:=h
  obtain ⟨g1,g2,is,g3,g4,g5⟩:=outCs_ok h2 hk hr.2 hd
  exact ⟨g1,g2,none :: is,⟨hr.1,rfl,g3⟩,by simpa using g4,fun j hj=>g5 j (by simpa using hj)⟩
 | .o id [] :: cs,.o dp :: ks,k,k1,xs,ids,v :: vs,h,hk,hr,hd=>by
  simp only [outCs] at h
  split at h
  ·rename_i dp' x hx
   cases hdp:(dp' == dp && !Nat.beq (id % 4) 2) with
   | false=>simp [hdp] at h
   | true =>
    simp only [hdp,cond_true,Option.bind_eq_some_iff,Option.some.injEq,Prod.mk.injEq] at h
    simp only [Bool.and_eq_true,beq_iff_eq,Bool.not_eq_true'] at hdp
    obtain ⟨hdp,hid2⟩:=hdp
    subst hdp
    obtain ⟨⟨k2,ys,ids2⟩,h2,rfl,rfl,rfl⟩:=h
    obtain ⟨g1,g2,is,g3,g4,g5⟩:=outCs_ok h2 hk hr.2 hd
    have hob:=hk id
    rw [hx] at hob
    obtain ⟨t,ht,hown⟩:=hob
    obtain ⟨p,hp,hv⟩:=hr.1
    simp only [pthI_nil,Option.some.injEq] at hp
    subst hp
    refine ⟨g1,g2,some id :: is,⟨hv,by rw [Lf.evo_ev ht];exact hown,g3⟩,by simpa using g4,fun j hj=>?_⟩
    rcases List.mem_cons.1 hj with hj | hj
    ·cases hj;intro e;rw [e] at hid2;cases hid2
    ·exact g5 j hj
  ·cases h
 | [],_ :: _,k,k1,xs,ids,vs,h,_,_,_=>by simp [outCs] at h
 | c :: _,[],k,k1,xs,ids,vs,h,_,_,_=>by simp [outCs] at h
 | .p _ :: _,.o _ :: _,k,k1,xs,ids,_ :: _,h,_,_,_=>by simp [outCs] at h
 | .n :: _,.s :: _,k,k1,xs,ids,_ :: _,h,_,_,_=>by simp [outCs] at h
 | .d :: _,.s :: _,k,k1,xs,ids,_ :: _,h,_,_,_=>by simp [outCs] at h
 | .d :: _,.o _ :: _,k,k1,xs,ids,_ :: _,h,_,_,_=>by simp [outCs] at h
 | .o _ _ :: _,.s :: _,k,k1,xs,ids,_ :: _,h,_,_,_=>by simp [outCs] at h
 | .o _ (_ :: _) :: _,.o _ :: _,k,k1,xs,ids,_ :: _,h,_,_,_=>by simp [outCs] at h
theorem outCs_same:∀ {cs:List Ce} {ks:List Ck} {k k1:Wk} {xs:List Lf} {ids:List Nat},outCs k cs ks=some (k1,xs,ids)→k.Same k1
 | [],[],k,k1,xs,ids,h=>by
  simp only [outCs,Option.some.injEq,Prod.mk.injEq] at h
  obtain ⟨rfl,rfl,rfl⟩:=h
  exact .refl _
 | c :: cs,.p :: ks,k,k1,xs,ids,h=>by
  have h':(k.plain c).bind (fun x=>(outCs k cs ks).bind fun r=>some (r.1,x :: r.2.1,r.2.2))=some (k1,xs,ids):=by
   cases c with
   | o id q=>cases q <;> exact h
   | p x=>exact h
   | n=>exact h
   | d=>exact h
  simp only [Option.bind_eq_some_iff,Option.some.injEq,Prod.mk.injEq] at h'
  obtain ⟨x,hx,⟨k2,ys,ids2⟩,h2,rfl,rfl,rfl⟩:=h'
  exact outCs_same h2
 | .p x :: cs,.s :: ks,k,k1,xs,ids,h=>by
  simp only [outCs,Option.bind_eq_some_iff,Option.some.injEq,Prod.mk.injEq] at h
  obtain ⟨⟨k2,ys,ids2⟩,h2,rfl,rfl,rfl⟩:=h
  exact (outCs_same h2).trans (Wk.em_same _ _ _)
 | .n :: cs,.o dp :: ks,k,k1,xs,ids,h=>by
  simp only [outCs,Option.bind_eq_some_iff,Option.some.injEq,Prod.mk.injEq] at h
  obtain ⟨⟨k2,ys,ids2⟩,h2,rfl,rfl,rfl⟩:=h
  exact outCs_same h2
 | .o id [] :: cs,.o dp :: ks,k,k1,xs,ids,h=>by
  simp only [outCs] at h
  split at h
  ·rename_i dp' x hx
   cases hdp:(dp' == dp && !Nat.beq (id % 4) 2) with
   | false=>simp [hdp] at h
   | true =>
    simp only [hdp,cond_true,Option.bind_eq_some_iff,Option.some.injEq,Prod.mk.injEq] at h
    obtain ⟨⟨k2,ys,ids2⟩,h2,rfl,rfl,rfl⟩:=h
    exact outCs_same h2
  ·cases h
 | [],_ :: _,k,k1,xs,ids,h=>by simp [outCs] at h
 | c :: _,[],k,k1,xs,ids,h=>by simp [outCs] at h
 | .p _ :: _,.o _ :: _,k,k1,xs,ids,h=>by simp [outCs] at h
 | .n :: _,.s :: _,k,k1,xs,ids,h=>by simp [outCs] at h
 | .d :: _,.s :: _,k,k1,xs,ids,h=>by simp [outCs] at h
 | .d :: _,.o _ :: _,k,k1,xs,ids,h=>by simp [outCs] at h
 | .o _ _ :: _,.s :: _,k,k1,xs,ids,h=>by simp [outCs] at h
 | .o _ (_ :: _) :: _,.o _ :: _,k,k1,xs,ids,h=>by simp [outCs] at h
theorem outVs_same:∀ {vs:List SV} {rs:List (Bool × List Ck)} {k k1:Wk} {xs:List Lf} {ids:List Nat},outVs k vs rs=some (k1,xs,ids)→k.Same k1
 | [],[],k,k1,xs,ids,h=>by
  simp only [outVs,Option.some.injEq,Prod.mk.injEq] at h
  obtain ⟨rfl,rfl,rfl⟩:=h
  exact .refl _
 | .v ag cs :: vs,(ag',ks) :: rs,k,k1,xs,ids,h=>by
  simp only [outVs] at h
  cases hag:(ag == ag') with
  | false=>simp [hag] at h
  | true =>
   simp only [hag,cond_true,Option.bind_eq_some_iff,Option.some.injEq,Prod.mk.injEq] at h
   obtain ⟨⟨k2,ys,ids2⟩,h2,⟨k3,zs,ids3⟩,h3,rfl,rfl,rfl⟩:=h
   exact (outVs_same h2).trans (outCs_same h3)
 | [],_ :: _,k,k1,xs,ids,h=>by simp [outVs] at h
 | v :: _,[],k,k1,xs,ids,h=>by cases v <;> simp [outVs] at h
 | .un :: _,_ :: _,k,k1,xs,ids,h=>by simp [outVs] at h
 | .pt _ _ :: _,_ :: _,k,k1,xs,ids,h=>by simp [outVs] at h
 | .ep _ _ _ _ _ :: _,_ :: _,k,k1,xs,ids,h=>by simp [outVs] at h
 | .fp _ _ _ _ :: _,_ :: _,k,k1,xs,ids,h=>by simp [outVs] at h
 | .tp _ :: _,_ :: _,k,k1,xs,ids,h=>by simp [outVs] at h
 | .cl _ _ :: _,_ :: _,k,k1,xs,ids,h=>by simp [outVs] at h
 | .ob _ _ :: _,_ :: _,k,k1,xs,ids,h=>by simp [outVs] at h
 | .fz _ _ :: _,_ :: _,k,k1,xs,ids,h=>by simp [outVs] at h
 | .tk _ _ :: _,_ :: _,k,k1,xs,ids,h=>by simp [outVs] at h
 | .fl _ :: _,_ :: _,k,k1,xs,ids,h=>by simp [outVs] at h
 | .fr _ :: _,_ :: _,k,k1,xs,ids,h=>by simp [outVs] at h
theorem outVs_ok:∀ {vs:List SV} {rs:List (Bool × List Ck)} {k k1:Wk} {xs:List Lf} {ids:List Nat} {us:List Value},outVs k vs rs=some (k1,xs,ids)→(∀ id,RelObj G w ρ id (k.get (.o id)))→RelSVs G w ρ vs us→k1.Done S ρ →
  k.Done S ρ∧k.Same k1∧∃ is,OutVs G w rs us (xs.map (Lf.ev ρ)) is∧is.filterMap id=ids∧∀ j,some j∈is→j % 4≠2
 | [],[],k,k1,xs,ids,us,h,hk,hr,hd=>by
  simp only [outVs,Option.some.injEq,Prod.mk.injEq] at h
  obtain ⟨rfl,rfl,rfl⟩:=h
  cases us with
  | nil=>exact ⟨hd,.refl _,[],trivial,rfl,fun j hj=>by cases hj⟩
  | cons _ _=>exact hr.elim
 | .v ag cs :: vs,(ag',ks) :: rs,k,k1,xs,ids,[],h,hk,hr,hd=>hr.elim
 | .v ag cs :: vs,(ag',ks) :: rs,k,k1,xs,ids,u :: us,h,hk,hr,hd=>by
  simp only [outVs] at h
  cases hag:(ag == ag') with
  | false=>simp [hag] at h
  | true =>
   simp only [hag,cond_true,Option.bind_eq_some_iff,Option.some.injEq,Prod.mk.injEq] at h
   simp only [beq_iff_eq] at hag
   subst hag
   obtain ⟨⟨k2,ys,ids2⟩,h2,⟨k3,zs,ids3⟩,h3,rfl,rfl,rfl⟩:=h
   have h0:=hr.1
   have key:∀ ws:List Value,RelCs G w ρ cs ws→(∀ is,OutCs G w ks ws (zs.map (Lf.ev ρ)) is→OutV G w (ag,ks) u (zs.map (Lf.ev ρ)) is) →
     k.Done S ρ∧k.Same k3∧∃ is,OutVs G w ((ag,ks) :: rs) (u :: us) ((zs++ys).map (Lf.ev ρ)) is∧is.filterMap id=ids3++ids2∧∀ j,some j∈is→j % 4≠2:=by
    intro ws hws hout
    have hsame:∀ {k':Wk},k.Same k'→∀ id,RelObj G w ρ id (k'.get (.o id)):=fun hs id=>by rw [hs.get];exact hk id
    have pre:k.Same k2:=outVs_same h2
    obtain ⟨g1,g2,is,g3,g4,g5⟩:=outCs_ok h3 (hsame pre) hws hd
    obtain ⟨f1,f2,is2,f3,f4,f5⟩:=outVs_ok h2 hk hr.2 g1
    exact ⟨f1,f2.trans g2,is++is2,⟨_,_,is,is2,List.map_append,rfl,hout is g3,f3⟩,by rw [List.filterMap_append,g4,f4],fun j hj=>(List.mem_append.1 hj).elim (g5 j) (f5 j)⟩
   cases ag with
   | true=>obtain ⟨ws,rfl,hws⟩:=h0;exact key ws hws fun is ho=>⟨ws,rfl,ho⟩
   | false=>obtain ⟨c,rfl,hc,hna⟩:=h0;exact key [u] ⟨hc,trivial⟩ fun is ho=>⟨ho,hna⟩
 | [],_ :: _,k,k1,xs,ids,us,h,_,_,_=>by simp [outVs] at h
 | v :: _,[],k,k1,xs,ids,us,h,_,_,_=>by cases v <;> simp [outVs] at h
 | .un :: _,_ :: _,k,k1,xs,ids,us,h,_,_,_=>by simp [outVs] at h
 | .pt _ _ :: _,_ :: _,k,k1,xs,ids,us,h,_,_,_=>by simp [outVs] at h
 | .ep _ _ _ _ _ :: _,_ :: _,k,k1,xs,ids,us,h,_,_,_=>by simp [outVs] at h
 | .fp _ _ _ _ :: _,_ :: _,k,k1,xs,ids,us,h,_,_,_=>by simp [outVs] at h
 | .tp _ :: _,_ :: _,k,k1,xs,ids,us,h,_,_,_=>by simp [outVs] at h
 | .cl _ _ :: _,_ :: _,k,k1,xs,ids,us,h,_,_,_=>by simp [outVs] at h
 | .ob _ _ :: _,_ :: _,k,k1,xs,ids,us,h,_,_,_=>by simp [outVs] at h
 | .fz _ _ :: _,_ :: _,k,k1,xs,ids,us,h,_,_,_=>by simp [outVs] at h
 | .tk _ _ :: _,_ :: _,k,k1,xs,ids,us,h,_,_,_=>by simp [outVs] at h
 | .fl _ :: _,_ :: _,k,k1,xs,ids,us,h,_,_,_=>by simp [outVs] at h
 | .fr _ :: _,_ :: _,k,k1,xs,ids,us,h,_,_,_=>by simp [outVs] at h
end
section
variable {ρ:List T} {w:World} {S:Nat→Sem1} {P:Program} {cx:Cx} {R:Nat} {out:List T}
def Gh.ini (ω:Nat→Option Lb) (bl:Nat→Option Nat):Gh where
 ω:=ω
 β:=fun i=>(bl i).getD 0
 H:=fun _ _=>.slice none 0 0
 hs:=fun _ _=>⟨_,_,_,rfl⟩
theorem ini_ok {ω0:Nat→Option Lb} {bl:Nat→Option Nat}:∀ {ps:List PS} {args:List Value} {ts:List T} {i a:Nat},ArgIn ω0 w bl i ps args ts→(∀ j t,ts[j]?=some t→ρ[a+j]?=some t) →
  (iniPs a i ps).1=a+ts.length∧args.length=ps.length∧(∀ n,(∃ m,ps[n]?=some (.x m))→bl (i+n)≠none) ∧
  ∀ r v,(r,v)∈(iniPs a i ps).2→(∃ n c,r=.t 0 (i+n)∧n < ps.length∧args[n]?=some c∧RelSV (Gh.ini ω0 bl) w ρ v c∧∀ j∈idsSV v,j < i+ps.length) ∨
   (∃ b,r=.x b∧b < i+ps.length∧RelBox (Gh.ini ω0 bl) w ρ b v∧idsSV v=[])
 | [],args,ts,i,a,h,hρ=>by
  obtain ⟨rfl,rfl⟩:=h
  exact ⟨rfl,rfl,fun n ⟨m,hm⟩=>by simp at hm,fun r v hm=>by simp [iniPs] at hm⟩
 | .v ag n :: ps,args,ts,i,a,h,hρ=>by
  obtain ⟨c,args',vs,t1,t2,rfl,rfl,hl,hag,hd,h⟩:=h
  obtain ⟨g1,g2,g3,g4⟩:=ini_ok (i:=i+1) (a:=a+n) h (fun j t hj=>by
   have:=hρ (n+j) t (by rw [List.getElem?_append_right (by omega),hl];simpa using hj)
   rw [← this];congr 1;omega)
  obtain ⟨r1,r2⟩:=atoms_rel (a:=a) (G:=Gh.ini ω0 bl) hl (hd.keep (Nat.le_refl _) fun b _ hb=>⟨qf_none hb,rfl⟩) (fun j t hj=>hρ j t (by rw [List.getElem?_append_left (List.getElem?_eq_some_iff.1 hj).1];exact hj))
  refine ⟨by simp only [iniPs,List.length_append];omega,by simp [g2],fun n' ⟨m,hm⟩=>?_,fun r v hm=>?_⟩
  ·cases n' with
   | zero=>simp at hm
   | succ n'=>have:=g3 n' ⟨m,by simpa using hm⟩;rwa [show i+1+n'=i+(n'+1) by omega] at this
  ·simp only [iniPs,List.mem_cons,Prod.mk.injEq] at hm
   simp only [List.length_cons]
   rcases hm with ⟨rfl,rfl⟩ | hm
   ·left
    refine ⟨0,c,by simp,by omega,rfl,?_,fun j hj=>by rw [show idsSV (.v ag (atomsFrom a n))=idsCs (atomsFrom a n) from rfl,r2] at hj;cases hj⟩
    cases ag with
    | true=>exact ⟨vs,hag,r1⟩
    | false =>
     obtain ⟨rfl,hna⟩:=hag
     match h0:atomsFrom a n,r1 with
     | [x],r1=>exact ⟨x,h0.symm ▸ h0,r1.1,hna⟩
   ·rcases g4 r v hm with ⟨n',c',e1,e2,e3,e4,e5⟩ | ⟨b,e1,e2,e3,e4⟩
    ·exact .inl ⟨n'+1,c',by rw [e1];congr 1;omega,by omega,by simpa using e3,e4,fun j hj=>by have:=e5 j hj;omega⟩
    ·exact .inr ⟨b,e1,by omega,e3,e4⟩
 | .x n :: ps,args,ts,i,a,h,hρ=>by
  obtain ⟨c,args',b,arr,elem,t1,t2,rfl,hc,hb,hω,hh,rfl,hl,hd,h⟩:=h
  obtain ⟨g1,g2,g3,g4⟩:=ini_ok (i:=i+1) (a:=a+n) h (fun j t hj=>by
   have:=hρ (n+j) t (by rw [List.getElem?_append_right (by omega),hl];simpa using hj)
   rw [← this];congr 1;omega)
  obtain ⟨r1,r2⟩:=atoms_rel (a:=a) (G:=Gh.ini ω0 bl) hl (hd.keep (Nat.le_refl _) fun b _ hb=>⟨qf_none hb,rfl⟩) (fun j t hj=>hρ j t (by rw [List.getElem?_append_left (List.getElem?_eq_some_iff.1 hj).1];exact hj))
  have hβ:(Gh.ini ω0 bl).β i=b:=by simp [Gh.ini,hb]
  refine ⟨by simp only [iniPs,List.length_append];omega,by simp [g2],fun n' ⟨m,hm⟩=>?_,fun r v hm=>?_⟩
  ·cases n' with
   | zero=>rw [Nat.add_zero,hb];simp
   | succ n'=>have:=g3 n' ⟨m,by simpa using hm⟩;rwa [show i+1+n'=i+(n'+1) by omega] at this
  ·simp only [iniPs,List.mem_cons,Prod.mk.injEq] at hm
   simp only [List.length_cons]
   rcases hm with ⟨rfl,rfl⟩ | ⟨rfl,rfl⟩ | hm
   ·exact .inl ⟨0,c,by simp,by omega,rfl,by rw [RelSV,hβ];exact hc,fun j hj=>by simp [idsSV] at hj;omega⟩
   ·exact .inr ⟨i,rfl,by omega,⟨by rw [hβ];exact hω,arr,elem,by rw [hβ];exact hh,r1⟩,r2⟩
   ·rcases g4 r v hm with ⟨n',c',e1,e2,e3,e4,e5⟩ | ⟨b,e1,e2,e3,e4⟩
    ·exact .inl ⟨n'+1,c',by rw [e1];congr 1;omega,by omega,by simpa using e3,e4,fun j hj=>by have:=e5 j hj;omega⟩
    ·exact .inr ⟨b,e1,by omega,e3,e4⟩
theorem outBx_ok {G:Gh} {bl:Nat→Option Nat} {k:Wk} (hk:∀ id,RelObj G w ρ id (k.get (.o id))) (hx:∀ b,RelBox G w ρ b (k.get (.x b))) (hbl:∀ i b,bl i=some b→G.β i=b) :
  ∀ {ps:List PS} {i:Nat} {xs:List Lf},outBx k i ps=some xs→(∀ n,(∃ m,ps[n]?=some (.x m))→bl (i+n)≠none)→BoxOut G w bl i ps (xs.map (Lf.ev ρ))
 | [],i,xs,h,_=>by simp [outBx] at h;subst h;rfl
 | .v _ _ :: ps,i,xs,h,hn=>outBx_ok (ps:=ps) (i:=i+1) hk hx hbl h fun n ⟨m,hm⟩=>by have:=hn (n+1) ⟨m,by simpa using hm⟩;rwa [show i+1+n=i+(n+1) by omega]
 | .x n :: ps,i,xs,h,hn=>by
  simp only [outBx] at h
  split at h
  ·rename_i ag cs hcs
   cases hb:Nat.beq cs.length n with
   | false=>simp [hb] at h
   | true =>
    simp only [hb,cond_true,Option.bind_eq_some_iff,Option.some.injEq] at h
    obtain ⟨x1,h1,x2,h2,rfl⟩:=h
    have hbox:=hx i
    rw [hcs] at hbox
    obtain ⟨g1,arr,elem,g2,g3⟩:=hbox
    obtain ⟨f1,f2⟩:=plains_ok hk h1 g3
    cases hbi:bl i with
    | none=>exact absurd hbi (by have:=hn 0 ⟨n,rfl⟩;simpa using this)
    | some b =>
     have hβ:=hbl i b hbi
     rw [hβ] at g1 g2
     exact ⟨b,arr,elem,_,_,hbi,g1,g2,List.map_append,by rw [List.length_map,f2];exact Nat.eq_of_beq_eq_true hb,f1,
      outBx_ok hk hx hbl h2 fun n ⟨m,hm⟩=>by have:=hn (n+1) ⟨m,by simpa using hm⟩;rwa [show i+1+n=i+(n+1) by omega]⟩
  ·cases h
theorem OutVs.len {G':Gh} {w':World}:∀ {rs:List (Bool × List Ck)} {vs:List Value} {ts:List T} {is:List (Option Nat)},OutVs G' w' rs vs ts is→rs.length=vs.length
 | [],[],[],[],_=>rfl
 | r :: rs,v :: vs,ts,is,h=>by
  obtain ⟨t1,t2,i1,i2,rfl,rfl,h1,h2⟩:=h
  simp [OutVs.len h2]
 | [],[],_ :: _,_,h=>h.elim
 | [],[],[],_ :: _,h=>h.elim
 | [],_ :: _,_,_,h=>h.elim
 | _ :: _,[],_,_,h=>h.elim
theorem retV_of {G':Gh} {w':World} {rs:List (Bool × List Ck)} {vs:List Value} {ts:List T} {is:List (Option Nat)} (h:OutVs G' w' rs vs ts is):RetV G' w' rs (tupV vs) ts is:=by
 have hl:=h.len
 match rs,vs,h,hl with
 | [],[],h,_ =>
  cases ts with
  | nil=>cases is with
   | nil=>exact ⟨rfl,rfl⟩
   | cons _ _=>exact h.elim
  | cons _ _=>exact h.elim
 | [r],[v],h,_=>exact h
 | r :: r' :: rs,v :: v' :: vs,h,_ =>
  refine ⟨v :: v' :: vs,?_,h⟩
  unfold tupV
  rw [dif_neg (by simp)]
theorem RelSVs.ext {G:Gh} {e:List T}:∀ {vs:List SV} {us:List Value},RelSVs G w ρ vs us→RelSVs G w (ρ++e) vs us
 | [],[],_=>trivial
 | _ :: _,_ :: _,h=>⟨h.1.ext,RelSVs.ext h.2⟩
 | [],_ :: _,h=>h.elim
 | _ :: _,[],h=>h.elim
def Gh.strip (G:Gh):Gh:={ G with ω:=G.q }
theorem Gh.strip_q (G:Gh):G.strip.q=G.q:=by
 funext b
 show qf (qf G.ω) b=qf G.ω b
 unfold qf
 cases hb:G.ω b with
 | none=>rfl
 | some l=>cases hq:qt l <;> simp [hq]
theorem sigOk_flat {sg:Sig} (h:sigOk sg=true) (hp:hasP sg=true):∀ r∈sg.rs,∀ k∈r.2,k≠.o true:=by
 intro r hr k hk e
 subst e
 simp only [sigOk,hp,Bool.true_and,Bool.not_eq_true'] at h
 have h1:=List.any_eq_false.1 h r hr
 exact absurd (List.any_eq_true.2 ⟨Ck.o true,hk,rfl⟩) h1
theorem OutCs.strip {G:Gh}:∀ {ks:List Ck} {vs:List Value} {ts:List T} {is:List (Option Nat)},OutCs G w ks vs ts is→(∀ k∈ks,k≠.o true)→(∀ j,some j∈is→j % 4≠2)→OutCs G.strip w ks vs ts is
 | [],[],[],[],_,_,_=>trivial
 | .s :: ks,v :: vs,t :: ts,x :: is,h,hk,h2=>⟨h.1,by rw [Gh.strip_q];exact h.2.1,h.2.2.1,OutCs.strip h.2.2.2 (fun k hm=>hk k (by simp [hm])) fun j hj=>h2 j (by simp [hj])⟩
 | .p :: ks,v :: vs,t :: ts,x :: is,h,hk,h2=>⟨h.1,by rw [Gh.strip_q];exact h.2.1,OutCs.strip h.2.2 (fun k hm=>hk k (by simp [hm])) fun j hj=>h2 j (by simp [hj])⟩
 | .o dp :: ks,v :: vs,t :: ts,none :: is,h,hk,h2=>⟨h.1,h.2.1,OutCs.strip h.2.2 (fun k hm=>hk k (by simp [hm])) fun j hj=>h2 j (by simp [hj])⟩
 | .o true :: ks,v :: vs,t :: ts,some id :: is,h,hk,h2=>absurd rfl (hk _ (by simp))
 | .o false :: ks,v :: vs,t :: ts,some id :: is,h,hk,h2 =>
  ⟨h.1,h.2.1.flatMove (fun c hc=>qf_some hc (qt_top (h2 id (by simp)))) rfl (fun b hb=>by rw [Gh.strip_q];exact hb),OutCs.strip h.2.2 (fun k hm=>hk k (by simp [hm])) fun j hj=>h2 j (by simp [hj])⟩
 | [],[],[],_ :: _,h,_,_=>h.elim
 | [],[],_ :: _,_,h,_,_=>h.elim
 | [],_ :: _,_,_,h,_,_=>h.elim
 | k :: _,[],_,_,h,_,_=>by cases k <;> exact h.elim
 | k :: _,_ :: _,[],_,h,_,_=>by cases k <;> exact h.elim
 | k :: _,_ :: _,_ :: _,[],h,_,_=>by cases k <;> exact h.elim
theorem OutVs.strip {G:Gh}:∀ {rs:List (Bool × List Ck)} {vs:List Value} {ts:List T} {is:List (Option Nat)},OutVs G w rs vs ts is→(∀ r∈rs,∀ k∈r.2,k≠.o true)→(∀ j,some j∈is→j % 4≠2)→OutVs G.strip w rs vs ts is
 | [],[],[],[],_,_,_=>trivial
 | (ag,ks) :: rs,v :: vs,ts,is,h,hk,h2=>by
  obtain ⟨t1,t2,i1,i2,rfl,rfl,h1,h3⟩:=h
  refine ⟨t1,t2,i1,i2,rfl,rfl,?_,OutVs.strip h3 (fun r hr=>hk r (by simp [hr])) fun j hj=>h2 j (by simp [hj])⟩
  have h20:∀ j,some j∈i1→j % 4≠2:=fun j hj=>h2 j (by simp [hj])
  have h0:=hk (ag,ks) (by simp)
  cases ag with
  | true=>obtain ⟨us,e,h3⟩:=h1;exact ⟨us,e,h3.strip h0 h20⟩
  | false=>exact ⟨h1.1.strip h0 h20,h1.2⟩
 | [],[],_ :: _,_,h,_,_=>h.elim
 | [],[],[],_ :: _,h,_,_=>h.elim
 | [],_ :: _,_,_,h,_,_=>h.elim
 | _ :: _,[],_,_,h,_,_=>h.elim
theorem BoxOut.strip {G:Gh} {bl:Nat→Option Nat}:∀ {ps:List PS} {i:Nat} {ts:List T},BoxOut G w bl i ps ts→BoxOut G.strip w bl i ps ts
 | [],i,ts,h=>h
 | .v _ _ :: ps,i,ts,h=>BoxOut.strip (ps:=ps) (i:=i+1) h
 | .x n :: ps,i,ts,h=>by
  obtain ⟨b,arr,elem,t1,t2,h1,h2,h3,h4,h5,h6,h7⟩:=h
  exact ⟨b,arr,elem,t1,t2,h1,qf_some h2 rfl,h3,h4,h5,by rw [Gh.strip_q];exact h6,BoxOut.strip h7⟩
theorem compFn_ok {n fid:Nat} {fn:Func} {sg:Sig} {pl:PL} (E:Env P cx S) (hmx:P.follows .mixedOrders=true) (hf:P.funcs[fid]?=some fn) (h:compFn cx n fid fn sg=some pl) :
  CallOk P sg fid fun ts=>pl.den S R [] ts:=by
 intro w ω0 bl args ts outs hF hst hin
 unfold compFn at h
 simp only [Option.bind_eq_some_iff] at h
 obtain ⟨c,hc,h⟩:=h
 cases hb:(dstOk fn.ntmps c && Nat.ble sg.ps.length fn.ntmps && sigOk sg) with
 | false=>simp [hb] at h
 | true =>
  simp only [hb,cond_true] at h
  simp only [Bool.and_eq_true] at hb
  obtain ⟨hb,hsig⟩:=hb
  have hnt:=Nat.le_of_ble_eq_true hb.2
  obtain ⟨g1,g2,g3,g4⟩:=ini_ok (ρ:=ts) (i:=0) (a:=0) hin (fun j t hj=>by rw [Nat.zero_add];exact hj)
  simp only [Nat.zero_add] at g1 g3 g4
  have hlook:∀ r,(iniPs 0 0 sg.ps).2.get r=.un∨(r,(iniPs 0 0 sg.ps).2.get r)∈(iniPs 0 0 sg.ps).2:=by
   intro r
   rw [St.look_get]
   cases hl:(iniPs 0 0 sg.ps).2.look r with
   | none=>exact .inl rfl
   | some v=>exact .inr (look_mem hl)
  refine calls_of_wp hf hc ?_
  have hsz:(args.toArray++Array.replicate (fn.ntmps - args.toArray.size) undef:Array Value).size=fn.ntmps:=by simp;omega
  have hrel:Rel (fun i=>i < sg.ps.length+1) ⟨w,ω0,bl⟩ 0 (fun _ _=>undef) (iniPs 0 0 sg.ps).2 ts (Gh.ini ω0 bl) { tmps:=args.toArray++Array.replicate (fn.ntmps - args.toArray.size) undef,defers:=[] } w:=by
   refine ⟨fun e m he=>?_,fun b=>?_,fun i=>?_,fun r i hi=>?_,fun i hi=>?_,fun b l hb=>?_,rfl,⟨rfl,rfl,rfl,Nat.le_refl _,fun b _ hb=>⟨hb,rfl⟩,fun b hb=>⟨hb,rfl⟩,hst.gl⟩,fun i b hb=>⟨by have:=(hst.bl i b hb).1;omega,by show (bl i).getD 0=b;rw [show bl i=some b from hb];rfl⟩⟩
   ·obtain rfl:e=0:=by omega
    rcases hlook (.t 0 m) with hu | hm
    ·rw [hu];trivial
    ·rcases g4 _ _ hm with ⟨k,c',e1,e2,e3,e4,_⟩ | ⟨b,e1,_⟩
     ·cases e1
      simp only [tmv,if_true]
      rw [Array.getD_eq_getD_getElem?,Array.getElem?_append_left (by simp;omega),List.getElem?_toArray,e3]
      exact e4
     ·cases e1
   ·rcases hlook (.x b) with hu | hm
    ·rw [hu];trivial
    ·rcases g4 _ _ hm with ⟨k,c',e1,_⟩ | ⟨b',e1,_,e2,_⟩
     ·cases e1
     ·cases e1;exact e2
   ·rcases hlook (.o i) with hu | hm
    ·rw [hu];trivial
    ·rcases g4 _ _ hm with ⟨k,c',e1,_⟩ | ⟨b',e1,_⟩ <;> cases e1
   ·rcases hlook r with hu | hm
    ·rw [hu] at hi;simp [idsSV] at hi
    ·rcases g4 _ _ hm with ⟨k,c',_,_,_,_,e5⟩ | ⟨b',_,_,_,e4⟩
     ·have:=e5 i hi;omega
     ·rw [e4] at hi;cases hi
   ·rcases hi with hi | hi
    ·rcases hlook (.x i) with hu | hm
     ·exact absurd hu hi
     ·rcases g4 _ _ hm with ⟨k,c',e1,_⟩ | ⟨b',e1,e2,_⟩
      ·cases e1
      ·cases e1;omega
    ·rcases hlook (.o i) with hu | hm
     ·exact absurd hu hi
     ·rcases g4 _ _ hm with ⟨k,c',e1,_⟩ | ⟨b',e1,_⟩ <;> cases e1
   ·obtain ⟨q1,q2⟩:=hst.lab b l hb
    refine ⟨?_,q1⟩
    rcases q2 with rfl | ⟨i,rfl,hi⟩
    ·show 0 < sg.ps.length+1;omega
    ·have:=(hst.bl i b hi).1;show i < _;omega
  refine comp_ok (f:=⟨0,fun _ _=>undef,fn.ntmps⟩) (R:=R) (out:=outs) (B:=⟨w,ω0,bl⟩) E (into_ok E hmx n) hmx c 0 0 _ ⟨(iniPs 0 0 sg.ps).1,sg.ps.length+1⟩ [] _ pl _ w ⟨[],ts⟩ _ hb.1 h
   ⟨[],ts,Gh.ini ω0 bl,hF,rfl,⟨[],rfl⟩,⟨[],by simp⟩,g1.symm,fun n b hn=>by simp [fact] at hn,hrel,hsz,trivial⟩ fun e=>?_
  have fin:∀ (lv':Nat) (s':St) (ct':Ct) (fs':Facts) (p':PL) (a2:Act) (w2:World),endK cx fn sg lv' s' ct' fs'=some p'→At S R outs ⟨w,ω0,bl⟩ ⟨0,fun _ _=>undef,fn.ntmps⟩ ⟨[],ts⟩ XT p' lv' s' ct' fs' a2 w2 →
    a2.defers=[]∧∃ v,(Go.results fn a2.tmps).run P w2=.ok v w2∧∃ v' G is o1 o2,Ending.returned v=.returned v'∧Post sg w ω0 bl outs v' w2 G is o1 o2:=by
   rintro lv' s' ct' fs' p' a2 w2 hk ⟨K2,ρ2,G2,d1,d2,d3,d4,d5,d6,d7,d8,_⟩
   unfold endK at hk
   rw [Option.bind_eq_some_iff] at hk
   obtain ⟨vs,hvs,hk⟩:=hk
   obtain ⟨us,u1,u2,u3⟩:=res_vals E.tys d7 hvs
   refine ⟨d7.dn,tupV us,run_results u1,?_⟩
   simp only at hk
   split at hk
   ·cases hk;cases d1
   ·rename_i k xs ids hov
    split at hk
    ·cases hk;cases d1
    ·rename_i ys hys
     cases hnd:nodupN ids with
     | false=>rw [hnd] at hk;simp only [cond_false,Option.some.injEq] at hk;subst hk;cases d1
     | true =>
      rw [hnd] at hk
      simp only [cond_true] at hk
      cases hck:(Nat.beq k.ct.a (ct'.a+isz k.is) && insOk k.ct.a k.is) with
      | false=>rw [hck] at hk;cases hk
      | true =>
       rw [hck] at hk
       simp only [cond_true,Option.some.injEq] at hk
       subst hk
       simp only [Bool.and_eq_true] at hck
       have hca:=Nat.eq_of_beq_eq_true hck.1
       obtain ⟨tz,w1,w3,w4⟩:=wrap_den (S:=S) (R:=R) (K:=K2) (out:=outs) (ρ:=ρ2) (by rw [d5,← hca];exact hck.2) d1
       have hdone:k.Done S (ρ2++tz):=by
        have:=w4 []
        rw [List.append_nil,d5,← hca] at this
        exact this
       obtain ⟨G3,d9,hless⟩:=(d7.ext (e:=tz)).acts (l:=outActs vs sg.rs++bxActs s' 0 sg.ps)
       have hvals:RelSVs G3 w2 (ρ2++tz) vs us:=RelSVs.keep (hless.keep w2) (RelSVs.ext u2)
       have hg:∀ r,k.get r=(doActs s' (outActs vs sg.rs++bxActs s' 0 sg.ps)).get r:=fun r=>(outVs_same hov).get r
       obtain ⟨_,_,is,v3,v4,v5⟩:=outVs_ok hov (fun id=>d9.ob id) hvals hdone
       simp only [PL.den,Option.some.injEq,List.map_append] at w3
       have hbo:=outBx_ok (k:=k) (fun id=>by rw [hg];exact d9.ob id) (fun b=>by rw [hg];exact d9.bx b) (fun i b hb=>(d9.bt i b hb).2) hys fun n hn=>by rw [Nat.zero_add];exact g3 n hn
       have hnd2:(is.filterMap id).Nodup:=by rw [v4];exact nodupN_ok hnd
       cases hp:hasP sg with
       | false=>exact ⟨tupV us,G3,is,_,_,rfl,⟨⟨d9.base.os,d9.base.tape,d9.base.output⟩,d9.base.size,d9.base.free,d9.base.frn,fun b l hb=>(d9.lab b l hb).2,fun hq=>absurd (hp.symm.trans hq) (by simp),w3.symm,hnd2,retV_of v3,hbo⟩⟩
       | true =>
        refine ⟨tupV us,G3.strip,is,_,_,rfl,⟨⟨d9.base.os,d9.base.tape,d9.base.output⟩,d9.base.size,fun b hb h0=>⟨qf_none (d9.base.free b hb h0).1,(d9.base.free b hb h0).2⟩,fun b hb=>⟨qf_some (d9.base.frn b hb).1 rfl,(d9.base.frn b hb).2⟩,
         fun b l hb=>(d9.lab b l (q_some hb)).2,fun _ b hb=>by rw [Gh.strip_q] at hb;exact hb,w3.symm,hnd2,retV_of (v3.strip (sigOk_flat hsig hp) v5),hbo.strip⟩⟩
  cases e with
  | normal=>intro lv' s' ct' fs' p' a2 w2 hk2 hat2;exact fin lv' s' ct' fs' p' a2 w2 hk2 hat2
  | ret=>intro lv' s' ct' fs' p' a2 w2 hk2 hat2;exact fin lv' s' ct' fs' p' a2 w2 hk2 hat2
  | exit id=>intro lv' s' ct' fs' p' a2 w2 hk2 hat2;cases hk2
end
end Go.Proofs.YtbhplkilhknciaaDoorC
namespace Go.Proofs.YtbhplkilhknciaaDoorC
def pick (l:List (Nat × Sem1)) (g:Nat):Sem1 :=
 match l with
 | []=>fun _=>none
 | e :: l=>bif Nat.beq e.1 g then e.2 else pick l g
def Q (p:Prim) (l:List Lf) (r:PL):PL:=.ins (.pr p l) r
def I (n:Int):Lf:=.k (.int .i64 n)
instance Lfn {n:Nat}:OfNat Lf n:=⟨.a n⟩
def Qc (w i:Nat) (l:List Lf) (r:PL):PL:=.ins (.pr (.cell w i) l) r
def Qz (l:List Lf) (r:PL):PL:=.ins (.pr (.scl) l) r
def Qa (l:List Lf) (r:PL):PL:=.ins (.pr (.bin .add) l) r
def Qb (l:List Lf) (r:PL):PL:=.ins (.pr (.bnd) l) r
def Ql (l:List Lf) (r:PL):PL:=.ins (.pr (.bin .lss) l) r
def Qe (l:List Lf) (r:PL):PL:=.ins (.pr (.bin .eql) l) r
def Qn (l:List Lf) (r:PL):PL:=.ins (.pr (.len) l) r
def Qt (l:List Lf) (r:PL):PL:=.ins (.pr (.un .not) l) r
def Qp (l:List Lf) (r:PL):PL:=.ins (.pr (.app true 1) l) r
def Qo (l:List Lf) (r:PL):PL:=.ins (.pr (.app false 3) l) r
def Qu (l:List Lf) (r:PL):PL:=.ins (.pr (.bin .neq) l) r
def Qg (l:List Lf) (r:PL):PL:=.ins (.pr (.bin .gtr) l) r
def Qm (l:List Lf) (r:PL):PL:=.ins (.pr (.bin .leq) l) r
def Qh (l:List Lf) (r:PL):PL:=.ins (.pr (.bin .geq) l) r
def Qs (l:List Lf) (r:PL):PL:=.ins (.pr (.bin .sub) l) r
def Qx (l:List Lf) (r:PL):PL:=.ins (.pr (.lit 1 [true]) l) r
def Qy (l:List Lf) (r:PL):PL:=.ins (.pr (.app false 8) l) r
def Qq (l:List Lf) (r:PL):PL:=.ins (.pr .bnd l) <| .ins (.pr (.scell 1 0) l) r
def Q1 (l:List Lf) (r:PL):PL:=.ins (.pr .bnd l) <| .ins (.pr (.cell 1 0) l) <| r
def Q2 (l:List Lf) (r:PL):PL:=.ins (.pr .bnd l) <| .ins (.pr (.cell 2 0) l) <| .ins (.pr (.cell 2 1) l) <| r
def Q3 (l:List Lf) (r:PL):PL:=.ins (.pr .bnd l) <| .ins (.pr (.cell 3 0) l) <| .ins (.pr (.cell 3 1) l) <| .ins (.pr (.cell 3 2) l) <| r
def Q4 (l:List Lf) (r:PL):PL:=.ins (.pr .bnd l) <| .ins (.pr (.cell 4 0) l) <| .ins (.pr (.cell 4 1) l) <| .ins (.pr (.cell 4 2) l) <| .ins (.pr (.cell 4 3) l) <| r
def Q6 (l:List Lf) (r:PL):PL:=.ins (.pr .bnd l) <| .ins (.pr (.cell 6 0) l) <| .ins (.pr (.cell 6 1) l) <| .ins (.pr (.cell 6 2) l) <| .ins (.pr (.cell 6 3) l) <| .ins (.pr (.cell 6 4) l) <| .ins (.pr (.cell 6 5) l) <| r
def Q8 (l:List Lf) (r:PL):PL:=.ins (.pr .bnd l) <| .ins (.pr (.cell 8 0) l) <| .ins (.pr (.cell 8 1) l) <| .ins (.pr (.cell 8 2) l) <| .ins (.pr (.cell 8 3) l) <| .ins (.pr (.cell 8 4) l) <| .ins (.pr (.cell 8 5) l) <| .ins (.pr (.cell 8 6) l) <| .ins (.pr (.cell 8 7) l) <| r
def Qi (g:Nat) (l:List Lf) (m:Nat) (r:PL):PL:=.ins (.cl g l m) r
def Fs (p:PL) (l:List (Nat × Sem1)):Sem1:=fun ts=>p.den (pick l) rounds [] ts
end Go.Proofs.YtbhplkilhknciaaDoorC
namespace Go.Proofs.YtbhplkilhknciaaDoorC
inductive Ty where
 | i (k:IntKind)
 | b
 | s
 | sl (fs:List Ty)
mutual
def WT:Ty→T→Prop
 | .i k,t=>∃ n,t=.c (.int k n)∧(Lit.int k n).wf=true
 | .b,t=>∃ b,t=.c (.bool b)
 | .s,t=>∃ s:ByteArray,t=.c (.string s)∧s.size≤maxLen
 | .sl fs,t=>∃ xs,t=.l xs∧xs.length≤maxLen∧∀ r∈xs,WTs fs r
def WTs:List Ty→List T→Prop
 | [],ts=>ts=[]
 | f :: fs,ts=>∃ t ts',ts=t :: ts'∧WT f t∧WTs fs ts'
end
def WTsU:List Ty→List T→Prop
 | [],ts=>ts=[]
 | f :: fs,ts=>∃ t ts',ts=t :: ts'∧(match f with
  | .i k=>∃ n,t=.c (.int k n)∧(Lit.int k n).wf=true
  | .b=>∃ b,t=.c (.bool b)
  | .s=>∃ s:ByteArray,t=.c (.string s)∧s.size≤maxLen
  | .sl gs=>WT (.sl gs) t)∧WTsU fs ts'
theorem WTsU_of:∀ {fs:List Ty} {ts:List T},WTs fs ts→WTsU fs ts
 | [],ts,h=>by unfold WTs at h;exact h
 | f :: fs,ts,h=>by
  unfold WTs at h
  obtain ⟨t,ts',rfl,h1,h2⟩:=h
  refine ⟨t,ts',rfl,?_,WTsU_of h2⟩
  cases f with
  | i k=>unfold WT at h1;exact h1
  | b=>unfold WT at h1;exact h1
  | s=>unfold WT at h1;exact h1
  | sl gs=>exact h1
theorem WTs.append:∀ {fs gs:List Ty} {ts us:List T},WTs fs ts→WTs gs us→WTs (fs++gs) (ts++us)
 | [],gs,ts,us,h,h'=>by
  unfold WTs at h
  subst h
  exact h'
 | f :: fs,gs,ts,us,h,h'=>by
  unfold WTs at h
  obtain ⟨t,ts',rfl,h1,h2⟩:=h
  show WTs (f :: (fs++gs)) (t :: (ts'++us))
  unfold WTs
  exact ⟨t,_,rfl,h1,h2.append h'⟩
theorem WTs.length:∀ {fs:List Ty} {ts:List T},WTs fs ts→ts.length=fs.length
 | [],ts,h=>by
  unfold WTs at h
  subst h
  rfl
 | f :: fs,ts,h=>by
  unfold WTs at h
  obtain ⟨t,ts',rfl,h1,h2⟩:=h
  simp [h2.length]
mutual
def bulk:T→Nat
 | .c (.string s)=>s.size
 | .c _=>0
 | .l xs=>bulkRs xs
def bulkR:List T→Nat
 | []=>0
 | t :: ts=>bulk t+bulkR ts
def bulkRs:List (List T)→Nat
 | []=>0
 | r :: rs=>1+(bulkR r+bulkRs rs)
end
theorem bulkRs_len:∀ (xs:List (List T)),xs.length≤bulkRs xs
 | []=>by simp [bulkRs]
 | r :: rs=>by have:=bulkRs_len rs;simp [bulkRs];omega
theorem bulkRs_get:∀ {xs:List (List T)} {i:Nat} {r:List T},xs[i]?=some r→bulkR r+1≤bulkRs xs
 | [],_,_,h=>by simp at h
 | r' :: rs,0,r,h=>by simp at h;subst h;simp [bulkRs];omega
 | r' :: rs,i+1,r,h=>by
  have:=bulkRs_get (xs:=rs) (i:=i) (r:=r) (by simpa using h)
  simp [bulkRs];omega
theorem bulkRs_take_succ:∀ {xs:List (List T)} {i:Nat} {r:List T},xs[i]?=some r→bulkRs (xs.take (i+1))=bulkRs (xs.take i)+(bulkR r+1)
 | [],_,_,h=>by simp at h
 | r' :: rs,0,r,h=>by simp at h;subst h;simp [bulkRs];omega
 | r' :: rs,i+1,r,h=>by
  have:=bulkRs_take_succ (xs:=rs) (i:=i) (r:=r) (by simpa using h)
  simp only [List.take_succ_cons,bulkRs,this];omega
theorem bulkRs_append (xs ys:List (List T)):bulkRs (xs++ys)=bulkRs xs+bulkRs ys:=by
 induction xs with
 | nil=>simp [bulkRs]
 | cons r rs ih=>simp [bulkRs,ih];omega
theorem bulk_l (xs:List (List T)):bulk (.l xs)=bulkRs xs:=by simp only [bulk]
theorem bulk_i (k:IntKind) (n:Int):bulk (.c (.int k n))=0:=by simp only [bulk]
theorem bulk_b (b:Bool):bulk (.c (.bool b))=0:=by simp only [bulk]
theorem bulkR_cons (t:T) (ts:List T):bulkR (t :: ts)=bulk t+bulkR ts:=by simp only [bulkR]
theorem bind_some' {α β:Type} (a:α) (f:α→Option β):(some a).bind f=f a:=rfl
theorem wrap64 {n:Int} (h:-9223372036854775808≤n) (h':n < 9223372036854775808):IntKind.i64.wrap n=n:=by
 simp [IntKind.wrap,IntKind.bits,IntKind.signed]
 omega
theorem ev_len (xs:List (List T)):Prim.ev .len [.l xs]=some (.c (.int .i64 xs.length)):=rfl
theorem ev_lens (s:ByteArray):Prim.ev .lens [.c (.string s)]=some (.c (.int .i64 s.size)):=rfl
theorem ev_scl_i (k:IntKind) (n:Int):Prim.ev .scl [.c (.int k n)]=some (.c (.int k n)):=rfl
theorem ev_scl_b (b:Bool):Prim.ev .scl [.c (.bool b)]=some (.c (.bool b)):=rfl
theorem ev_scl_s (s:ByteArray):Prim.ev .scl [.c (.string s)]=some (.c (.string s)):=rfl
theorem ev_lss (k:IntKind) (a b:Int):Prim.ev (.bin .lss) [.c (.int k a),.c (.int k b)]=some (.c (.bool (decide (a < b)))):=by simp [Prim.ev,T.val,binV]
theorem ev_leq (k:IntKind) (a b:Int):Prim.ev (.bin .leq) [.c (.int k a),.c (.int k b)]=some (.c (.bool (decide (a≤b)))):=by simp [Prim.ev,T.val,binV]
theorem ev_gtr (k:IntKind) (a b:Int):Prim.ev (.bin .gtr) [.c (.int k a),.c (.int k b)]=some (.c (.bool (decide (a > b)))):=by simp [Prim.ev,T.val,binV]
theorem ev_geq (k:IntKind) (a b:Int):Prim.ev (.bin .geq) [.c (.int k a),.c (.int k b)]=some (.c (.bool (decide (a ≥ b)))):=by simp [Prim.ev,T.val,binV]
theorem ev_eql (k:IntKind) (a b:Int):Prim.ev (.bin .eql) [.c (.int k a),.c (.int k b)]=some (.c (.bool (a == b))):=by simp [Prim.ev,T.val,binV]
theorem ev_neq (k:IntKind) (a b:Int):Prim.ev (.bin .neq) [.c (.int k a),.c (.int k b)]=some (.c (.bool (a != b))):=by simp [Prim.ev,T.val,binV]
theorem ev_add (k:IntKind) (a b:Int):Prim.ev (.bin .add) [.c (.int k a),.c (.int k b)]=some (.c (.int k (k.wrap (a+b)))):=by simp [Prim.ev,T.val,binV]
theorem ev_sub (k:IntKind) (a b:Int):Prim.ev (.bin .sub) [.c (.int k a),.c (.int k b)]=some (.c (.int k (k.wrap (a - b)))):=by simp [Prim.ev,T.val,binV]
theorem ev_mul (k:IntKind) (a b:Int):Prim.ev (.bin .mul) [.c (.int k a),.c (.int k b)]=some (.c (.int k (k.wrap (a * b)))):=by simp [Prim.ev,T.val,binV]
theorem ev_eqlS (a b:ByteArray):Prim.ev (.bin .eql) [.c (.string a),.c (.string b)]=some (.c (.bool (a.toList == b.toList))):=by simp [Prim.ev,T.val,binV]
theorem ev_neqS (a b:ByteArray):Prim.ev (.bin .neq) [.c (.string a),.c (.string b)]=some (.c (.bool !(a.toList == b.toList))):=by simp [Prim.ev,T.val,binV]
theorem ev_bbneq (a b:Bool):Prim.ev (.bb .neq) [.c (.bool a),.c (.bool b)]=some (.c (.bool (a != b))):=by cases a <;> cases b <;> rfl
theorem ev_bbeql (a b:Bool):Prim.ev (.bb .eql) [.c (.bool a),.c (.bool b)]=some (.c (.bool (a == b))):=by cases a <;> cases b <;> rfl
theorem ev_not (a:Bool):Prim.ev (.un .not) [.c (.bool a)]=some (.c (.bool !a)):=by cases a <;> rfl
theorem rowAt_ok {xs:List (List T)} {i:Nat} {r:List T} {k:IntKind} (h:xs[i]?=some r):rowAt (.l xs) (.c (.int k (i:Int)))=some r:=by
 simp [rowAt,T.rows,T.int,h]
theorem ev_bnd {xs:List (List T)} {i:Nat} {r:List T} {k:IntKind} (h:xs[i]?=some r):Prim.ev .bnd [.l xs,.c (.int k (i:Int))]=some (.c (.bool true)):=by
 simp [Prim.ev,rowAt_ok h]
theorem ev_put {sc:Bool} {xs:List (List T)} {i w off n:Nat} {r vs:List T} {k:IntKind} (h:xs[i]?=some r) (hw:r.length=w) (ho:off+n≤w) (hv:vs.length=n) (hs:(!sc || vs.all scal)=true) :
  Prim.ev (.put sc w off n) (.l xs :: .c (.int k (i:Int)) :: vs)=some (.l (setRow xs i off vs)):=by
 simp only [Prim.ev,rowAt_ok h,hw,ho,hv,hs,T.rows,T.int,Option.bind_some,if_true,Int.toNat_natCast]
theorem ev_mk {k k':IntKind} {n:Nat} {ts:List T} (h:n < cap32):Prim.ev .mk (.c (.int k (n:Int)) :: .c (.int k' (n:Int)) :: ts)=some (.l (List.replicate n ts)):=by
 unfold cap32 at h
 simp [Prim.ev,cap32,show (n:Int) < 4294967296 by omega]
theorem pl_pr {S:Nat→Sem1} {R:Nat} {K:List Sem1} {ρ:List T} (p:Prim) (xs:List Lf) (k:PL):PL.den S R K ρ (.ins (.pr p xs) k)=(p.ev (xs.map (Lf.ev ρ))).bind fun t=>k.den S R K (ρ++[t]):=by simp only [PL.den]
def ifT (t:T) (x y:Option (List T)):Option (List T):=match t with
 | .c (.bool b)=>bif b then x else y
 | _=>none
theorem ifT_b (b:Bool) (x y:Option (List T)):ifT (.c (.bool b)) x y=bif b then x else y:=rfl
theorem pl_ite {S:Nat→Sem1} {R:Nat} {K:List Sem1} {ρ:List T} (c:Nat) (x y:PL):PL.den S R K ρ (.ite c x y)=ifT (ρ.getD c T.dft) (x.den S R K ρ) (y.den S R K ρ):=by
 simp only [PL.den,ifT]
 generalize ρ.getD c T.dft=t
 cases t with
 | c v=>cases v <;> rfl
 | l xs=>rfl
theorem pl_loop {S:Nat→Sem1} {R:Nat} {K:List Sem1} {ρ:List T} (xs:List Lf) (b:PL):PL.den S R K ρ (.loop xs b)=iter (fun self ts=>b.den S R (self :: K) (ρ++ts)) R (xs.map (Lf.ev ρ)):=by simp only [PL.den]
theorem pl_go0 {S:Nat→Sem1} {R:Nat} {f:Sem1} {K:List Sem1} {ρ:List T} (xs:List Lf):PL.den S R (f :: K) ρ (.go 0 xs)=f (xs.map (Lf.ev ρ)):=by simp [PL.den]
theorem pl_goS {S:Nat→Sem1} {R j:Nat} {f:Sem1} {K:List Sem1} {ρ:List T} (xs:List Lf):PL.den S R (f :: K) ρ (.go (j+1) xs)=PL.den S R K ρ (.go j xs):=by simp [PL.den]
theorem ev_k (ρ:List T) (v:Value):Lf.ev ρ (.k v)=.c v:=rfl
theorem ev_a (ρ:List T) (n:Nat):Lf.ev ρ (.a n)=ρ.getD n T.dft:=rfl
set_option linter.unusedSimpArgs false
theorem WTs.one {f:Ty} {ts:List T} (h:WTs [f] ts):∃ t,ts=[t]∧WT f t:=by
 unfold WTs at h
 obtain ⟨t,ts',rfl,h1,h2⟩:=h
 unfold WTs at h2
 subst h2
 exact ⟨t,rfl,h1⟩
theorem mem_of_get {α:Type} {xs:List α} {i:Nat} {r:α} (h:xs[i]?=some r):r∈xs:=List.mem_of_getElem? h
theorem get_some {α:Type} {xs:List α} {i:Nat} (h:i < xs.length):∃ r,xs[i]?=some r:=⟨xs[i],List.getElem?_eq_getElem h⟩
def atoms:Nat→Nat→List Lf
 | _,0=>[]
 | b,n+1=>.a b :: atoms (b+1) n
theorem ev_ext {ρ B:List T} {n:Nat} (h:n < ρ.length):Lf.ev (ρ++B) (.a n)=Lf.ev ρ (.a n):=by
 simp [Lf.ev,List.getD,List.getElem?_append_left h]
set_option linter.unusedSimpArgs false
theorem take_step {α:Type} {xs:List α} {i:Nat} {r:α} (h:xs[i]?=some r):xs.take (i+1)=xs.take i++[r]:=by
 rw [List.take_add_one,h];rfl
set_option linter.unusedSimpArgs false
theorem iter_one {α β:Type} {F:(α→Option β)→α→Option β} {n:Nat} (Inv:Nat→α→Prop) {Q:Option β→Prop}
  (step:∀ i x,i < n→Inv i x→∀ s,(∃ x',Inv (i+1) x'∧F s x=s x')∨Q (F s x)) (fin:∀ x,Inv n x→∀ s,Q (F s x)) {x:α} (hx:Inv 0 x) {R:Nat} (hR:n < R):Q (iter F R x):=by
 have:∀ d i x,i+d=n→Inv i x→∀ R,d < R→Q (iter F R x):=by
  intro d
  induction d with
  | zero =>
   intro i x hi hx R hR
   cases R with
   | zero=>omega
   | succ R=>rw [Nat.add_zero] at hi;subst hi;exact fin x hx _
  | succ d ih =>
   intro i x hi hx R hR
   cases R with
   | zero=>omega
   | succ R =>
    unfold iter
    rcases step i x (by omega) hx (iter F R) with ⟨x',h1,h2⟩ | h
    ·rw [h2];exact ih (i+1) x' (by omega) h1 R (by omega)
    ·exact h
 exact this n 0 x (by omega) hx R hR
def Both (o o':Option (List T)):Prop:=∃ b,o=some [.c (.bool b)]∧o'=some [.c (.bool b)]
theorem ev_eqs2 (a b c d:Int):Prim.ev (.eqs [1,1]) [.c (.int .i64 a),.c (.int .i64 b),.c (.int .i64 c),.c (.int .i64 d)]=some (.c (.bool (a == c && (b == d)))):=by
 simp [Prim.ev,eqT,eqV]
set_option linter.unusedSimpArgs false
def mkRows (g:Nat→List T→Nat × List T):Nat→List (List T)→Nat × List (List T)
 | n,[]=>(n,[])
 | n,r :: rs=>((mkRows g (g n r).1 rs).1,(g n r).2 :: (mkRows g (g n r).1 rs).2)
mutual
def mkT:Ty→Nat→T→Nat × T
 | .i k,n,_=>(n+1,.c (.int k (n:Int)))
 | .b,n,_=>(n+1,.c (.bool (n % 3 == 0)))
 | .s,n,t=>(n,t)
 | .sl fs,n,t=>match t with
  | .l xs=>((mkRows (mkR fs) n xs).1,.l (mkRows (mkR fs) n xs).2)
  | t=>(n,t)
def mkR:List Ty→Nat→List T→Nat × List T
 | [],n,_=>(n,[])
 | f :: fs,n,ts=>match ts with
  | t :: ts=>((mkR fs (mkT f n t).1 ts).1,(mkT f n t).2 :: (mkR fs (mkT f n t).1 ts).2)
  | []=>(n,[])
end
theorem mkR_nil (n:Nat) (ts:List T):mkR [] n ts=(n,[]):=by simp only [mkR]
theorem mkR_cons (f:Ty) (fs:List Ty) (n:Nat) (t:T) (ts:List T):mkR (f :: fs) n (t :: ts)=((mkR fs (mkT f n t).1 ts).1,(mkT f n t).2 :: (mkR fs (mkT f n t).1 ts).2):=by simp only [mkR]
theorem mkT_i (k:IntKind) (n:Nat) (t:T):mkT (.i k) n t=(n+1,.c (.int k (n:Int))):=by simp only [mkT]
theorem mkT_b (n:Nat) (t:T):mkT .b n t=(n+1,.c (.bool (n % 3 == 0))):=by simp only [mkT]
theorem mkT_sl (fs:List Ty) (n:Nat) (xs:List (List T)):mkT (.sl fs) n (.l xs)=((mkRows (mkR fs) n xs).1,.l (mkRows (mkR fs) n xs).2):=by simp only [mkT]
theorem mkRows_append {g:Nat→List T→Nat × List T}:∀ (xs:List (List T)) (n:Nat) (r:List T),mkRows g n (xs++[r])=((g (mkRows g n xs).1 r).1,(mkRows g n xs).2++[(g (mkRows g n xs).1 r).2])
 | [],n,r=>rfl
 | x :: xs,n,r=>by
  show ((mkRows g (g n x).1 (xs++[r])).1,(g n x).2 :: (mkRows g (g n x).1 (xs++[r])).2)=_
  rw [mkRows_append xs]
  rfl
theorem mkRows_len {g:Nat→List T→Nat × List T}:∀ (xs:List (List T)) (n:Nat),(mkRows g n xs).2.length=xs.length
 | [],n=>rfl
 | x :: xs,n=>by simp [mkRows,mkRows_len xs]
theorem mkRows_take {g:Nat→List T→Nat × List T} {xs:List (List T)} {i:Nat} {r:List T} (h:xs[i]?=some r) (n:Nat):mkRows g n (xs.take (i+1))=((g (mkRows g n (xs.take i)).1 r).1,(mkRows g n (xs.take i)).2++[(g (mkRows g n (xs.take i)).1 r).2]):=by
 rw [take_step h,mkRows_append]
mutual
def mkOkT:Ty→Bool
 | .i .i64=>true
 | .i _=>false
 | .b=>true
 | .s=>false
 | .sl fs=>Nat.ble fs.length 64 && mkOk fs
def mkOk:List Ty→Bool
 | []=>true
 | f :: fs=>mkOkT f && mkOk fs
end
theorem mkOk_cons {f:Ty} {fs:List Ty} (h:mkOk (f :: fs)=true):mkOkT f=true∧mkOk fs=true:=by
 unfold mkOk at h
 simpa using h
theorem mkOk_sl {fs:List Ty} (h:mkOkT (.sl fs)=true):fs.length≤64∧mkOk fs=true:=by
 unfold mkOkT at h
 simp only [Bool.and_eq_true] at h
 exact ⟨Nat.le_of_ble_eq_true h.1,h.2⟩
theorem mkRows_le {g:Nat→List T→Nat × List T} {xs:List (List T)} (hg:∀ n,∀ r∈xs,n≤(g n r).1∧(g n r).1≤n+64 * (1+bulkR r)):∀ (n:Nat),n≤(mkRows g n xs).1∧(mkRows g n xs).1≤n+64 * bulkRs xs:=by
 induction xs with
 | nil=>intro n;simp [mkRows,bulkRs]
 | cons x xs ih =>
  intro n
  have h1:=hg n x (.head _)
  have h2:=ih (fun n r hr=>hg n r (.tail _ hr)) (g n x).1
  simp only [mkRows,bulkRs]
  omega
mutual
theorem mkT_le:∀ (f:Ty) (n:Nat) (t:T),mkOkT f=true→WT f t→n≤(mkT f n t).1∧(mkT f n t).1≤n+1+64 * bulk t
 | .i k,n,t,_,_=>by simp only [mkT_i];omega
 | .b,n,t,_,_=>by simp only [mkT_b];omega
 | .s,n,t,h,_=>by simp [mkOkT] at h
 | .sl fs,n,t,h,ht=>by
  unfold WT at ht
  obtain ⟨xs,rfl,_,hx⟩:=ht
  have hm:=mkOk_sl h
  rw [mkT_sl,bulk_l]
  have:=mkRows_le (g:=mkR fs) (xs:=xs) (fun n r hr=>by
   have:=mkR_le fs n r hm.2 (hx r hr)
   omega) n
  simp only
  omega
theorem mkR_le:∀ (fs:List Ty) (n:Nat) (ts:List T),mkOk fs=true→WTs fs ts→n≤(mkR fs n ts).1∧(mkR fs n ts).1≤n+fs.length+64 * bulkR ts
 | [],n,ts,_,_=>by simp only [mkR_nil,List.length_nil];omega
 | f :: fs,n,ts,h,ht=>by
  unfold WTs at ht
  obtain ⟨t,ts',rfl,h1,h2⟩:=ht
  have hm:=mkOk_cons h
  have g1:=mkT_le f n t hm.1 h1
  have g2:=mkR_le fs (mkT f n t).1 ts' hm.2 h2
  rw [mkR_cons,bulkR_cons]
  simp only [List.length_cons]
  omega
end
mutual
theorem mkT_wt:∀ (f:Ty) (n:Nat) (t:T),mkOkT f=true→WT f t→n+1+64 * bulk t < 4611686018427387904→WT f (mkT f n t).2∧bulk (mkT f n t).2=bulk t
 | .i k,n,t,hk,ht,hn=>by
  unfold WT at ht
  obtain ⟨m,rfl,_⟩:=ht
  rw [mkT_i,bulk_i,bulk_i]
  refine ⟨?_,rfl⟩
  unfold WT
  cases k with
  | i64=>exact ⟨n,rfl,by simp [Lit.wf,IntKind.min,IntKind.max,IntKind.signed,IntKind.bits];omega⟩
  | _=>simp [mkOkT] at hk
 | .b,n,t,_,ht,_=>by
  unfold WT at ht
  obtain ⟨m,rfl⟩:=ht
  rw [mkT_b,bulk_b,bulk_b]
  refine ⟨?_,rfl⟩
  unfold WT
  exact ⟨_,rfl⟩
 | .s,n,t,h,_,_=>by simp [mkOkT] at h
 | .sl fs,n,t,h,ht,hn=>by
  unfold WT at ht
  obtain ⟨xs,rfl,hl,hx⟩:=ht
  have hm:=mkOk_sl h
  rw [mkT_sl,bulk_l,bulk_l]
  rw [bulk_l] at hn
  have:∀ (xs:List (List T)) (n:Nat),(∀ r∈xs,WTs fs r)→n+1+64 * bulkRs xs < 4611686018427387904→(∀ r∈(mkRows (mkR fs) n xs).2,WTs fs r)∧bulkRs (mkRows (mkR fs) n xs).2=bulkRs xs:=by
   intro xs
   induction xs with
   | nil=>intro n _ _;simp [mkRows]
   | cons x xs ih =>
    intro n hx hn
    simp only [bulkRs] at hn
    have g0:=mkR_le fs n x hm.2 (hx x (.head _))
    have g1:=mkR_wt fs n x hm.2 (hx x (.head _)) (by omega)
    have g2:=ih (mkR fs n x).1 (fun r hr=>hx r (.tail _ hr)) (by omega)
    simp only [mkRows,bulkRs,List.mem_cons]
    refine ⟨?_,by rw [g1.2,g2.2]⟩
    rintro r (rfl | hr)
    ·exact g1.1
    ·exact g2.1 r hr
  have:=this xs n hx hn
  refine ⟨?_,this.2⟩
  unfold WT
  exact ⟨_,rfl,by rw [mkRows_len];exact hl,this.1⟩
theorem mkR_wt:∀ (fs:List Ty) (n:Nat) (ts:List T),mkOk fs=true→WTs fs ts→n+fs.length+64 * bulkR ts < 4611686018427387904→WTs fs (mkR fs n ts).2∧bulkR (mkR fs n ts).2=bulkR ts
 | [],n,ts,_,ht,_=>by
  unfold WTs at ht
  subst ht
  rw [mkR_nil]
  refine ⟨?_,rfl⟩
  unfold WTs
  rfl
 | f :: fs,n,ts,h,ht,hn=>by
  unfold WTs at ht
  obtain ⟨t,ts',rfl,h1,h2⟩:=ht
  have hm:=mkOk_cons h
  simp only [bulkR_cons,List.length_cons] at hn
  have g0:=mkT_le f n t hm.1 h1
  have g1:=mkT_wt f n t hm.1 h1 (by omega)
  have g2:=mkR_wt fs (mkT f n t).1 ts' hm.2 h2 (by omega)
  rw [mkR_cons,bulkR_cons,bulkR_cons,g1.2,g2.2]
  refine ⟨?_,rfl⟩
  unfold WTs
  exact ⟨_,_,rfl,g1.1,g2.1⟩
end
theorem getD_lt {ρ:List T} {n:Nat} {t:T} (h:ρ.getD n T.dft=t) (hn:n < ρ.length) (B:List T):(ρ++B).getD n T.dft=t:=by
 rw [← h]
 simp [List.getD,List.getElem?_append_left hn]
theorem getD_eq {ρ B:List T} {t:T}:(ρ++t :: B).getD ρ.length T.dft=t:=by
 simp [List.getD]
theorem ev_rem3 (n:Nat):Prim.ev (.bin .rem) [.c (.int .i64 (n:Int)),.c (.int .i64 3)]=some (.c (.int .i64 ((n % 3:Nat):Int))):=by
 simp only [Prim.ev,T.val,binV,Option.bind_some,if_true]
 rw [if_neg (by decide)]
 simp only [Option.bind_some]
 congr 3
theorem beq_int (a b:Nat):(((a:Int)) == (b:Int))=(a == b):=by
 rw [Bool.eq_iff_iff]
 simp only [beq_iff_eq]
 omega
set_option linter.unusedSimpArgs false
theorem getD_app {ρ:List T} {p:Nat} (hp:ρ.length=p) (m:Nat) (B:List T):(ρ++B).getD (p+m) T.dft=B.getD m T.dft:=by
 subst hp
 simp only [List.getD,List.getElem?_append_right (Nat.le_add_right _ _),Nat.add_sub_cancel_left]
set_option linter.unusedSimpArgs false
abbrev Pt:=List (Nat × Nat × Nat)
def getV:Pt→T→Option T
 | [],t=>some t
 | (i,w,j) :: P,.l xs=>(xs[i]?).bind fun r=>if r.length=w then (r[j]?).bind fun t=>t.rows.bind fun ys=>getV P (.l ys) else none
 | _ :: _,.c _=>none
def setV:Pt→T→T→T
 | [],_,v=>v
 | (i,w,j) :: P,.l xs,v=>.l (setRow xs i j [setV P (((xs[i]?).bind (·[j]?)).getD T.dft) v])
 | _ :: _,t,_=>t
theorem getV_cons {i w j:Nat} {P:Pt} {t d:T} (h:getV ((i,w,j) :: P) t=some d):∃ xs r ys,t=.l xs∧xs[i]?=some r∧r.length=w∧r[j]?=some (.l ys)∧getV P (.l ys)=some d:=by
 cases t with
 | c v=>simp [getV] at h
 | l xs =>
  simp only [getV,Option.bind_eq_some_iff] at h
  obtain ⟨r,hr,h⟩:=h
  split at h
  ·rename_i hw
   rw [Option.bind_eq_some_iff] at h
   obtain ⟨u,hu,h⟩:=h
   cases u with
   | c v=>simp [T.rows] at h
   | l ys=>exact ⟨xs,r,ys,rfl,hr,hw,hu,by simpa [T.rows] using h⟩
  ·cases h
theorem getV_mk {i w j:Nat} {P:Pt} {xs:List (List T)} {r:List T} {ys:List (List T)} {d:T} (h1:xs[i]?=some r) (h2:r.length=w) (h3:r[j]?=some (.l ys)) (h4:getV P (.l ys)=some d):getV ((i,w,j) :: P) (.l xs)=some d:=by
 simp [getV,h1,h2,h3,T.rows,h4]
theorem setRow_set {xs:List (List T)} {i:Nat} {a b:List T} {t v:T} {j:Nat} (h:xs[i]?=some (a++t :: b)) (hj:a.length=j):setRow xs i j [v]=xs.set i (a++v :: b):=by
 subst hj
 unfold setRow
 apply List.ext_getElem?
 intro k
 rw [List.getElem?_modify,List.getElem?_set]
 by_cases hk:i=k
 ·subst hk
  have hi:i < xs.length:=(List.getElem?_eq_some_iff.1 h).1
  rw [h]
  simp [hi]
 ·simp [hk]
theorem split_at {r:List T} {j:Nat} {t:T} (h:r[j]?=some t):∃ a b,r=a++t :: b∧a.length=j:=by
 obtain ⟨hj,he⟩:=List.getElem?_eq_some_iff.1 h
 refine ⟨r.take j,r.drop (j+1),?_,by simp;omega⟩
 rw [← he,← List.drop_eq_getElem_cons hj,List.take_append_drop]
theorem setRow_row {xs:List (List T)} {i:Nat} {r:List T} {t v:T} {j:Nat} (h:xs[i]?=some r) (hj:r[j]?=some t):∃ r',(setRow xs i j [v])[i]?=some r'∧r'.length=r.length∧r'[j]?=some v:=by
 obtain ⟨a,b,rfl,ha⟩:=split_at hj
 have hi:i < xs.length:=(List.getElem?_eq_some_iff.1 h).1
 rw [setRow_set h ha]
 refine ⟨a++v :: b,by simp [hi],by simp,?_⟩
 subst ha
 simp
theorem getV_set:∀ {P:Pt} {t d:T} {v:List (List T)},getV P t=some d→getV P (setV P t (.l v))=some (.l v)
 | [],t,d,v,_=>rfl
 | (i,w,j) :: P,t,d,v,h=>by
  obtain ⟨xs,r,ys,rfl,h1,h2,h3,h4⟩:=getV_cons h
  have ih:=getV_set (v:=v) h4
  have e:((xs[i]?).bind (·[j]?)).getD T.dft=.l ys:=by simp [h1,h3]
  simp only [setV,e]
  cases hs:setV P (.l ys) (.l v) with
  | c u=>rw [hs] at ih;cases P with
   | nil=>simp [getV] at ih
   | cons q P=>obtain ⟨q1,q2,q3⟩:=q;simp [getV] at ih
  | l zs =>
   obtain ⟨r',g1,g2,g3⟩:=setRow_row (v:=.l zs) h1 h3
   rw [hs] at ih
   exact getV_mk g1 (by rw [g2,h2]) g3 ih
theorem setV_set:∀ {P:Pt} {t d:T} {v:List (List T)} {v':T},getV P t=some d→setV P (setV P t (.l v)) v'=setV P t v'
 | [],t,d,v,v',_=>rfl
 | (i,w,j) :: P,t,d,v,v',h=>by
  obtain ⟨xs,r,ys,rfl,h1,h2,h3,h4⟩:=getV_cons h
  have ih:=setV_set (v:=v) (v':=v') h4
  have e:((xs[i]?).bind (·[j]?)).getD T.dft=.l ys:=by simp [h1,h3]
  obtain ⟨a,b,rfl,ha⟩:=split_at h3
  have hi:i < xs.length:=(List.getElem?_eq_some_iff.1 h1).1
  have e2:∀ u:T,(((setRow xs i j [u])[i]?).bind (·[j]?)).getD T.dft=u:=by
   intro u
   rw [setRow_set h1 ha]
   subst ha
   simp [hi]
  simp only [setV,e,e2,ih]
  congr 1
  have g1:(xs.set i (a++setV P (.l ys) (.l v) :: b))[i]?=some (a++setV P (.l ys) (.l v) :: b):=by simp [hi]
  rw [setRow_set h1 ha,setRow_set h1 ha,setRow_set g1 ha,List.set_set]
theorem set_same {xs:List (List T)} {i:Nat} {r:List T} (h:xs[i]?=some r):xs.set i r=xs:=by
 apply List.ext_getElem?
 intro k
 rw [List.getElem?_set]
 by_cases hk:i=k
 ·subst hk
  have hi:i < xs.length:=(List.getElem?_eq_some_iff.1 h).1
  simp [hi,h.symm]
 ·simp [hk]
theorem setV_same:∀ {P:Pt} {t d:T},getV P t=some d→setV P t d=t
 | [],t,d,h=>by simp only [getV,Option.some.injEq] at h;exact h.symm
 | (i,w,j) :: P,t,d,h=>by
  obtain ⟨xs,r,ys,rfl,h1,h2,h3,h4⟩:=getV_cons h
  have ih:=setV_same h4
  have e:((xs[i]?).bind (·[j]?)).getD T.dft=.l ys:=by simp [h1,h3]
  obtain ⟨a,b,rfl,ha⟩:=split_at h3
  simp only [setV,e,ih]
  rw [setRow_set h1 ha,set_same h1]
theorem getV_append:∀ {P Q:Pt} {t:T},getV (P++Q) t=(getV P t).bind (getV Q)
 | [],Q,t=>rfl
 | (i,w,j) :: P,Q,.c v=>by simp [getV]
 | (i,w,j) :: P,Q,.l xs=>by
  simp only [List.cons_append,getV]
  cases xs[i]? with
  | none=>rfl
  | some r =>
   simp only [Option.bind_some]
   split
   ·cases r[j]? with
    | none=>rfl
    | some u =>
     simp only [Option.bind_some]
     cases u with
     | c v=>rfl
     | l ys=>simp only [T.rows,Option.bind_some];exact getV_append
   ·rfl
theorem setV_append:∀ {P Q:Pt} {t d v:T},getV P t=some d→setV (P++Q) t v=setV P t (setV Q d v)
 | [],Q,t,d,v,h=>by simp only [getV,Option.some.injEq] at h;subst h;rfl
 | (i,w,j) :: P,Q,t,d,v,h=>by
  obtain ⟨xs,r,ys,rfl,h1,h2,h3,h4⟩:=getV_cons h
  have e:((xs[i]?).bind (·[j]?)).getD T.dft=.l ys:=by simp [h1,h3]
  simp only [List.cons_append,setV,e,setV_append h4]
def PathOk (ρ:List T):Pt→Pt→Prop
 | [],[]=>True
 | (a,w,j) :: P,(i,w',j') :: Q=>w=w'∧j=j'∧a < ρ.length∧ρ.getD a T.dft=.c (.int .i64 (i:Int))∧PathOk ρ P Q
 | _,_=>False
theorem PathOk.ext {ρ:List T} (B:List T):∀ {P Q:Pt},PathOk ρ P Q→PathOk (ρ++B) P Q
 | [],[],_=>trivial
 | (a,w,j) :: P,(i,w',j') :: Q,⟨h1,h2,h3,h4,h5⟩=>⟨h1,h2,by simp;omega,getD_lt h4 h3 B,PathOk.ext B h5⟩
 | [],_ :: _,h=>h.elim
 | (_,_,_) :: _,[],h=>h.elim
theorem PathOk.snoc {ρ:List T} {a i w j:Nat} (h1:a < ρ.length) (h2:ρ.getD a T.dft=.c (.int .i64 (i:Int))):∀ {P Q:Pt},PathOk ρ P Q→PathOk ρ (P++[(a,w,j)]) (Q++[(i,w,j)])
 | [],[],_=>⟨rfl,rfl,h1,h2,trivial⟩
 | (a',w',j') :: P,(i',w'',j'') :: Q,⟨g1,g2,g3,g4,g5⟩=>⟨g1,g2,g3,g4,PathOk.snoc h1 h2 g5⟩
 | [],_ :: _,h=>h.elim
 | (_,_,_) :: _,[],h=>h.elim
def digsP:Pt→Nat→Nat→(Nat→Nat→PL)→PL
 | [],s,p,k=>k s p
 | (a,w,j) :: P,s,p,k=>.ins (.pr (.dig w j) [.a s,.a a]) (digsP P p (p+1) k)
def buriesP:Pt→Nat→Nat→Nat→Nat→(Nat→Nat→PL)→PL
 | [],_,_,v,p,k=>k v p
 | (a,w,j) :: P,e,e',v,p,k=>buriesP P e' (e'+1) v p fun v' p'=>.ins (.pr (.bury w j) [.a e,.a a,.a v']) (k p' (p'+1))
theorem ev_dig {xs:List (List T)} {i w j:Nat} {r:List T} {ys:List (List T)} (h:xs[i]?=some r) (hw:r.length=w) (hj:r[j]?=some (.l ys)):Prim.ev (.dig w j) [.l xs,.c (.int .i64 (i:Int))]=some (.l ys):=by
 simp [Prim.ev,rowAt_ok h,hw,hj,T.rows]
theorem ev_bury {xs:List (List T)} {i w j:Nat} {r:List T} {v:T} (h:xs[i]?=some r) (hw:r.length=w) (hj:j < w):Prim.ev (.bury w j) [.l xs,.c (.int .i64 (i:Int)),v]=some (.l (setRow xs i j [v])):=by
 simp [Prim.ev,rowAt_ok h,hw,hj,T.rows,T.int]
def chain:Pt→T→List T
 | [],_=>[]
 | (i,w,j) :: P,t=>match getV [(i,w,j)] t with
  | some u=>u :: chain P u
  | none=>[]
theorem chain_cons {i w j:Nat} {P:Pt} {xs:List (List T)} {r:List T} {ys:List (List T)} (h1:xs[i]?=some r) (h2:r.length=w) (h3:r[j]?=some (.l ys)):chain ((i,w,j) :: P) (.l xs)=.l ys :: chain P (.l ys):=by
 simp only [chain,getV_mk h1 h2 h3 (P:=[]) rfl]
section
variable {S:Nat→Sem1} {R:Nat} {K:List Sem1} {out:Option (List T)}
theorem digs_ok:∀ {P Q:Pt} {s p:Nat} {k:Nat→Nat→PL} {ρ:List T} {t d:T},PathOk ρ P Q→getV Q t=some d→ρ.length=p→s < p→ρ.getD s T.dft=t →
  (∀ e,(chain Q t).length=P.length→e < p+P.length→(ρ++chain Q t).getD e T.dft=d→PL.den S R K (ρ++chain Q t) (k e (p+P.length))=out)→PL.den S R K ρ (digsP P s p k)=out
 | [],[],s,p,k,ρ,t,d,_,hg,hp,hs,ht,hk=>by
  simp only [getV,Option.some.injEq] at hg
  subst hg
  have:=hk s rfl (by simpa using hs) (by simpa [chain] using ht)
  simpa [chain,digsP] using this
 | (a,w,j) :: P,(i,w',j') :: Q,s,p,k,ρ,t,d,⟨z1,z2,h3,h4,h5⟩,hg,hp,hs,ht,hk=>by
  subst z1 z2
  obtain ⟨xs,r,ys,rfl,g1,g2,g3,g4⟩:=getV_cons hg
  rw [chain_cons g1 g2 g3] at hk
  simp only [digsP,pl_pr,List.map_cons,List.map_nil,ev_a,ht,h4,ev_dig g1 g2 g3,bind_some']
  refine digs_ok (PathOk.ext _ h5) g4 (by simp [hp]) (by omega) (by rw [← hp];exact getD_eq) fun e he1 he2 he3=>?_
  rw [List.append_assoc] at he3 ⊢
  have:=hk e (by simp [he1]) (by simp;omega) he3
  simpa [Nat.add_assoc,Nat.add_comm 1] using this
 | [],_ :: _,_,_,_,_,_,_,h,_,_,_,_,_=>h.elim
 | (_,_,_) :: _,[],_,_,_,_,_,_,h,_,_,_,_,_=>h.elim
theorem buries_ok:∀ {P Q:Pt} {e e' v p:Nat} {k:Nat→Nat→PL} {ρ:List T} {t d vv:T},PathOk ρ P Q→getV Q t=some d→ρ.length=p→e < p→ρ.getD e T.dft=t→(∀ m x,(chain Q t)[m]?=some x→e'+m < p∧ρ.getD (e'+m) T.dft=x)→v < p→ρ.getD v T.dft=vv →
  (∀ (B:List T) (v' p':Nat),(ρ++B).length=p'→v' < p'→(ρ++B).getD v' T.dft=setV Q t vv→PL.den S R K (ρ++B) (k v' p')=out)→PL.den S R K ρ (buriesP P e e' v p k)=out
 | [],[],e,e',v,p,k,ρ,t,d,vv,_,hg,hp,he,ht,hc,hv,hvv,hk=>by
  have:=hk [] v p (by simpa using hp) hv (by simpa [setV] using hvv)
  simpa [buriesP] using this
 | (a,w,j) :: P,(i,w',j') :: Q,e,e',v,p,k,ρ,t,d,vv,⟨z1,z2,h3,h4,h5⟩,hg,hp,he,ht,hc,hv,hvv,hk=>by
  subst z1 z2
  obtain ⟨xs,r,ys,rfl,g1,g2,g3,g4⟩:=getV_cons hg
  rw [chain_cons g1 g2 g3] at hc
  have c0:=hc 0 _ rfl
  have hjw:j < w:=by rw [← g2];exact (List.getElem?_eq_some_iff.1 g3).1
  rw [show buriesP ((a,w,j) :: P) e e' v p k=buriesP P e' (e'+1) v p (fun v' p'=>.ins (.pr (.bury w j) [.a e,.a a,.a v']) (k p' (p'+1))) from rfl]
  refine buries_ok h5 g4 hp c0.1 c0.2 (fun m x hm=>?_) hv hvv fun B v' p' q1 q2 q3=>?_
  ·have:=hc (m+1) x (by simpa using hm)
   rw [show e'+1+m=e'+(m+1) by omega]
   exact this
  ·have x1:=getD_lt ht (by omega) B
   have x2:=getD_lt h4 h3 B
   simp only [pl_pr,List.map_cons,List.map_nil,ev_a,x1,x2,q3,ev_bury g1 g2 hjw,bind_some']
   rw [List.append_assoc]
   have e0:((xs[i]?).bind (·[j]?)).getD T.dft=.l ys:=by simp [g1,g3]
   refine hk _ p' (p'+1) (by simp at q1 ⊢;omega) (by omega) ?_
   rw [← List.append_assoc,← q1,getD_eq]
   simp only [setV,e0]
 | [],_ :: _,_,_,_,_,_,_,_,_,_,h,_,_,_,_,_,_,_,_=>h.elim
 | (_,_,_) :: _,[],_,_,_,_,_,_,_,_,_,h,_,_,_,_,_,_,_,_=>h.elim
def putP (P:Pt) (k w j s v p:Nat) (cont:Nat→Nat→PL):PL :=
 digsP P s p fun d p1=>.ins (.pr .bnd [.a d,.a k]) <| digsP P s (p1+1) fun d2 p2=>.ins (.pr (.put true w j 1) [.a d2,.a k,.a v]) <|
  match P with
  | []=>cont p2 (p2+1)
  | _ :: _=>digsP P s (p2+1) fun _ p3=>buriesP P s (p2+1) p2 p3 cont
theorem put_ok {P Q:Pt} {k w j s v p kv:Nat} {cont:Nat→Nat→PL} {ρ:List T} {t vv:T} {xs:List (List T)} {r:List T} (hP:PathOk ρ P Q) (hg:getV Q t=some (.l xs)) (hp:ρ.length=p) (hs:s < p) (ht:ρ.getD s T.dft=t)
  (hkp:k < p) (hk:ρ.getD k T.dft=.c (.int .i64 (kv:Int))) (hv:v < p) (hvv:ρ.getD v T.dft=vv) (hsc:scal vv=true) (hr:xs[kv]?=some r) (hw:r.length=w) (hj:j < w)
  (hc:∀ (B:List T) (s' p':Nat),(ρ++B).length=p'→s' < p'→(ρ++B).getD s' T.dft=setV Q t (.l (setRow xs kv j [vv]))→PL.den S R K (ρ++B) (cont s' p')=out):PL.den S R K ρ (putP P k w j s v p cont)=out:=by
 have hput:=ev_put (sc:=true) (k:=.i64) (off:=j) (n:=1) (vs:=[vv]) hr hw (by omega) rfl (by simp [hsc])
 unfold putP
 refine digs_ok hP hg hp hs ht fun e a1 a2 a3=>?_
 have l1:(ρ++chain Q t).length=p+P.length:=by simp [hp,a1]
 simp only [pl_pr,List.map_cons,List.map_nil,ev_a,a3,getD_lt hk (by omega) _,ev_bnd hr,bind_some',List.append_assoc]
 refine digs_ok (PathOk.ext _ hP) hg (by simp [hp,a1];omega) (by omega) (getD_lt ht (by omega) _) fun e2 b1 b2 b3=>?_
 simp only [List.append_assoc] at b3 ⊢
 simp only [pl_pr,List.map_cons,List.map_nil,ev_a,b3,getD_lt hk (by omega) _,getD_lt hvv (by omega) _,hput,bind_some',List.append_assoc]
 cases P with
 | nil =>
  cases Q with
  | cons _ _=>exact hP.elim
  | nil =>
   simp only [getV,Option.some.injEq] at hg
   refine hc _ _ _ (by simp [hp,chain]) (by simp) ?_
   simp only [chain,List.nil_append,List.length_nil,Nat.add_zero,List.cons_append]
   rw [show p+1=p+1 from rfl,getD_app hp]
   rfl
 | cons q P =>
  simp only
  refine digs_ok (PathOk.ext _ hP) hg (by simp [hp,a1];omega) (by omega) (getD_lt ht (by omega) _) fun e3 c1 c2 c3=>?_
  simp only [List.append_assoc] at c3 ⊢
  have l3:(ρ++(chain Q t++([T.c (.bool true)]++(chain Q t++([T.l (setRow xs kv j [vv])]++chain Q t))))).length=p+(q :: P).length+1+(q :: P).length+1+(q :: P).length:=by simp [hp,a1];omega
  refine buries_ok (PathOk.ext _ hP) hg l3 (by omega) (getD_lt ht (by omega) _) (fun m x hm=>?_) (by omega) (vv:=.l (setRow xs kv j [vv])) ?_ fun B s' p' d1 d2 d3=>?_
  ·have hml:m < (chain Q t).length:=(List.getElem?_eq_some_iff.1 hm).1
   refine ⟨by omega,?_⟩
   have:=getD_app (ρ:=ρ++(chain Q t++([T.c (.bool true)]++(chain Q t++[T.l (setRow xs kv j [vv])])))) (p:=p+(q :: P).length+1+(q :: P).length+1) (by simp [hp,a1];omega) m (chain Q t)
   simp only [List.append_assoc] at this
   rw [this]
   simp [List.getD,hm]
  ·have:=getD_app (ρ:=ρ++(chain Q t++([T.c (.bool true)]++chain Q t))) (p:=p+(q :: P).length+1+(q :: P).length) (by simp [hp,a1];omega) 0 ([T.l (setRow xs kv j [vv])]++chain Q t)
   simp only [List.append_assoc,Nat.add_zero] at this
   rw [this]
   rfl
  ·rw [List.append_assoc] at d1 d3 ⊢
   exact hc _ s' p' d1 d2 d3
end
set_option linter.unusedSimpArgs false
abbrev Flds:=Pt→Nat→Nat→Nat→Nat→Nat→(Nat→Nat→Nat→Nat→PL)→PL
def lvP (flds:Flds) (P:Pt) (cl:Lf) (s p:Nat) (cont:Nat→Nat→Nat→PL):PL :=
 .loop [cl,.k (.int .i64 0),.a s] (digsP P (p+2) (p+3) fun d p1=>.ins (.pr .len [.a d]) <| .ins (.pr (.bin .lss) [.a (p+1),.a p1]) <|
  .ite (p1+1) (flds P (p+1) (p+2) p (p1+2) 0 fun s c p' q=>.ins (.pr (.bin .add) [.a (p+1),.k (.int .i64 1)]) <| .go q [.a c,.a p',.a s]) (cont p (p+2) (p1+2)))
mutual
def mkTyP:Ty→Nat→Nat→Flds
 | .i _,w,j,P,k,s,c,p,q,cont=>putP P k w j s c p fun s' p'=>.ins (.pr (.bin .add) [.a c,.k (.int .i64 1)]) (cont s' p' (p'+1) q)
 | .b,w,j,P,k,s,c,p,q,cont=>.ins (.pr (.bin .rem) [.a c,.k (.int .i64 3)]) <| .ins (.pr (.bin .eql) [.a p,.k (.int .i64 0)]) <|
   putP P k w j s (p+1) (p+2) fun s' p'=>.ins (.pr (.bin .add) [.a c,.k (.int .i64 1)]) (cont s' p' (p'+1) q)
 | .s,w,j,P,k,s,c,p,q,cont=>cont s c p q
 | .sl es,w,j,P,k,s,c,p,q,cont=>digsP P s p fun d p1=>.ins (.pr .bnd [.a d,.a k]) <| digsP P s (p1+1) fun d2 p2=>.ins (.pr (.dig w j) [.a d2,.a k]) <|
   lvP (mkFsP es es.length 0) (P++[(k,w,j)]) (.a c) s (p2+1) fun c' s' p'=>cont s' c' p' (q+1)
def mkFsP:List Ty→Nat→Nat→Flds
 | [],w,j,P,k,s,c,p,q,cont=>cont s c p q
 | f :: fs,w,j,P,k,s,c,p,q,cont=>mkTyP f w j P k s c p q fun s' c' p' q'=>mkFsP fs w (j+1) P k s' c' p' q' cont
end
def FOk (S:Nat→Sem1) (w:Nat) (fs:List Ty) (j:Nat) (flds:Flds):Prop :=
 ∀ (out:Option (List T)) (K:List Sem1) (P Q:Pt) (k s c p q kv n:Nat) (cont:Nat→Nat→Nat→Nat→PL) (ρ:List T) (t:T) (xs:List (List T)) (dn ts:List T),PathOk ρ P Q→getV Q t=some (.l xs)→ρ.length=p→s < p→ρ.getD s T.dft=t →
  k < p→ρ.getD k T.dft=.c (.int .i64 (kv:Int))→c < p→ρ.getD c T.dft=.c (.int .i64 (n:Int))→xs[kv]?=some (dn++ts)→dn.length=j→(dn++ts).length=w→WTs fs ts→bulkR ts≤1048576→n+fs.length+64 * bulkR ts≤1099511627776 →
  (∀ (Ks:List Sem1) (B:List T) (s' c' p':Nat),(ρ++B).length=p'→s' < p'→c' < p'→(ρ++B).getD c' T.dft=.c (.int .i64 ((mkR fs n ts).1:Int))→(ρ++B).getD s' T.dft=setV Q t (.l (xs.set kv (dn++(mkR fs n ts).2))) →
   PL.den S rounds (Ks++K) (ρ++B) (cont s' c' p' (q+Ks.length))=out)→PL.den S rounds K ρ (flds P k s c p q cont)=out
theorem pl_goKs {S:Nat→Sem1} {R:Nat} {f:Sem1} {K:List Sem1} {ρ:List T} (xs:List Lf):∀ Ks:List Sem1,PL.den S R (Ks++f :: K) ρ (.go Ks.length xs)=f (xs.map (Lf.ev ρ))
 | []=>by simp only [List.nil_append,List.length_nil,pl_go0]
 | g :: Ks=>by simp only [List.cons_append,List.length_cons,pl_goS];exact pl_goKs xs Ks
theorem lv_ok' {S:Nat→Sem1} {out:Option (List T)} {K:List Sem1} {es:List Ty} {flds:Flds} (hF:FOk S es.length es 0 flds) (hl:es.length≤64) (hm:mkOk es=true) {P Q:Pt} {cl:Lf} {s p n:Nat} {cont:Nat→Nat→Nat→PL} {ρ:List T} {t:T} {xs:List (List T)}
  (hP:PathOk ρ P Q) (hg:getV Q t=some (.l xs)) (hp:ρ.length=p) (hs:s < p) (ht:ρ.getD s T.dft=t) (hc:Lf.ev ρ cl=.c (.int .i64 (n:Int))) (hw:∀ r∈xs,WTs es r) (hb:bulkRs xs≤1048576) (hn:n+64 * bulkRs xs≤1099511627776)
  (hk:∀ f:Sem1,PL.den S rounds (f :: K) (ρ++([T.c (.int .i64 ((mkRows (mkR es) n xs).1:Int)),T.c (.int .i64 (xs.length:Int)),setV Q t (.l (mkRows (mkR es) n xs).2)]++(chain Q (setV Q t (.l (mkRows (mkR es) n xs).2))++[T.c (.int .i64 (xs.length:Int)),T.c (.bool false)])))
   (cont p (p+2) (p+3+P.length+2))=out):PL.den S rounds K ρ (lvP flds P cl s p cont)=out:=by
 have hlen:=bulkRs_len xs
 have hbt:∀ i,bulkRs (xs.take i)≤bulkRs xs:=by
  intro i
  have:=bulkRs_append (xs.take i) (xs.drop i)
  rw [List.take_append_drop] at this
  omega
 have hmono:=fun i=>mkRows_le (g:=mkR es) (xs:=xs.take i) (fun m r hr=>by
  have:=mkR_le es m r hm (hw r (List.mem_of_mem_take hr))
  omega) n
 unfold lvP
 rw [pl_loop]
 simp only [List.map_cons,List.map_nil,hc,ev_k,ev_a,ht]
 have hstep:∀ i,(mkRows (mkR es) n (xs.take i)).2.length=(xs.take i).length:=fun i=>mkRows_len _ _
 refine iter_one (n:=xs.length) (Inv:=fun i x=>x=[T.c (.int .i64 ((mkRows (mkR es) n (xs.take i)).1:Int)),T.c (.int .i64 (i:Int)),setV Q t (.l ((mkRows (mkR es) n (xs.take i)).2++xs.drop i))]) (Q:=fun o=>o=out) ?_ ?_ ?_ (by unfold rounds;omega)
 ·rintro i x hi rfl self
  left
  refine ⟨_,rfl,?_⟩
  obtain ⟨r,hr⟩:=get_some hi
  have hwr:=hw r (mem_of_get hr)
  have hbr:=bulkRs_get hr
  have hb1:=hbt (i+1)
  have hb2:=bulkRs_take_succ hr
  have hm1:=hmono i
  have htk:=mkRows_take (g:=mkR es) hr n
  have hsi:=hstep i
  have hil:(xs.take i).length=i:=by simp;omega
  have hlt:(i:Int) < xs.length:=by omega
  have e3:IntKind.i64.wrap ((i:Int)+1)=((i+1:Nat):Int):=by rw [wrap64 (by omega) (by omega)];simp
  generalize hN:(mkRows (mkR es) n (xs.take i)).1=N at *
  generalize hA:(mkRows (mkR es) n (xs.take i)).2=A at *
  have hdr:xs.drop i=r :: xs.drop (i+1):=by
   rw [List.drop_eq_getElem_cons hi]
   rw [List.getElem?_eq_getElem hi] at hr
   cases hr
   rfl
  have hgi:=getV_set (v:=A++xs.drop i) hg
  have hri:(A++xs.drop i)[i]?=some r:=by
   rw [List.getElem?_append_right (by omega),hdr,hsi,hil,Nat.sub_self]
   rfl
  have hll:(A++xs.drop i).length=xs.length:=by simp;omega
  refine digs_ok (PathOk.ext _ hP) hgi (s:=p+2) (p:=p+3) (by simp [hp]) (by omega) (by rw [getD_app hp];rfl) fun d a1 a2 a3=>?_
  have hp1:(ρ++[T.c (.int .i64 (N:Int)),T.c (.int .i64 (i:Int)),setV Q t (.l (A++xs.drop i))]++chain Q (setV Q t (.l (A++xs.drop i)))).length=p+3+P.length:=by simp [hp,a1];omega
  have x1:∀ B,(ρ++[T.c (.int .i64 (N:Int)),T.c (.int .i64 (i:Int)),setV Q t (.l (A++xs.drop i))]++chain Q (setV Q t (.l (A++xs.drop i)))++B).getD (p+1) T.dft=.c (.int .i64 (i:Int)):=fun B=>by
   rw [List.append_assoc,List.append_assoc,getD_app hp];rfl
  have x0:∀ B,(ρ++[T.c (.int .i64 (N:Int)),T.c (.int .i64 (i:Int)),setV Q t (.l (A++xs.drop i))]++chain Q (setV Q t (.l (A++xs.drop i)))++B).getD p T.dft=.c (.int .i64 (N:Int)):=fun B=>by
   have:=getD_app hp 0 ([T.c (.int .i64 (N:Int)),T.c (.int .i64 (i:Int)),setV Q t (.l (A++xs.drop i))]++(chain Q (setV Q t (.l (A++xs.drop i)))++B))
   rw [List.append_assoc,List.append_assoc];exact this
  have x2:∀ B,(ρ++[T.c (.int .i64 (N:Int)),T.c (.int .i64 (i:Int)),setV Q t (.l (A++xs.drop i))]++chain Q (setV Q t (.l (A++xs.drop i)))++B).getD (p+2) T.dft=setV Q t (.l (A++xs.drop i)):=fun B=>by
   rw [List.append_assoc,List.append_assoc,getD_app hp];rfl
  have hPx:∀ B,PathOk (ρ++[T.c (.int .i64 (N:Int)),T.c (.int .i64 (i:Int)),setV Q t (.l (A++xs.drop i))]++chain Q (setV Q t (.l (A++xs.drop i)))++B) P Q:=fun B=>by
   rw [List.append_assoc,List.append_assoc];exact PathOk.ext _ hP
  generalize hρ:ρ++[T.c (.int .i64 (N:Int)),T.c (.int .i64 (i:Int)),setV Q t (.l (A++xs.drop i))]++chain Q (setV Q t (.l (A++xs.drop i)))=ρ1 at *
  have y1:=x1 [T.c (.int .i64 (xs.length:Int))]
  have y2:(ρ1++[T.c (.int .i64 (xs.length:Int))]).getD (p+3+P.length) T.dft=.c (.int .i64 (xs.length:Int)):=by rw [← hp1];exact getD_eq
  have y3:(ρ1++[T.c (.int .i64 (xs.length:Int)),T.c (.bool true)]).getD (p+3+P.length+1) T.dft=.c (.bool true):=by rw [getD_app hp1];rfl
  simp only [pl_pr,pl_ite,List.map_cons,List.map_nil,ev_a,a3,ev_len,hll,bind_some',y1,y2,ev_lss,hlt,decide_true,List.append_assoc,List.cons_append,List.nil_append,y3,ifT_b,cond_true]
  refine hF _ (self :: K) P Q (p+1) (p+2) p (p+3+P.length+2) 0 i N _ _ _ (A++xs.drop i) [] r (hPx _) hgi (by simp only [List.length_append,hp1,List.length_cons,List.length_nil]) (by omega) (x2 _) (by omega) (x1 _) (by omega) (x0 _) hri rfl hwr.length hwr (by omega) (by omega) ?_
  intro Ks B s' c' p' q1 q2 q3 q4 q5
  have z1:(ρ1++([T.c (.int .i64 (xs.length:Int)),T.c (.bool true)]++B)).getD (p+1) T.dft=.c (.int .i64 (i:Int)):=x1 _
  rw [List.append_assoc] at q1 q4 q5 ⊢
  have z2:((ρ1++([T.c (.int .i64 (xs.length:Int)),T.c (.bool true)]++B))++[T.c (.int .i64 ((i+1:Nat):Int))]).getD p' T.dft=.c (.int .i64 ((i+1:Nat):Int)):=by rw [← q1];exact getD_eq
  have z3:=getD_lt q4 (by rw [q1];exact q3) [T.c (.int .i64 ((i+1:Nat):Int))]
  have z4:=getD_lt q5 (by rw [q1];exact q2) [T.c (.int .i64 ((i+1:Nat):Int))]
  rw [pl_pr]
  simp only [List.map_cons,List.map_nil,ev_a,ev_k,z1,ev_add,e3,bind_some',Nat.zero_add]
  rw [pl_goKs]
  simp only [List.map_cons,List.map_nil,ev_a,z2,z3,z4]
  rw [htk]
  congr 4
  rw [setV_set hg]
  congr 2
  rw [hdr,List.set_append_right _ _ (by omega),hsi,hil,Nat.sub_self]
  simp
 ·rintro x rfl self
  rw [show xs.take xs.length=xs from List.take_length,show xs.drop xs.length=[] from List.drop_length,List.append_nil]
  have hgi:=getV_set (v:=(mkRows (mkR es) n xs).2) hg
  refine digs_ok (PathOk.ext _ hP) hgi (s:=p+2) (p:=p+3) (by simp [hp]) (by omega) (by rw [getD_app hp];rfl) fun d a1 a2 a3=>?_
  have hp1:(ρ++[T.c (.int .i64 ((mkRows (mkR es) n xs).1:Int)),T.c (.int .i64 (xs.length:Int)),setV Q t (.l (mkRows (mkR es) n xs).2)]++chain Q (setV Q t (.l (mkRows (mkR es) n xs).2))).length=p+3+P.length:=by simp [hp,a1];omega
  have x1:∀ B,(ρ++[T.c (.int .i64 ((mkRows (mkR es) n xs).1:Int)),T.c (.int .i64 (xs.length:Int)),setV Q t (.l (mkRows (mkR es) n xs).2)]++chain Q (setV Q t (.l (mkRows (mkR es) n xs).2))++B).getD (p+1) T.dft=.c (.int .i64 (xs.length:Int)):=fun B=>by
   rw [List.append_assoc,List.append_assoc,getD_app hp];rfl
  have x0:∀ B,(ρ++([T.c (.int .i64 ((mkRows (mkR es) n xs).1:Int)),T.c (.int .i64 (xs.length:Int)),setV Q t (.l (mkRows (mkR es) n xs).2)]++(chain Q (setV Q t (.l (mkRows (mkR es) n xs).2))++B))).getD p T.dft=.c (.int .i64 ((mkRows (mkR es) n xs).1:Int)):=fun B=>getD_app hp 0 _
  have x2:∀ B,(ρ++([T.c (.int .i64 ((mkRows (mkR es) n xs).1:Int)),T.c (.int .i64 (xs.length:Int)),setV Q t (.l (mkRows (mkR es) n xs).2)]++(chain Q (setV Q t (.l (mkRows (mkR es) n xs).2))++B))).getD (p+2) T.dft=setV Q t (.l (mkRows (mkR es) n xs).2):=fun B=>by
   rw [getD_app hp];rfl
  have y1:=x1 [T.c (.int .i64 (xs.length:Int))]
  have y2:(ρ++[T.c (.int .i64 ((mkRows (mkR es) n xs).1:Int)),T.c (.int .i64 (xs.length:Int)),setV Q t (.l (mkRows (mkR es) n xs).2)]++chain Q (setV Q t (.l (mkRows (mkR es) n xs).2))++[T.c (.int .i64 (xs.length:Int))]).getD (p+3+P.length) T.dft=.c (.int .i64 (xs.length:Int)):=by rw [← hp1];exact getD_eq
  have y3:(ρ++[T.c (.int .i64 ((mkRows (mkR es) n xs).1:Int)),T.c (.int .i64 (xs.length:Int)),setV Q t (.l (mkRows (mkR es) n xs).2)]++chain Q (setV Q t (.l (mkRows (mkR es) n xs).2))++[T.c (.int .i64 (xs.length:Int)),T.c (.bool false)]).getD (p+3+P.length+1) T.dft=.c (.bool false):=by rw [getD_app hp1];rfl
  rw [pl_pr]
  simp only [List.map_cons,List.map_nil,ev_a,a3,ev_len,mkRows_len,bind_some']
  rw [pl_pr]
  simp only [List.map_cons,List.map_nil,ev_a,y1,y2,ev_lss,Int.lt_irrefl,decide_false,bind_some']
  rw [pl_ite,List.append_assoc _ [_] [_]]
  simp only [List.cons_append,List.nil_append] at y3 ⊢
  rw [y3]
  simp only [ifT_b,cond_false]
  have:=hk self
  simpa using this
 ·rw [List.take_zero,List.drop_zero]
  simp only [mkRows,List.nil_append,setV_same hg]
  rfl
theorem lv_ok {S:Nat→Sem1} {out:Option (List T)} {K:List Sem1} {es:List Ty} {flds:Flds} (hF:FOk S es.length es 0 flds) (hl:es.length≤64) (hm:mkOk es=true) {P Q:Pt} {cl:Lf} {s p n:Nat} {cont:Nat→Nat→Nat→PL} {ρ:List T} {t:T} {xs:List (List T)}
  (hP:PathOk ρ P Q) (hg:getV Q t=some (.l xs)) (hp:ρ.length=p) (hs:s < p) (ht:ρ.getD s T.dft=t) (hc:Lf.ev ρ cl=.c (.int .i64 (n:Int))) (hw:∀ r∈xs,WTs es r) (hb:bulkRs xs≤1048576) (hn:n+64 * bulkRs xs≤1099511627776)
  (hk:∀ (f:Sem1) (B:List T) (c' s' p':Nat),(ρ++B).length=p'→c' < p'→s' < p'→(ρ++B).getD c' T.dft=.c (.int .i64 ((mkRows (mkR es) n xs).1:Int))→(ρ++B).getD s' T.dft=setV Q t (.l (mkRows (mkR es) n xs).2) →
   PL.den S rounds (f :: K) (ρ++B) (cont c' s' p')=out):PL.den S rounds K ρ (lvP flds P cl s p cont)=out:=by
 refine lv_ok' hF hl hm hP hg hp hs ht hc hw hb hn fun f=>?_
 have hPQ:∀ {P Q:Pt} {t d:T},PathOk ρ P Q→getV Q t=some d→(chain Q t).length=P.length:=by
  intro P
  induction P with
  | nil=>intro Q t d hP hg;cases Q with
   | nil=>rfl
   | cons _ _=>exact hP.elim
  | cons q P ih =>
   intro Q t d hP hg
   obtain ⟨a,w,j⟩:=q
   cases Q with
   | nil=>exact hP.elim
   | cons q Q =>
    obtain ⟨i,w',j'⟩:=q
    obtain ⟨_,_,_,_,h5⟩:=hP
    obtain ⟨xs,r,ys,rfl,g1,g2,g3,g4⟩:=getV_cons hg
    rw [chain_cons g1 g2 g3,List.length_cons,List.length_cons,ih h5 g4]
 have hcl:=hPQ hP (getV_set (v:=(mkRows (mkR es) n xs).2) hg)
 refine hk f _ _ _ _ (by simp [hp,hcl];omega) (by omega) (by omega) ?_ ?_
 ·exact getD_app hp 0 _
 ·rw [getD_app hp];rfl
set_option linter.unusedSimpArgs false
def TOk (S:Nat→Sem1) (f:Ty):Prop :=
 ∀ (w j:Nat) (out:Option (List T)) (K:List Sem1) (P Q:Pt) (k s c p q kv n:Nat) (cont:Nat→Nat→Nat→Nat→PL) (ρ:List T) (t:T) (xs:List (List T)) (dn ts:List T) (u:T),PathOk ρ P Q→getV Q t=some (.l xs)→ρ.length=p→s < p→ρ.getD s T.dft=t →
  k < p→ρ.getD k T.dft=.c (.int .i64 (kv:Int))→c < p→ρ.getD c T.dft=.c (.int .i64 (n:Int))→xs[kv]?=some (dn++u :: ts)→dn.length=j→(dn++u :: ts).length=w→WT f u→bulk u≤1048576→n+1+64 * bulk u≤1099511627776 →
  (∀ (Ks:List Sem1) (B:List T) (s' c' p':Nat),(ρ++B).length=p'→s' < p'→c' < p'→(ρ++B).getD c' T.dft=.c (.int .i64 ((mkT f n u).1:Int))→(ρ++B).getD s' T.dft=setV Q t (.l (xs.set kv (dn++(mkT f n u).2 :: ts))) →
   PL.den S rounds (Ks++K) (ρ++B) (cont s' c' p' (q+Ks.length))=out)→PL.den S rounds K ρ (mkTyP f w j P k s c p q cont)=out
theorem mkI_ok {S:Nat→Sem1}:TOk S (.i .i64):=by
 intro w j out K P Q k s c p q kv n cont ρ t xs dn ts u hP hg hp hs ht hk hkv hc hn hr hj hw hu hb hbn hcont
 rw [mkT_i] at hcont
 have e3:IntKind.i64.wrap ((n:Int)+1)=((n+1:Nat):Int):=by rw [wrap64 (by omega) (by omega)];simp
 simp only [mkTyP]
 refine put_ok hP hg hp hs ht hk hkv hc hn rfl hr hw (by simp at hw;omega) fun B s' p' q1 q2 q3=>?_
 have x:=getD_lt hn (by omega) B
 rw [pl_pr]
 simp only [List.map_cons,List.map_nil,ev_a,ev_k,x,ev_add,e3,bind_some',List.append_assoc]
 rw [setRow_set hr hj] at q3
 refine hcont [] _ s' p' (p'+1) (by simp at q1 ⊢;omega) (by omega) (by omega) ?_ ?_
 ·rw [← List.append_assoc,← q1];exact getD_eq
 ·rw [← List.append_assoc];exact getD_lt q3 (by rw [q1];exact q2) _
theorem mkB_ok {S:Nat→Sem1}:TOk S .b:=by
 intro w j out K P Q k s c p q kv n cont ρ t xs dn ts u hP hg hp hs ht hk hkv hc hn hr hj hw hu hb hbn hcont
 rw [mkT_b] at hcont
 have e3:IntKind.i64.wrap ((n:Int)+1)=((n+1:Nat):Int):=by rw [wrap64 (by omega) (by omega)];simp
 have hbeq:(((n % 3:Nat):Int) == (0:Int))=(n % 3 == 0):=beq_int (n % 3) 0
 have y1:(ρ++[T.c (.int .i64 ((n % 3:Nat):Int))]).getD p T.dft=.c (.int .i64 ((n % 3:Nat):Int)):=by rw [← hp];exact getD_eq
 simp only [mkTyP]
 rw [pl_pr]
 simp only [List.map_cons,List.map_nil,ev_a,ev_k,hn,ev_rem3,bind_some']
 rw [pl_pr]
 simp only [List.map_cons,List.map_nil,ev_a,ev_k,y1,ev_eql,hbeq,bind_some',List.append_assoc,List.cons_append,List.nil_append]
 have y2:(ρ++[T.c (.int .i64 ((n % 3:Nat):Int)),T.c (.bool (n % 3 == 0))]).getD (p+1) T.dft=T.c (.bool (n % 3 == 0)):=by rw [getD_app hp];rfl
 refine put_ok (PathOk.ext _ hP) hg (by simp [hp]) (by omega) (getD_lt ht (by omega) _) (by omega) (getD_lt hkv (by omega) _) (by omega) y2 rfl hr hw (by simp at hw;omega) fun B s' p' q1 q2 q3=>?_
 simp only [List.append_assoc] at q1 q3 ⊢
 have x:=getD_lt hn (by omega) ([T.c (.int .i64 ((n % 3:Nat):Int)),T.c (.bool (n % 3 == 0))]++B)
 rw [pl_pr]
 simp only [List.map_cons,List.map_nil,ev_a,ev_k,x,ev_add,e3,bind_some']
 rw [setRow_set hr hj] at q3
 rw [List.append_assoc]
 refine hcont [] _ s' p' (p'+1) (by simp at q1 ⊢;omega) (by omega) (by omega) ?_ ?_
 ·rw [← List.append_assoc,← q1];exact getD_eq
 ·rw [← List.append_assoc];exact getD_lt q3 (by rw [q1];exact q2) _
theorem mkSl_ok {S:Nat→Sem1} {es:List Ty} (hF:FOk S es.length es 0 (mkFsP es es.length 0)) (hl:es.length≤64) (hm:mkOk es=true):TOk S (.sl es):=by
 intro w j out K P Q k s c p q kv n cont ρ t xs dn ts u hP hg hp hs ht hk hkv hc hn hr hj hw hu hb hbn hcont
 unfold WT at hu
 obtain ⟨ys,rfl,_,hy⟩:=hu
 rw [mkT_sl] at hcont
 rw [bulk_l] at hb hbn
 have hrj:(dn++T.l ys :: ts)[j]?=some (.l ys):=by subst hj;simp
 have hg2:getV (Q++[(kv,w,j)]) t=some (.l ys):=by rw [getV_append,hg];exact getV_mk hr hw hrj rfl
 simp only [mkTyP]
 refine digs_ok hP hg hp hs ht fun e a1 a2 a3=>?_
 rw [pl_pr]
 simp only [List.map_cons,List.map_nil,ev_a,a3,getD_lt hkv (by omega) _,ev_bnd hr,bind_some',List.append_assoc]
 refine digs_ok (PathOk.ext _ hP) hg (by simp [hp,a1];omega) (by omega) (getD_lt ht (by omega) _) fun e2 b1 b2 b3=>?_
 simp only [List.append_assoc] at b3 ⊢
 rw [pl_pr]
 simp only [List.map_cons,List.map_nil,ev_a,b3,getD_lt hkv (by omega) _,ev_dig hr hw hrj,bind_some',List.append_assoc]
 refine lv_ok hF hl hm (PathOk.snoc (by simp;omega) (getD_lt hkv (by omega) _) (PathOk.ext _ hP)) hg2 (by simp [hp,a1];omega) (by omega) (getD_lt ht (by omega) _) (n:=n) (by rw [ev_a];exact getD_lt hn (by omega) _) hy hb (by omega) fun f B c' s' p' q1 q2 q3 q4 q5=>?_
 rw [List.append_assoc] at q1 q4 q5 ⊢
 refine hcont [f] _ s' c' p' q1 q3 q2 q4 ?_
 rw [q5,setV_append hg]
 congr 1
 have e0:((xs[kv]?).bind (·[j]?)).getD T.dft=.l ys:=by rw [hr];simp [hrj]
 simp only [setV,e0]
 rw [setRow_set hr hj]
mutual
theorem mkTy_ok {S:Nat→Sem1}:∀ (f:Ty),mkOkT f=true→TOk S f
 | .i k,h=>by
  cases k with
  | i64=>exact mkI_ok
  | _=>simp [mkOkT] at h
 | .b,h=>mkB_ok
 | .s,h=>by simp [mkOkT] at h
 | .sl es,h=>mkSl_ok (mkFs_ok es 0 (mkOk_sl h).2 es.length) (mkOk_sl h).1 (mkOk_sl h).2
theorem mkFs_ok {S:Nat→Sem1}:∀ (fs:List Ty) (j:Nat),mkOk fs=true→∀ w,FOk S w fs j (mkFsP fs w j)
 | [],j,h,w=>by
  intro out K P Q k s c p q kv n cont ρ t xs dn ts hP hg hp hs ht hk hkv hc hn hr hj hw hu hb hbn hcont
  unfold WTs at hu
  subst hu
  simp only [mkFsP]
  have:=hcont [] [] s c p (by simpa using hp) hs hc (by simpa [mkR_nil] using hn) (by
   rw [mkR_nil,set_same hr,setV_same hg];simpa using ht)
  simpa using this
 | f :: fs,j,h,w=>by
  intro out K P Q k s c p q kv n cont ρ t xs dn ts hP hg hp hs ht hk hkv hc hn hr hj hw hu hb hbn hcont
  unfold WTs at hu
  obtain ⟨u,ts',rfl,h1,h2⟩:=hu
  have hm:=mkOk_cons h
  have hle:=mkT_le f n u hm.1 h1
  simp only [bulkR_cons,List.length_cons] at hb hbn
  simp only [mkFsP]
  refine mkTy_ok f hm.1 w j out K P Q k s c p q kv n _ ρ t xs dn ts' u hP hg hp hs ht hk hkv hc hn hr hj hw h1 (by omega) (by omega) fun Ks B s' c' p' q1 q2 q3 q4 q5=>?_
  have hkl:kv < xs.length:=(List.getElem?_eq_some_iff.1 hr).1
  refine mkFs_ok fs (j+1) hm.2 w out (Ks++K) P Q k s' c' p' (q+Ks.length) kv (mkT f n u).1 cont (ρ++B) _ (xs.set kv (dn++(mkT f n u).2 :: ts')) (dn++[(mkT f n u).2]) ts' (PathOk.ext _ hP) (getV_set hg) q1 q2 q5 (by simp at q1;omega) (getD_lt hkv (by omega) _) q3 q4
   (by simp [hkl]) (by simp [hj]) (by simp at hw ⊢;omega) h2 (by omega) (by omega) fun Ks2 B2 s2 c2 p2 r1 r2 r3 r4 r5=>?_
  rw [List.append_assoc] at r1 r4 r5 ⊢
  have:=hcont (Ks2++Ks) (B++B2) s2 c2 p2 r1 r2 r3 (by rw [r4,mkR_cons]) (by
   rw [r5,setV_set hg,List.set_set,mkR_cons,List.append_assoc]
   rfl)
  rw [List.append_assoc,List.length_append] at this
  rw [show q+Ks.length+Ks2.length=q+(Ks2.length+Ks.length) by omega]
  exact this
end
set_option linter.defProp false in
set_option linter.unusedSimpArgs false
theorem ev_app {sc:Bool} {w:Nat} {xs ys:List (List T)} (h:xs.length+ys.length < cap32) (hs:(!sc || ys.all (·.all scal))=true) (h1:okW w xs=true) (h2:okW w ys=true):Prim.ev (.app sc w) [.l xs,.l ys]=some (.l (xs++ys)):=by
 simp only [Prim.ev,h,hs,h1,h2,if_true]
theorem ev_lit1 {w:Nat} {ms:List Bool} {ts:List T} (hw:0 < w) (hm:masked ms ts=true) (hl:ts.length=w):Prim.ev (.lit w ms) ts=some (.l [ts]):=by
 have h1:ts.length / w=1:=by rw [hl];exact Nat.div_self hw
 have h2:ts.take w=ts:=by rw [← hl];exact List.take_length
 simp only [Prim.ev,hw,hm,h1,if_true,chunks,h2]
set_option linter.unusedSimpArgs false
def sgOf:List (Nat × Sig)→Nat→Option Sig
 | [],_=>none
 | e :: l,g=>bif Nat.beq e.1 g then some e.2 else sgOf l g
theorem sgOf_mem:∀ {l:List (Nat × Sig)} {g:Nat} {sg:Sig},sgOf l g=some sg→(g,sg)∈l
 | [],_,_,h=>by cases h
 | e :: l,g,sg,h=>by
  unfold sgOf at h
  cases hb:Nat.beq e.1 g with
  | true =>
   rw [hb] at h
   simp only [cond_true,Option.some.injEq] at h
   have:=Nat.eq_of_beq_eq_true hb
   subst this;subst h
   exact .head _
  | false =>
   rw [hb] at h
   exact .tail _ (sgOf_mem h)
def Cx.on (cx:Cx) (l:List (Nat × Sig)):Cx:={ cx with sg:=sgOf l }
def Fok (P:Program) (sg:Sig) (g:Nat) (F:Sem1):Prop:=FnIn P g∧CallOk P sg g F
structure Seat (P:Program) (cx:Cx):Prop where
 tys:TyAll P cx
 into:∀ g fn,cx.fn g=some fn→P.funcs[g]?=some fn∧FnIn P g
 mx:P.follows .mixedOrders=true
def hintOf:List ((Nat × Nat × Nat) × Js)→Nat→Nat→Nat→Option Js
 | [],_,_,_=>none
 | e :: l,f,k,j=>bif Nat.beq e.1.1 f && (Nat.beq e.1.2.1 k && Nat.beq e.1.2.2 j) then some e.2 else hintOf l f k j
def fzOf:List (Nat × Nat × Nat)→Nat→Nat→Nat→Bool
 | [],_,_,_=>false
 | e :: l,f,k,j=>(Nat.beq e.1 f && (Nat.beq e.2.1 k && Nat.beq e.2.2 j)) || fzOf l f k j
def memN:List Nat→Nat→Bool
 | [],_=>false
 | e :: l,f=>Nat.beq e f || memN l f
theorem Fok.mk {P:Program} {cx:Cx} (Z:Seat P cx) {R n g:Nat} {fn:Func} {sg:Sig} {pl:PL} {l:List (Nat × Sig)} {S:Nat→Sem1} (hin:FnIn P g) (hf:P.funcs[g]?=some fn)
  (hl:∀ x∈l,Fok P x.2 x.1 (S x.1)) (h:compFn (cx.on l) n g fn sg=some pl):Fok P sg g fun ts=>pl.den S R [] ts :=
 ⟨hin,compFn_ok (cx:=cx.on l) ⟨⟨Z.tys.ty⟩,fun g' sg' h'=>hl _ (sgOf_mem h'),Z.into⟩ Z.mx hf h⟩
theorem FnIn.mk {P:Program} {g:Nat} {fn:Func} (h:P.funcs[g]?=some fn) (h1:(fn.name == "runtime.NumGoroutine")=false) (h2:fn.body.isNone=false):FnIn P g:=⟨fn,h,h1,h2⟩
structure Kok (P:Program) where
 g:Nat
 sg:Sig
 F:Sem1
 ok:Fok P sg g F
def ksg {P:Program} (l:List (Kok P)):List (Nat × Sig):=l.map fun k=>(k.g,k.sg)
def kS {P:Program} (l:List (Kok P)):List (Nat × Sem1):=l.map fun k=>(k.g,k.F)
theorem kok_find {P:Program}:∀ {ks:List (Kok P)} {g:Nat} {sg:Sig},sgOf (ksg ks) g=some sg→Fok P sg g (pick (kS ks) g)
 | [],g,sg,h=>by cases h
 | k :: ks,g,sg,h=>by
  simp only [ksg,List.map_cons,sgOf] at h
  simp only [kS,List.map_cons,pick]
  cases hb:Nat.beq k.g g with
  | true =>
   rw [hb,cond_true] at h
   cases h
   rw [cond_true,← Nat.eq_of_beq_eq_true hb]
   exact k.ok
  | false =>
   rw [hb,cond_false] at h
   rw [cond_false]
   exact kok_find h
def Kok.mk2 {P:Program} {cx:Cx} (Z:Seat P cx) (g:Nat) {fn:Func} (sg:Sig) (pl:PL) (F:Sem1) (ks:List (Kok P)) (hf:P.funcs[g]?=some fn) (h:compFn (cx.on (ksg ks)) 8 g fn sg=some pl)
  (h1:((fn.name == "runtime.NumGoroutine") || fn.body.isNone)=false) (hF:F=Fs pl (kS ks)):Kok P :=
 ⟨g,sg,F,⟨fn,hf,(Bool.or_eq_false_iff.1 h1).1,(Bool.or_eq_false_iff.1 h1).2⟩,by
  rw [hF]
  exact compFn_ok (cx:=cx.on (ksg ks)) ⟨⟨Z.tys.ty⟩,fun g' sg' h'=>kok_find h',Z.into⟩ Z.mx hf h⟩
def tysB (P:Program) (l:List (Nat × TI)):Bool:=l.all fun x=>tyB P x.1 x.2
def tiOf:List (Nat × TI)→Nat→Option TI
 | [],_=>none
 | e :: l,g=>bif Nat.beq e.1 g then some e.2 else tiOf l g
theorem tiOf_mem:∀ {l:List (Nat × TI)} {g:Nat} {sg:TI},tiOf l g=some sg→(g,sg)∈l
 | [],_,_,h=>by cases h
 | e :: l,g,sg,h=>by
  unfold tiOf at h
  cases hb:Nat.beq e.1 g with
  | true =>
   rw [hb] at h
   simp only [cond_true,Option.some.injEq] at h
   have:=Nat.eq_of_beq_eq_true hb
   subst this;subst h
   exact .head _
  | false =>
   rw [hb] at h
   exact .tail _ (tiOf_mem h)
theorem tys_ok {P:Program} {cx:Cx} {l:List (Nat × TI)} (h:tysB P l=true) (he:cx.ty=tiOf l):TyAll P cx:=by
 refine ⟨fun t ti ht=>?_⟩
 rw [he] at ht
 exact tyB_ok (List.all_eq_true.1 h _ (tiOf_mem ht))
def fnOf:List (Nat × Func)→Nat→Option Func
 | [],_=>none
 | e :: l,g=>bif Nat.beq e.1 g then some e.2 else fnOf l g
theorem into_of {P:Program} {cx:Cx} {l:List (Nat × Func)} (h:∀ x∈l,P.funcs[x.1]?=some x.2∧FnIn P x.1) (he:cx.fn=fnOf l):∀ g fn,cx.fn g=some fn→P.funcs[g]?=some fn∧FnIn P g:=by
 intro g fn hg
 rw [he] at hg
 clear he
 induction l with
 | nil=>cases hg
 | cons e l ih =>
  unfold fnOf at hg
  cases hb:Nat.beq e.1 g with
  | true =>
   rw [hb] at hg
   simp only [cond_true,Option.some.injEq] at hg
   have:=Nat.eq_of_beq_eq_true hb
   subst this;subst hg
   exact h _ (.head _)
  | false =>
   rw [hb] at hg
   exact ih (fun x hx=>h x (.tail _ hx)) hg
open Go.ChangeShapes Go.WideShapes Go.ChangeAt Go.RowKit
section
variable {P:Program}
def tyFs (P:Program) (r:TypeId→Option (List Ty)):Nat→List Field→Option (List Ty)
 | _,[]=>some []
 | o,f :: fs=>bif Nat.beq f.offset o then (r f.type).bind fun a=>bif Nat.beq (P.cellsOf f.type) a.length then (tyFs P r (o+a.length) fs).bind fun b=>some (a++b) else none else none
def tyOf (P:Program):Nat→TypeId→Option (List Ty)
 | 0,_=>none
 | n+1,t =>
  match P.underlying t with
  | some (.int k)=>some [.i k]
  | some .bool=>some [.b]
  | some .string=>some [.s]
  | some (.slice e)=>(tyOf P n e).bind fun fs=>bif fs.isEmpty then none else some [.sl fs]
  | some (.struct fs)=>(tyFs P (tyOf P n) 0 fs.toList).bind fun ts=>bif Nat.beq ts.length (P.cellsOf t) then some ts else none
  | _=>none
variable {H:Type} {enc:TypeId × Value→H} {w:World} {base:Nat} {spare:Nat→Bool} {held:Bool} {ω:Nat→Option Lb}
theorem DenL.append {ω:Nat→Option Lb}:∀ {ts ts':List T} {vs vs':List Value},DenL ω w ts vs→DenL ω w ts' vs'→DenL ω w (ts++ts') (vs++vs')
 | [],ts',[],vs',_,h'=>h'
 | t :: ts,ts',v :: vs,vs',h,h'=>⟨h.1,DenL.append h.2 h'⟩
 | [],_,_ :: _,_,h,_=>h.elim
 | _ :: _,_,[],_,h,_=>h.elim
theorem tyFs_den {r:TypeId→Option (List Ty)} {cs:List Value}:∀ {fl:List Field} {o:Nat} {ys:List Ty},tyFs P r o fl=some ys →
  (∀ f∈fl,∀ a,r f.type=some a→∃ ts,DenL ω w ts ((cs.drop f.offset).take (P.cellsOf f.type))∧WTs a ts)→∃ ts,DenL ω w ts ((cs.drop o).take ys.length)∧WTs ys ts
 | [],o,ys,h,_=>by
  simp only [tyFs,Option.some.injEq] at h
  subst h
  exact ⟨[],by simp [DenL],rfl⟩
 | f :: fl,o,ys,h,hr=>by
  unfold tyFs at h
  cases h1:Nat.beq f.offset o with
  | false=>simp [h1] at h
  | true =>
   simp only [h1,cond_true,Option.bind_eq_some_iff] at h
   obtain ⟨a,ha,h⟩:=h
   cases h2:Nat.beq (P.cellsOf f.type) a.length with
   | false=>simp [h2] at h
   | true =>
    simp only [h2,cond_true,Option.bind_eq_some_iff,Option.some.injEq] at h
    obtain ⟨b,hb,rfl⟩:=h
    have e1:=Nat.eq_of_beq_eq_true h1
    have e2:=Nat.eq_of_beq_eq_true h2
    obtain ⟨t1,g1,g2⟩:=hr f (.head _) a ha
    obtain ⟨t2,g3,g4⟩:=tyFs_den hb fun f hf=>hr f (.tail _ hf)
    refine ⟨t1++t2,?_,g2.append g4⟩
    rw [e1,e2] at g1
    rw [List.length_append,List.take_add,List.drop_drop]
    exact g1.append g3
theorem trod_den:∀ (n m:Nat) {t:TypeId} {cs:List Value} {x:DataW H × List MemPlace} {fs:List Ty},DataW.trod enc P w 0 spare held n t cs=some x→tyOf P m t=some fs →
  (∀ b,ω b=none)→∃ ts,DenL ω w ts cs∧WTs fs ts:=by
 intro n
 induction n with
 | zero=>intro m t cs x fs h;simp [DataW.trod] at h
 | succ n ih =>
  intro m t cs x fs h ht hω
  cases m with
  | zero=>cases ht
  | succ m =>
   unfold tyOf at ht
   cases hu:P.underlying t with
   | none=>rw [hu] at ht;cases ht
   | some u =>
    rw [hu] at ht
    cases u with
    | int k =>
     simp only [Option.some.injEq] at ht
     subst ht
     obtain ⟨a,e0,e1,wa⟩:=DataW.trod_int hu h
     subst e0 e1
     exact ⟨[.c (.int k a)],⟨.c rfl,trivial⟩,_,_,rfl,⟨_,rfl,wa⟩,rfl⟩
    | bool =>
     simp only [Option.some.injEq] at ht
     subst ht
     obtain ⟨b,rfl,_⟩:=DataW.trod_bool hu h
     exact ⟨[.c (.bool b)],⟨.c rfl,trivial⟩,_,_,rfl,⟨_,rfl⟩,rfl⟩
    | string =>
     simp only [Option.some.injEq] at ht
     subst ht
     obtain ⟨s,rfl,_,hs⟩:=DataW.trod_string hu h
     exact ⟨[.c (.string s)],⟨.c rfl,trivial⟩,_,_,rfl,⟨_,rfl,hs⟩,rfl⟩
    | slice e =>
     simp only [Option.bind_eq_some_iff] at ht
     obtain ⟨gs,hg,ht⟩:=ht
     cases hz:gs.isEmpty with
     | true=>simp [hz] at ht
     | false =>
      simp only [hz,cond_false,Option.some.injEq] at ht
      subst ht
      rcases DataW.trod_slice hu h with ⟨rfl,_⟩ | ⟨a,len,cap,elems,rest,n',e1,rfl,_,_,hlc,hcm,hel,hat,_⟩
      ·exact ⟨[.l []],⟨.nil,trivial⟩,_,_,rfl,⟨[],rfl,Nat.zero_le _,by simp⟩,rfl⟩
      ·cases e1
       have each:∀ i,i < len→∃ vs ts,w.cells? 0 (a.add (i * P.cellsOf e)) (P.cellsOf e)=some vs∧DenL ω w ts vs∧WTs gs ts:=by
        intro i hi
        have h1:=hat i hi
        rw [← hel] at hi
        rw [List.getElem?_eq_getElem hi,Option.bind_eq_some_iff] at h1
        obtain ⟨vs,g1,g2⟩:=h1
        obtain ⟨ts,g3,g4⟩:=ih m g2 hg hω
        exact ⟨vs,ts,g1,g3,g4⟩
       by_cases h0:len=0
       ·subst h0
        exact ⟨[.l []],⟨.nil,trivial⟩,_,_,rfl,⟨[],rfl,Nat.zero_le _,by simp⟩,rfl⟩
       ·have hc:=fun i=>fun hi:i < len=>Classical.choose_spec (each i hi)
        let vf:Nat→List Value:=fun i=>if hi:i < len then Classical.choose (each i hi) else []
        have hv:∀ i,i < len→∃ ts,w.cells? 0 (a.add (i * P.cellsOf e)) (P.cellsOf e)=some (vf i)∧DenL ω w ts (vf i)∧WTs gs ts:=by
         intro i hi
         have:vf i=Classical.choose (each i hi):=by simp [vf,hi]
         rw [this]
         exact hc i hi
        have ht:∃ tf:Nat→List T,∀ i,i < len→w.cells? 0 (a.add (i * P.cellsOf e)) (P.cellsOf e)=some (vf i)∧DenL ω w (tf i) (vf i)∧WTs gs (tf i):=by
         refine ⟨fun i=>if hi:i < len then Classical.choose (hv i hi) else [],fun i hi=>?_⟩
         have:=Classical.choose_spec (hv i hi)
         simpa [hi] using this
        obtain ⟨tf,htf⟩:=ht
        have hwd:∀ i,i < len→(vf i).length=P.cellsOf e:=fun i hi=>(World.cells?_some (htf i hi).1).2.1
        have hgl:∀ i,i < len→(tf i).length=gs.length:=fun i hi=>(htf i hi).2.2.length
        have hwp:0 < P.cellsOf e:=by
         have h1:=hwd 0 (by omega)
         have h2:=hgl 0 (by omega)
         have h3:=(htf 0 (by omega)).2.1.length
         cases gs with
         | nil=>simp at hz
         | cons _ _=>simp at h2;omega
        obtain ⟨b,off,spot⟩:=a
        have hcell:∀ i j,i < len→j < P.cellsOf e→w.cell? ((⟨b,off,spot⟩:Addr).add (i * P.cellsOf e) |>.add j)=(vf i)[j]?:=fun i j hi hj=>(World.cells?_some (htf i hi).1).2.2 j hj
        have hspot:spot=none:=by
         have:=hcell 0 0 (by omega) hwp
         simp only [Nat.zero_mul,Addr.add,if_true] at this
         have hl:0 < (vf 0).length:=by rw [hwd 0 (by omega)];exact hwp
         rw [List.getElem?_eq_getElem hl] at this
         unfold World.cell? at this
         split at this
         ·split at this
          ·cases this
          ·rename_i h;simpa using h
         ·cases this
        subst hspot
        have hadd:∀ i j,((⟨b,off,none⟩:Addr).add (i * P.cellsOf e) |>.add j)=⟨b,off+(i * P.cellsOf e+j),none⟩:=by
         intro i j
         have e1:∀ k,(⟨b,off,none⟩:Addr).add k=⟨b,off+k,none⟩:=by
          intro k
          unfold Addr.add
          split
          ·rename_i h;subst h;rfl
          ·rfl
         have e2:∀ o k,(⟨b,o,none⟩:Addr).add k=⟨b,o+k,none⟩:=by
          intro o k
          unfold Addr.add
          split
          ·rename_i h;subst h;rfl
          ·rfl
         rw [e1,e2,Nat.add_assoc]
        have hlt:b < w.heap.size:=by
         have:=World.cells?_block (htf 0 (by omega)).1 hwp
         rw [Nat.zero_mul] at this
         exact this
        have hat2:∀ i j t,at2 ((List.range len).map tf) i j=some t→i < len∧(tf i)[j]?=some t:=by
         intro i j t h
         unfold at2 at h
         rw [Option.bind_eq_some_iff] at h
         obtain ⟨r,h1,h2⟩:=h
         rw [List.getElem?_map,Option.map_eq_some_iff] at h1
         obtain ⟨i',h3,rfl⟩:=h1
         have hi:i < len:=by
          rcases Nat.lt_or_ge i len with h | h
          ·exact h
          ·rw [List.getElem?_eq_none (by simpa using h)] at h3;cases h3
         rw [List.getElem?_range hi] at h3
         cases h3
         exact ⟨hi,h2⟩
        refine ⟨[.l ((List.range len).map tf)],⟨?_,trivial⟩,_,_,rfl,⟨_,rfl,by simp;omega,?_⟩,rfl⟩
        ·have:=Den.l (ω:=ω) (w:=w) (xs:=(List.range len).map tf) (b:=b) (off:=off) (wd:=P.cellsOf e) (cap:=cap) (cv:=fun i j=>((vf i)[j]?).getD default)
          (by
           intro r hr
           rw [List.mem_map] at hr
           obtain ⟨i,hi,rfl⟩:=hr
           have hi:=List.mem_range.1 hi
           rw [(htf i hi).2.1.length,hwd i hi])
          (by simpa using hlc) (hω b) hlt
          (by
           intro i j t h
           obtain ⟨hi,hj⟩:=hat2 i j t h
           have hj':j < (vf i).length:=by rw [← (htf i hi).2.1.length];exact (List.getElem?_eq_some_iff.1 hj).1
           have:=hcell i j hi (by rw [← hwd i hi];exact hj')
           rw [hadd] at this
           rw [this,List.getElem?_eq_getElem hj']
           rfl)
          (by
           intro i j t h
           obtain ⟨hi,hj⟩:=hat2 i j t h
           have hj':j < (vf i).length:=by rw [← (htf i hi).2.1.length];exact (List.getElem?_eq_some_iff.1 hj).1
           refine (htf i hi).2.1.get j t _ hj ?_
           rw [List.getElem?_eq_getElem hj']
           rfl)
         simpa using this
        ·intro r hr
         rw [List.mem_map] at hr
         obtain ⟨i,hi,rfl⟩:=hr
         exact (htf i (List.mem_range.1 hi)).2.2
    | struct fl =>
     simp only [Option.bind_eq_some_iff] at ht
     obtain ⟨ys,hy,ht⟩:=ht
     cases hz:Nat.beq ys.length (P.cellsOf t) with
     | false=>simp [hz] at ht
     | true =>
      simp only [hz,cond_true,Option.some.injEq] at ht
      subst ht
      obtain ⟨xs,n',e1,_,hl,hxl,hat⟩:=DataW.trod_struct hu h
      cases e1
      obtain ⟨ts,h1,h2⟩:=tyFs_den (ω:=ω) (w:=w) (cs:=cs) hy fun f hf a ha=>by
       obtain ⟨i,hi,hfi⟩:=List.getElem_of_mem hf
       have h1:=hat i f (by rw [← hfi,← Array.getElem?_toList];exact List.getElem?_eq_getElem hi)
       have hi':i < xs.length:=by rw [hxl];simpa using hi
       rw [List.getElem?_eq_getElem hi'] at h1
       exact ih m h1 ha hω
      refine ⟨ts,?_,h2⟩
      rw [List.drop_zero,Nat.eq_of_beq_eq_true hz,← hl,List.take_length] at h1
      exact h1
    | _=>cases ht
def isStruct (P:Program) (t:TypeId):Bool :=
 match P.underlying t with
 | some (.struct _)=>true
 | _=>false
def psB (P:Program):List TypeId→List PS→Option (List Ty)
 | [],[]=>some []
 | t :: ts,.v ag n :: ps=>(tyOf P 16 t).bind fun fs=>bif Nat.beq fs.length n && (isStruct P t == ag) then (psB P ts ps).bind fun gs=>some (fs++gs) else none
 | _,_=>none
theorem args_in {bl:Nat→Option Nat} (hω:∀ b,ω b=none) {r:Reach} {b0:Nat}:∀ {ts:List TypeId} {vs:List Value} {ds:List (DataW H)} {pl:List MemPlace} {ps:List PS} {ys:List Ty} {i:Nat},DataW.TrodAll enc P w 0 spare held ts vs ds pl →
  (∀ (j:Nat) t v,ts[j]?=some t→vs[j]?=some v→Value.okWide P w r b0 t v)→psB P ts ps=some ys→∃ us,ArgIn ω w bl i ps vs us∧WTs ys us
 | [],[],[],pl,ps,ys,i,h,hv,hp=>by
  cases ps with
  | nil=>simp only [psB,Option.some.injEq] at hp;subst hp;exact ⟨[],⟨rfl,rfl⟩,rfl⟩
  | cons _ _=>simp [psB] at hp
 | t :: ts,v :: vs,d :: ds,pl,ps,ys,i,⟨p,q,h1,h2,e⟩,hv,hp=>by
  cases ps with
  | nil=>simp [psB] at hp
  | cons p0 ps =>
   cases p0 with
   | x n=>simp [psB] at hp
   | v ag n =>
    simp only [psB,Option.bind_eq_some_iff] at hp
    obtain ⟨fs,hfs,hp⟩:=hp
    cases hc:(Nat.beq fs.length n && (isStruct P t == ag)) with
    | false=>simp [hc] at hp
    | true =>
     simp only [hc,cond_true,Option.bind_eq_some_iff,Option.some.injEq] at hp
     obtain ⟨gs,hgs,rfl⟩:=hp
     simp only [Bool.and_eq_true,beq_iff_eq] at hc
     obtain ⟨us,g1,g2⟩:=args_in (bl:=bl) (i:=i+1) hω h2 (fun j t v hj hj'=>hv (j+1) t v hj hj') hgs
     obtain ⟨f,h1⟩:=h1
     obtain ⟨t1,g3,g4⟩:=trod_den f 16 h1 hfs hω
     have hok:=hv 0 t v rfl rfl
     refine ⟨t1++us,⟨v,vs,v.cells.toList,t1,us,rfl,rfl,by rw [g4.length];exact Nat.eq_of_beq_eq_true hc.1,?_,g3,g1⟩,g4.append g2⟩
     have hs:=hc.2
     unfold isStruct at hs
     unfold tyOf at hfs
     cases hu:P.underlying t with
     | none=>rw [hu] at hfs;cases hfs
     | some u =>
      rw [hu] at hfs hs
      cases u with
      | int k=>obtain ⟨a,rfl⟩:=okWide_int hu hok;subst hs;exact ⟨rfl,fun x h=>by cases h⟩
      | bool=>obtain ⟨a,rfl⟩:=okWide_bool hu hok;subst hs;exact ⟨rfl,fun x h=>by cases h⟩
      | string=>obtain ⟨a,rfl⟩:=okWide_string hu hok;subst hs;exact ⟨rfl,fun x h=>by cases h⟩
      | slice e=>obtain ⟨a,l,c,rfl⟩:=okWide_slice hu hok;subst hs;exact ⟨rfl,fun x h=>by cases h⟩
      | struct fl =>
       obtain ⟨cs,rfl,_⟩:=okWide_struct hu hok
       subst hs
       simp [Value.cells]
      | _=>cases hfs
 | [],_ :: _,_,_,_,_,_,h,_,_=>by simp [DataW.TrodAll] at h
 | [],[],_ :: _,_,_,_,_,h,_,_=>by simp [DataW.TrodAll] at h
 | _ :: _,[],_,_,_,_,_,h,_,_=>by simp [DataW.TrodAll] at h
 | _ :: _,_ :: _,[],_,_,_,_,h,_,_=>by simp [DataW.TrodAll] at h
theorem trodAll_stays (hl:laidOutB P=true) {W W':World} {sp':Nat→Bool}:∀ {ts:List TypeId} {vs:List Value} {ds:List (DataW H)} {ps:List MemPlace},(∀ t∈ts,P.readableRec t=true∧t < P.types.size) →
  DataW.TrodAll enc P W base (fun _=>true) true ts vs ds ps→(∀ p∈ps,W.sameAt W' p)→(∀ p∈ps,sp' p.block=true)→DataW.TrodAll enc P W' base sp' true ts vs ds ps
 | [],[],[],_,_,h,_,_=>h
 | t :: ts,_ :: _,_ :: _,_,hT,⟨p,q,h1,h2,e⟩,hs,hb=>⟨p,q,WideElems.Trod_stays hl (hT t (.head _)).1 (hT t (.head _)).2 h1 (fun x hx=>hs x (by rw [e];exact List.mem_append_left _ hx)) (fun x hx=>hb x (by rw [e];exact List.mem_append_left _ hx)),
   trodAll_stays hl (fun t ht=>hT t (.tail _ ht)) h2 (fun x hx=>hs x (by rw [e];exact List.mem_append_right _ hx)) (fun x hx=>hb x (by rw [e];exact List.mem_append_right _ hx)),e⟩
 | [],_ :: _,_,_,_,h,_,_=>by simp [DataW.TrodAll] at h
 | [],[],_ :: _,_,_,h,_,_=>by simp [DataW.TrodAll] at h
 | _ :: _,[],_,_,_,h,_,_=>by simp [DataW.TrodAll] at h
 | _ :: _,_ :: _,[],_,_,h,_,_=>by simp [DataW.TrodAll] at h
end
theorem law_contract {H:Type} {enc:TypeId × Value→H} {C:Checked} {f:FuncId} {fn:Func} {s:ChangeSpec} {apart fresh handsOn again:Bool} {sg:Sig} {F:Sem1} {ys:List Ty} {rt:TypeId}
  (hvars:s.vars=[]) (hspec:∀ ds:List (DataW H),ds.length=fn.params.size→s.fn H ds={ results:=[.lit (.bool true)],args:=ds })
  (hl:laidOutB C.prog=true) (hread:(fn.params.toList.all fun t=>C.prog.readableRec t && Nat.blt t C.prog.types.size)=true)
  (hrt:fn.resultTypes=#[rt]) (hbool:C.prog.underlying rt=some .bool) (hrs:sg.rs=[(false,[.s])])
  (hok:Fok C.prog sg f F) (hps:psB C.prog fn.params.toList sg.ps=some ys) (hF:∀ ts,WTs ys ts→F ts=some [.c (.bool true)])
  (W:World) (b0:Nat) (args:Array Value) (ds gs:List (DataW H)) (before:List MemPlace)
  (hval:∀ (j:Nat) t v,fn.params[j]?=some t→args[j]?=some v→Value.okWide C.prog W .any b0 t v)
  (hW:DataW.Whole enc C.prog fn.params.toList s.vars apart W args.toList ds gs before) (hglob:GlobOk (fun _=>none) W) :
  Calls C.prog f args W fun e W'=>∃ v,e=.returned v∧s.post enc C.prog fn apart fresh handsOn again W args v W':=by
 have hW':=hW
 obtain ⟨p,q,hA,hV,rfl,_,_⟩:=hW
 rw [hvars] at hV
 obtain ⟨rfl,rfl⟩:gs=[]∧q=[]:=by
  cases gs with
  | nil=>exact ⟨rfl,hV⟩
  | cons _ _=>exact hV.elim
 have hlen:ds.length=fn.params.size:=by
  have:∀ {ts:List TypeId} {vs:List Value} {ds:List (DataW H)} {ps:List MemPlace},DataW.TrodAll enc C.prog W 0 (fun _=>true) true ts vs ds ps→ds.length=ts.length:=by
   intro ts
   induction ts with
   | nil=>intro vs ds ps h;cases vs <;> cases ds <;> simp_all [DataW.TrodAll]
   | cons t ts ih =>
    intro vs ds ps h
    cases vs with
    | nil=>simp [DataW.TrodAll] at h
    | cons v vs =>
     cases ds with
     | nil=>simp [DataW.TrodAll] at h
     | cons d ds=>obtain ⟨_,_,_,h2,_⟩:=h;simp [ih h2]
  rw [this hA];simp
 have hT:∀ t∈fn.params.toList,C.prog.readableRec t=true∧t < C.prog.types.size:=by
  intro t ht
  have:=List.all_eq_true.1 hread t ht
  simp only [Bool.and_eq_true] at this
  exact ⟨this.1,Nat.blt_eq ▸ this.2⟩
 obtain ⟨us,hin,hwt⟩:=args_in (ω:=fun _=>none) (bl:=fun _=>none) (i:=0) (fun _=>rfl) hA (fun j t v h1 h2=>hval j t v (by simpa using h1) (by simpa using h2)) hps
 have hc:=hok.2 W (fun _=>none) (fun _=>none) args.toList us _ (hF us hwt) ⟨fun b l h=>by (cases h),fun i b h=>by (cases h),hglob⟩ hin
 rw [Array.toArray_toList] at hc
 refine hc.mono fun e W' h=>?_
 obtain ⟨v,G,is,o1,o2,rfl,hp⟩:=h
 refine ⟨v,rfl,?_⟩
 have hold:∀ x∈p++[],MemPlace.block x < W.heap.size:=hW'.lt
 have hblk:∀ b,b < W.heap.size→W'.heap[b]?=W.heap[b]?:=fun b hb=>(hp.free b hb rfl).2
 have hsame:∀ x∈p,W.sameAt W' x:=by
  intro x hx
  have hb:=hold x (by simpa using hx)
  cases x with
  | cell b o=>show W'.cell? _=W.cell? _;unfold World.cell?;rw [hblk b hb]
  | map b=>exact hblk b hb
 have hv:v=.bool true:=by
  have h1:=hp.ret
  rw [hrs] at h1
  obtain ⟨t1,t2,i1,i2,e1,e2,h1,h2⟩:=h1
  obtain ⟨h1,_⟩:=h1
  have h3:=hp.outs
  rw [e1] at h3
  cases t1 with
  | nil=>simp [OutCs] at h1
  | cons t t1 =>
   cases i1 with
   | nil=>simp [OutCs] at h1
   | cons i i1 =>
    simp only [List.cons_append,List.cons.injEq] at h3
    rw [← h3.1] at h1
    obtain ⟨_,hd,_⟩:=h1
    cases hd
    rfl
 subst hv
 have hargs:=fun sp hsp=>trodAll_stays (enc:=enc) (base:=0) (sp':=sp) hl hT hA hsame hsp
 have hsp:=hspec ds hlen
 have hok1:∀ (j:Nat) (t:TypeId) (r:Value),fn.resultTypes[j]?=some t→((Value.bool true).resultList fn.resultTypes.size)[j]?=some r→Value.okWide C.prog W' .any 0 t r:=by
  intro j t r hj hr
  rw [hrt] at hj hr
  have hj0:j=0:=by
   rcases Nat.eq_zero_or_pos j with h | h
   ·exact h
   ·have:(#[rt]:Array TypeId)[j]?=none:=by simp;omega
    rw [this] at hj;cases hj
  subst hj0
  cases hj;cases hr
  simp [Value.okWide,hbool,Cell.okWide,Cell.ok]
 have hres:∀ (b:Nat) (sp:Nat→Bool) (hd:Bool),DataW.TrodAll enc C.prog W' b sp hd fn.resultTypes.toList ((Value.bool true).resultList fn.resultTypes.size) (s.fn H (ds++[])).results []:=by
  intro b sp hd
  rw [List.append_nil,hsp,hrt]
  exact ⟨[],[],⟨1,by simp [DataW.trod,hbool,Value.cells]⟩,rfl,rfl⟩
 have harg:∀ sp:Nat→Bool,(∀ x∈p,sp x.block=true)→DataW.TrodAll enc C.prog W' 0 sp true fn.params.toList args.toList (s.fn H (ds++[])).args p:=by
  intro sp hs
  rw [List.append_nil,hsp]
  exact hargs sp hs
 have hvar:∀ sp:Nat→Bool,DataW.TrodVars enc C.prog W' sp s.vars (s.fn H (ds++[])).vars []:=by
  intro sp
  rw [List.append_nil,hsp,hvars]
  rfl
 have hW2:=hW'
 obtain ⟨_,_,_,_,_,hz,hn⟩:=hW2
 refine ⟨ds,[],p++[],[],p,[],hW',hres _ _ _,harg _ (fun x hx=>decide_eq_true (hold x (by simpa using hx))),hvar _,⟨hp.so.os,hp.so.output,fun i hi=>?_⟩,fun _=>⟨hok1,_,[],p++[],⟨[]++p,[],trodAll_append (harg _ fun _ _=>rfl) (hres _ _ _),by rw [hvars];rfl,rfl,?_,hn⟩,?_⟩⟩
 ·rw [hblk i hi]
  cases W.heap[i]? with
  | none=>trivial
  | some o=>cases o <;> simp
 ·intro b off hm
  have h1:=hz b off hm
  have hb:=hold _ hm
  unfold World.frozen? at h1 ⊢
  rw [show W'.heap[(⟨b,off,none⟩:Addr).block]?=W.heap[(⟨b,off,none⟩:Addr).block]? from hblk b hb]
  exact h1
 ·intro x hx _
  exact hx
theorem law_laid {H:Type} {enc:TypeId × Value→H} {C:Checked} {os:Os} {f:FuncId} {fn:Func} {s:ChangeSpec} {conds:List PathCond} {apart fresh handsOn again:Bool} {sg:Sig} {F:Sem1} {ys:List Ty} {rt:TypeId}
  (own:ownKnob C.prog.godebug=none) (started:os.Started) (noInit:C.prog.inits.idxOf? f=none) (hfn:C.prog.funcs[f]?=some fn)
  {X:World→Array Value→Prop} (hX:∀ (w w':World) (args:Array Value),w.heap=w'.heap→X w args→X w' args) (hglob:∀ W args,X W args→GlobOk (fun _=>none) W)
  (witness:∃ (w:World) (tape:Tape) (i:Input),w.os=os∧(w.forCall tape i).Shaped C.prog∧i.vars=[]∧Input.okWide C.prog (w.forCall tape i) .any w.heap.size f i ∧
   ((s.pre enc C.prog fn conds apart (w.forCall tape i).memory i.args∧X (w.forCall tape i).memory i.args)∧sizedMet enc C.prog fn (OpenSpec.ofChange s) apart (w.forCall tape i).memory i.args)∧({}:Assume).holds C.prog (lone (Frame.enter C.prog f i.args .normal) [] (w.forCall tape i)))
  (hvars:s.vars=[]) (hspec:∀ ds:List (DataW H),ds.length=fn.params.size→s.fn H ds={ results:=[.lit (.bool true)],args:=ds })
  (hl:laidOutB C.prog=true) (hread:(fn.params.toList.all fun t=>C.prog.readableRec t && Nat.blt t C.prog.types.size)=true)
  (hrt:fn.resultTypes=#[rt]) (hbool:C.prog.underlying rt=some .bool) (hrs:sg.rs=[(false,[.s])])
  (hok:Fok C.prog sg f F) (hps:psB C.prog fn.params.toList sg.ps=some ys) (hF:∀ ts,WTs ys ts→F ts=some [.c (.bool true)]) :
  ReturnsInHanded {} C os f .any (fun w args=>(s.pre enc C.prog fn conds apart w args∧X w args)∧sizedMet enc C.prog fn (OpenSpec.ofChange s) apart w args) (s.post enc C.prog fn apart fresh handsOn again):=by
 refine returnsInHanded_of_change_and hX own started noInit hfn witness ?_
 intro W b0 args ds gs before hval hW _ _ hL _
 exact law_contract hvars hspec hl hread hrt hbool hrs hok hps hF W b0 args ds gs before hval hW (hglob W args hL)
def pv (p:Prim) (l:List T) (k:T→Option (List T)):Option (List T):=(Prim.ev p l).bind k
theorem pv_s (p:Prim) (l:List T) (k:T→Option (List T)):pv p l k=(Prim.ev p l).bind k:=rfl
def Yz (x:T) (k:T→Option (List T)):Option (List T):=(Prim.ev (.scl) [x]).bind k
theorem Yz_s (x:T) (k:T→Option (List T)):Yz x k=(Prim.ev (.scl) [x]).bind k:=rfl
def Ya (x y:T) (k:T→Option (List T)):Option (List T):=(Prim.ev (.bin .add) [x,y]).bind k
theorem Ya_s (x y:T) (k:T→Option (List T)):Ya x y k=(Prim.ev (.bin .add) [x,y]).bind k:=rfl
def Yb (x y:T) (k:T→Option (List T)):Option (List T):=(Prim.ev (.bnd) [x,y]).bind k
theorem Yb_s (x y:T) (k:T→Option (List T)):Yb x y k=(Prim.ev (.bnd) [x,y]).bind k:=rfl
def Yl (x y:T) (k:T→Option (List T)):Option (List T):=(Prim.ev (.bin .lss) [x,y]).bind k
theorem Yl_s (x y:T) (k:T→Option (List T)):Yl x y k=(Prim.ev (.bin .lss) [x,y]).bind k:=rfl
def Ye (x y:T) (k:T→Option (List T)):Option (List T):=(Prim.ev (.bin .eql) [x,y]).bind k
theorem Ye_s (x y:T) (k:T→Option (List T)):Ye x y k=(Prim.ev (.bin .eql) [x,y]).bind k:=rfl
def Yn (x:T) (k:T→Option (List T)):Option (List T):=(Prim.ev (.len) [x]).bind k
theorem Yn_s (x:T) (k:T→Option (List T)):Yn x k=(Prim.ev (.len) [x]).bind k:=rfl
def Yt (x:T) (k:T→Option (List T)):Option (List T):=(Prim.ev (.un .not) [x]).bind k
theorem Yt_s (x:T) (k:T→Option (List T)):Yt x k=(Prim.ev (.un .not) [x]).bind k:=rfl
def Yp (x y:T) (k:T→Option (List T)):Option (List T):=(Prim.ev (.app true 1) [x,y]).bind k
theorem Yp_s (x y:T) (k:T→Option (List T)):Yp x y k=(Prim.ev (.app true 1) [x,y]).bind k:=rfl
def Yo (x y:T) (k:T→Option (List T)):Option (List T):=(Prim.ev (.app false 3) [x,y]).bind k
theorem Yo_s (x y:T) (k:T→Option (List T)):Yo x y k=(Prim.ev (.app false 3) [x,y]).bind k:=rfl
def Yu (x y:T) (k:T→Option (List T)):Option (List T):=(Prim.ev (.bin .neq) [x,y]).bind k
theorem Yu_s (x y:T) (k:T→Option (List T)):Yu x y k=(Prim.ev (.bin .neq) [x,y]).bind k:=rfl
def Yg (x y:T) (k:T→Option (List T)):Option (List T):=(Prim.ev (.bin .gtr) [x,y]).bind k
theorem Yg_s (x y:T) (k:T→Option (List T)):Yg x y k=(Prim.ev (.bin .gtr) [x,y]).bind k:=rfl
def Ym (x y:T) (k:T→Option (List T)):Option (List T):=(Prim.ev (.bin .leq) [x,y]).bind k
theorem Ym_s (x y:T) (k:T→Option (List T)):Ym x y k=(Prim.ev (.bin .leq) [x,y]).bind k:=rfl
def Yh (x y:T) (k:T→Option (List T)):Option (List T):=(Prim.ev (.bin .geq) [x,y]).bind k
theorem Yh_s (x y:T) (k:T→Option (List T)):Yh x y k=(Prim.ev (.bin .geq) [x,y]).bind k:=rfl
def Ys (x y:T) (k:T→Option (List T)):Option (List T):=(Prim.ev (.bin .sub) [x,y]).bind k
theorem Ys_s (x y:T) (k:T→Option (List T)):Ys x y k=(Prim.ev (.bin .sub) [x,y]).bind k:=rfl
def Yv (x y:T) (k:T→Option (List T)):Option (List T):=(Prim.ev (.sub 1 true false) [x,y]).bind k
theorem Yv_s (x y:T) (k:T→Option (List T)):Yv x y k=(Prim.ev (.sub 1 true false) [x,y]).bind k:=rfl
def Yw (x y:T) (k:T→Option (List T)):Option (List T):=(Prim.ev (.sub 1 false true) [x,y]).bind k
theorem Yw_s (x y:T) (k:T→Option (List T)):Yw x y k=(Prim.ev (.sub 1 false true) [x,y]).bind k:=rfl
def Yx (x:T) (k:T→Option (List T)):Option (List T):=(Prim.ev (.lit 1 [true]) [x]).bind k
theorem Yx_s (x:T) (k:T→Option (List T)):Yx x k=(Prim.ev (.lit 1 [true]) [x]).bind k:=rfl
def Yy (x y:T) (k:T→Option (List T)):Option (List T):=(Prim.ev (.app false 8) [x,y]).bind k
theorem Yy_s (x y:T) (k:T→Option (List T)):Yy x y k=(Prim.ev (.app false 8) [x,y]).bind k:=rfl
def Yc (w j:Nat) (x y:T) (k:T→Option (List T)):Option (List T):=(Prim.ev (.cell w j) [x,y]).bind k
theorem Yc_s (w j:Nat) (x y:T) (k:T→Option (List T)):Yc w j x y k=(Prim.ev (.cell w j) [x,y]).bind k:=rfl
def Yq (x y:T) (k:T→Option (List T)):Option (List T):=(Prim.ev .bnd [x,y]).bind fun _=>(Prim.ev (.scell 1 0) [x,y]).bind k
theorem Yq_s (x y:T) (k:T→Option (List T)):Yq x y k=(Prim.ev .bnd [x,y]).bind fun _=>(Prim.ev (.scell 1 0) [x,y]).bind k:=rfl
def Y1 (x y:T) (k:T→Option (List T)):Option (List T):=(Prim.ev .bnd [x,y]).bind fun _=>(Prim.ev (.cell 1 0) [x,y]).bind fun a0=>k a0
theorem Y1_s (x y:T) (k:T→Option (List T)):Y1 x y k=(Prim.ev .bnd [x,y]).bind fun _=>(Prim.ev (.cell 1 0) [x,y]).bind fun a0=>k a0:=rfl
def Y2 (x y:T) (k:T→T→Option (List T)):Option (List T):=(Prim.ev .bnd [x,y]).bind fun _=>(Prim.ev (.cell 2 0) [x,y]).bind fun a0=>(Prim.ev (.cell 2 1) [x,y]).bind fun a1=>k a0 a1
theorem Y2_s (x y:T) (k:T→T→Option (List T)):Y2 x y k=(Prim.ev .bnd [x,y]).bind fun _=>(Prim.ev (.cell 2 0) [x,y]).bind fun a0=>(Prim.ev (.cell 2 1) [x,y]).bind fun a1=>k a0 a1:=rfl
def Y3 (x y:T) (k:T→T→T→Option (List T)):Option (List T):=(Prim.ev .bnd [x,y]).bind fun _=>(Prim.ev (.cell 3 0) [x,y]).bind fun a0=>(Prim.ev (.cell 3 1) [x,y]).bind fun a1=>(Prim.ev (.cell 3 2) [x,y]).bind fun a2=>k a0 a1 a2
theorem Y3_s (x y:T) (k:T→T→T→Option (List T)):Y3 x y k=(Prim.ev .bnd [x,y]).bind fun _=>(Prim.ev (.cell 3 0) [x,y]).bind fun a0=>(Prim.ev (.cell 3 1) [x,y]).bind fun a1=>(Prim.ev (.cell 3 2) [x,y]).bind fun a2=>k a0 a1 a2:=rfl
def Y4 (x y:T) (k:T→T→T→T→Option (List T)):Option (List T):=(Prim.ev .bnd [x,y]).bind fun _=>(Prim.ev (.cell 4 0) [x,y]).bind fun a0=>(Prim.ev (.cell 4 1) [x,y]).bind fun a1=>(Prim.ev (.cell 4 2) [x,y]).bind fun a2=>(Prim.ev (.cell 4 3) [x,y]).bind fun a3=>k a0 a1 a2 a3
theorem Y4_s (x y:T) (k:T→T→T→T→Option (List T)):Y4 x y k=(Prim.ev .bnd [x,y]).bind fun _=>(Prim.ev (.cell 4 0) [x,y]).bind fun a0=>(Prim.ev (.cell 4 1) [x,y]).bind fun a1=>(Prim.ev (.cell 4 2) [x,y]).bind fun a2=>(Prim.ev (.cell 4 3) [x,y]).bind fun a3=>k a0 a1 a2 a3:=rfl
def Y6 (x y:T) (k:T→T→T→T→T→T→Option (List T)):Option (List T):=(Prim.ev .bnd [x,y]).bind fun _=>(Prim.ev (.cell 6 0) [x,y]).bind fun a0=>(Prim.ev (.cell 6 1) [x,y]).bind fun a1=>(Prim.ev (.cell 6 2) [x,y]).bind fun a2=>(Prim.ev (.cell 6 3) [x,y]).bind fun a3=>(Prim.ev (.cell 6 4) [x,y]).bind fun a4=>(Prim.ev (.cell 6 5) [x,y]).bind fun a5=>k a0 a1 a2 a3 a4 a5
theorem Y6_s (x y:T) (k:T→T→T→T→T→T→Option (List T)):Y6 x y k=(Prim.ev .bnd [x,y]).bind fun _=>(Prim.ev (.cell 6 0) [x,y]).bind fun a0=>(Prim.ev (.cell 6 1) [x,y]).bind fun a1=>(Prim.ev (.cell 6 2) [x,y]).bind fun a2=>(Prim.ev (.cell 6 3) [x,y]).bind fun a3=>(Prim.ev (.cell 6 4) [x,y]).bind fun a4=>(Prim.ev (.cell 6 5) [x,y]).bind fun a5=>k a0 a1 a2 a3 a4 a5:=rfl
def Y8 (x y:T) (k:T→T→T→T→T→T→T→T→Option (List T)):Option (List T):=(Prim.ev .bnd [x,y]).bind fun _=>(Prim.ev (.cell 8 0) [x,y]).bind fun a0=>(Prim.ev (.cell 8 1) [x,y]).bind fun a1=>(Prim.ev (.cell 8 2) [x,y]).bind fun a2=>(Prim.ev (.cell 8 3) [x,y]).bind fun a3=>(Prim.ev (.cell 8 4) [x,y]).bind fun a4=>(Prim.ev (.cell 8 5) [x,y]).bind fun a5=>(Prim.ev (.cell 8 6) [x,y]).bind fun a6=>(Prim.ev (.cell 8 7) [x,y]).bind fun a7=>k a0 a1 a2 a3 a4 a5 a6 a7
theorem Y8_s (x y:T) (k:T→T→T→T→T→T→T→T→Option (List T)):Y8 x y k=(Prim.ev .bnd [x,y]).bind fun _=>(Prim.ev (.cell 8 0) [x,y]).bind fun a0=>(Prim.ev (.cell 8 1) [x,y]).bind fun a1=>(Prim.ev (.cell 8 2) [x,y]).bind fun a2=>(Prim.ev (.cell 8 3) [x,y]).bind fun a3=>(Prim.ev (.cell 8 4) [x,y]).bind fun a4=>(Prim.ev (.cell 8 5) [x,y]).bind fun a5=>(Prim.ev (.cell 8 6) [x,y]).bind fun a6=>(Prim.ev (.cell 8 7) [x,y]).bind fun a7=>k a0 a1 a2 a3 a4 a5 a6 a7:=rfl
def jn (k:Sem1) (b:Sem1→Option (List T)):Option (List T):=b k
def cl1 (o:Option (List T)) (k:T→Option (List T)):Option (List T):=o.bind fun ts=>k (ts.getD 0 T.dft)
theorem cl1_s (x0:T) (k:T→Option (List T)):cl1 (some [x0]) k=k x0:=rfl
def ar1 (k:T→Option (List T)):Sem1:=fun ts=>k (ts.getD 0 T.dft)
theorem ar1_s (x0:T) (k:T→Option (List T)):ar1 k [x0]=k x0:=rfl
def cl2 (o:Option (List T)) (k:T→T→Option (List T)):Option (List T):=o.bind fun ts=>k (ts.getD 0 T.dft) (ts.getD 1 T.dft)
theorem cl2_s (x0 x1:T) (k:T→T→Option (List T)):cl2 (some [x0,x1]) k=k x0 x1:=rfl
def ar2 (k:T→T→Option (List T)):Sem1:=fun ts=>k (ts.getD 0 T.dft) (ts.getD 1 T.dft)
theorem ar2_s (x0 x1:T) (k:T→T→Option (List T)):ar2 k [x0,x1]=k x0 x1:=rfl
def cl3 (o:Option (List T)) (k:T→T→T→Option (List T)):Option (List T):=o.bind fun ts=>k (ts.getD 0 T.dft) (ts.getD 1 T.dft) (ts.getD 2 T.dft)
theorem cl3_s (x0 x1 x2:T) (k:T→T→T→Option (List T)):cl3 (some [x0,x1,x2]) k=k x0 x1 x2:=rfl
def ar3 (k:T→T→T→Option (List T)):Sem1:=fun ts=>k (ts.getD 0 T.dft) (ts.getD 1 T.dft) (ts.getD 2 T.dft)
theorem ar3_s (x0 x1 x2:T) (k:T→T→T→Option (List T)):ar3 k [x0,x1,x2]=k x0 x1 x2:=rfl
def cl4 (o:Option (List T)) (k:T→T→T→T→Option (List T)):Option (List T):=o.bind fun ts=>k (ts.getD 0 T.dft) (ts.getD 1 T.dft) (ts.getD 2 T.dft) (ts.getD 3 T.dft)
theorem cl4_s (x0 x1 x2 x3:T) (k:T→T→T→T→Option (List T)):cl4 (some [x0,x1,x2,x3]) k=k x0 x1 x2 x3:=rfl
def ar4 (k:T→T→T→T→Option (List T)):Sem1:=fun ts=>k (ts.getD 0 T.dft) (ts.getD 1 T.dft) (ts.getD 2 T.dft) (ts.getD 3 T.dft)
theorem ar4_s (x0 x1 x2 x3:T) (k:T→T→T→T→Option (List T)):ar4 k [x0,x1,x2,x3]=k x0 x1 x2 x3:=rfl
def ar5 (k:T→T→T→T→T→Option (List T)):Sem1:=fun ts=>k (ts.getD 0 T.dft) (ts.getD 1 T.dft) (ts.getD 2 T.dft) (ts.getD 3 T.dft) (ts.getD 4 T.dft)
theorem ar5_s (x0 x1 x2 x3 x4:T) (k:T→T→T→T→T→Option (List T)):ar5 k [x0,x1,x2,x3,x4]=k x0 x1 x2 x3 x4:=rfl
def cl6 (o:Option (List T)) (k:T→T→T→T→T→T→Option (List T)):Option (List T):=o.bind fun ts=>k (ts.getD 0 T.dft) (ts.getD 1 T.dft) (ts.getD 2 T.dft) (ts.getD 3 T.dft) (ts.getD 4 T.dft) (ts.getD 5 T.dft)
theorem cl6_s (x0 x1 x2 x3 x4 x5:T) (k:T→T→T→T→T→T→Option (List T)):cl6 (some [x0,x1,x2,x3,x4,x5]) k=k x0 x1 x2 x3 x4 x5:=rfl
def ar6 (k:T→T→T→T→T→T→Option (List T)):Sem1:=fun ts=>k (ts.getD 0 T.dft) (ts.getD 1 T.dft) (ts.getD 2 T.dft) (ts.getD 3 T.dft) (ts.getD 4 T.dft) (ts.getD 5 T.dft)
theorem ar6_s (x0 x1 x2 x3 x4 x5:T) (k:T→T→T→T→T→T→Option (List T)):ar6 k [x0,x1,x2,x3,x4,x5]=k x0 x1 x2 x3 x4 x5:=rfl
def cl7 (o:Option (List T)) (k:T→T→T→T→T→T→T→Option (List T)):Option (List T):=o.bind fun ts=>k (ts.getD 0 T.dft) (ts.getD 1 T.dft) (ts.getD 2 T.dft) (ts.getD 3 T.dft) (ts.getD 4 T.dft) (ts.getD 5 T.dft) (ts.getD 6 T.dft)
theorem cl7_s (x0 x1 x2 x3 x4 x5 x6:T) (k:T→T→T→T→T→T→T→Option (List T)):cl7 (some [x0,x1,x2,x3,x4,x5,x6]) k=k x0 x1 x2 x3 x4 x5 x6:=rfl
def ar7 (k:T→T→T→T→T→T→T→Option (List T)):Sem1:=fun ts=>k (ts.getD 0 T.dft) (ts.getD 1 T.dft) (ts.getD 2 T.dft) (ts.getD 3 T.dft) (ts.getD 4 T.dft) (ts.getD 5 T.dft) (ts.getD 6 T.dft)
theorem ar7_s (x0 x1 x2 x3 x4 x5 x6:T) (k:T→T→T→T→T→T→T→Option (List T)):ar7 k [x0,x1,x2,x3,x4,x5,x6]=k x0 x1 x2 x3 x4 x5 x6:=rfl
def cl8 (o:Option (List T)) (k:T→T→T→T→T→T→T→T→Option (List T)):Option (List T):=o.bind fun ts=>k (ts.getD 0 T.dft) (ts.getD 1 T.dft) (ts.getD 2 T.dft) (ts.getD 3 T.dft) (ts.getD 4 T.dft) (ts.getD 5 T.dft) (ts.getD 6 T.dft) (ts.getD 7 T.dft)
theorem cl8_s (x0 x1 x2 x3 x4 x5 x6 x7:T) (k:T→T→T→T→T→T→T→T→Option (List T)):cl8 (some [x0,x1,x2,x3,x4,x5,x6,x7]) k=k x0 x1 x2 x3 x4 x5 x6 x7:=rfl
def cl9 (o:Option (List T)) (k:T→T→T→T→T→T→T→T→T→Option (List T)):Option (List T):=o.bind fun ts=>k (ts.getD 0 T.dft) (ts.getD 1 T.dft) (ts.getD 2 T.dft) (ts.getD 3 T.dft) (ts.getD 4 T.dft) (ts.getD 5 T.dft) (ts.getD 6 T.dft) (ts.getD 7 T.dft) (ts.getD 8 T.dft)
theorem cl9_s (x0 x1 x2 x3 x4 x5 x6 x7 x8:T) (k:T→T→T→T→T→T→T→T→T→Option (List T)):cl9 (some [x0,x1,x2,x3,x4,x5,x6,x7,x8]) k=k x0 x1 x2 x3 x4 x5 x6 x7 x8:=rfl
theorem jn_s (k:Sem1) (b:Sem1→Option (List T)):jn k b=b k:=rfl
def PL.arity (j:Nat):PL→Option Nat
 | .ret _=>none
 | .ins _ k=>k.arity j
 | .ite _ x y=>match x.arity j with | some n=>some n | none=>y.arity j
 | .loop _ b=>b.arity (j+1)
 | .join k b=>match k.arity j with | some n=>some n | none=>b.arity (j+1)
 | .go i xs=>bif Nat.beq i j then some xs.length else none
 | .dbg _ _=>none
def PL.den2 (S:Nat→Sem1) (R:Nat) (K:List Sem1) (ρ:List T):PL→Option (List T)
 | .ret xs=>some (xs.map (Lf.ev ρ))
 | .ins (.pr p xs) k=>(p.ev (xs.map (Lf.ev ρ))).bind fun t=>k.den2 S R K (ρ++[t])
 | .ins (.cl g xs m) k=>(S g (xs.map (Lf.ev ρ))).bind fun ts=>k.den2 S R K (ρ++pickN ts 0 m)
 | .ite c x y=>ifT (ρ.getD c T.dft) (x.den2 S R K ρ) (y.den2 S R K ρ)
 | .loop xs body=>iter (fun self ts=>body.den2 S R (self :: K) (ρ++pickN ts 0 xs.length)) R (xs.map (Lf.ev ρ))
 | .join k body=>jn (fun ts=>k.den2 S R K (ρ++pickN ts 0 ((body.arity 0).getD 0))) fun f=>body.den2 S R (f :: K) ρ
 | .go j xs=>match K[j]? with
  | some f=>f (xs.map (Lf.ev ρ))
  | none=>none
 | .dbg _ _=>none
def PL.wf (ar:List Nat):PL→Bool
 | .ret _=>true
 | .ins _ k=>k.wf ar
 | .ite _ x y=>x.wf ar && y.wf ar
 | .loop xs b=>b.wf (xs.length :: ar)
 | .join k b=>k.wf ar && b.wf ((b.arity 0).getD 0 :: ar)
 | .go j xs=>match ar[j]? with | some m=>Nat.beq m xs.length | none=>false
 | .dbg _ _=>true
theorem pickN_app:∀ (ts us:List T),pickN (us++ts) us.length ts.length=ts
 | [],us=>rfl
 | t :: ts,us=>by
  have h:=pickN_app ts (us++[t])
  rw [List.append_assoc,List.length_append] at h
  simp only [List.length_cons,pickN]
  refine congr (congrArg _ ?_) h
  simp
theorem pickN_self (ts:List T) {m:Nat} (h:ts.length=m):pickN ts 0 m=ts:=by
 subst h;exact pickN_app ts []
theorem iter_len {F G:Sem1→Sem1} {m:Nat} (h:∀ s s',(∀ ts:List T,ts.length=m→s ts=s' ts)→∀ ts:List T,ts.length=m→F s ts=G s' ts):∀ R (ts:List T),ts.length=m→iter F R ts=iter G R ts
 | 0,_,_=>rfl
 | R+1,ts,ht=>by
  unfold iter
  exact h _ _ (iter_len h R) ts ht
theorem den2_eq (S:Nat→Sem1) (R:Nat):∀ (p:PL) (ar:List Nat) (K K':List Sem1) (ρ:List T),p.wf ar=true →
  (∀ (j m:Nat),ar[j]?=some m→∃ f f':Sem1,K[j]?=some f∧K'[j]?=some f'∧∀ ts:List T,ts.length=m→f ts=f' ts)→p.den S R K ρ=p.den2 S R K' ρ
 | .ret xs,ar,K,K',ρ,_,_=>by simp only [PL.den,PL.den2]
 | .ins (.pr p xs) k,ar,K,K',ρ,hw,hk=>by
  simp only [PL.den,PL.den2]
  exact congrArg _ (funext fun t=>den2_eq S R k ar K K' _ hw hk)
 | .ins (.cl g xs m) k,ar,K,K',ρ,hw,hk=>by
  simp only [PL.den,PL.den2]
  exact congrArg _ (funext fun t=>den2_eq S R k ar K K' _ hw hk)
 | .ite c x y,ar,K,K',ρ,hw,hk=>by
  simp only [PL.wf,Bool.and_eq_true] at hw
  rw [pl_ite]
  simp only [PL.den2]
  rw [den2_eq S R x ar K K' ρ hw.1 hk,den2_eq S R y ar K K' ρ hw.2 hk]
 | .loop xs b,ar,K,K',ρ,hw,hk=>by
  simp only [PL.den,PL.den2]
  refine iter_len (m:=xs.length) (fun s s' hs ts ht=>?_) R _ (by simp)
  rw [pickN_self ts ht]
  refine den2_eq S R b (xs.length :: ar) _ _ _ hw fun j m hj=>?_
  cases j with
  | zero=>cases hj;exact ⟨s,s',rfl,rfl,hs⟩
  | succ j=>exact hk j m hj
 | .join k b,ar,K,K',ρ,hw,hk=>by
  simp only [PL.wf,Bool.and_eq_true] at hw
  simp only [PL.den,PL.den2,jn]
  refine den2_eq S R b ((b.arity 0).getD 0 :: ar) _ _ _ hw.2 fun j m hj=>?_
  cases j with
  | zero =>
   cases hj
   refine ⟨_,_,rfl,rfl,fun ts ht=>?_⟩
   show PL.den S R K (ρ++ts) k=PL.den2 S R K' (ρ++pickN ts 0 _) k
   rw [pickN_self ts ht]
   exact den2_eq S R k ar K K' _ hw.1 hk
  | succ j=>exact hk j m hj
 | .go j xs,ar,K,K',ρ,hw,hk=>by
  simp only [PL.wf] at hw
  cases hm:ar[j]? with
  | none=>rw [hm] at hw;exact absurd hw (by simp)
  | some m =>
   rw [hm] at hw
   have hm':=Nat.eq_of_beq_eq_true hw
   obtain ⟨f,f',h1,h2,h3⟩:=hk j m hm
   simp only [PL.den,PL.den2,h1,h2]
   exact h3 _ (by simp [hm'])
 | .dbg _ _,ar,K,K',ρ,_,_=>by simp only [PL.den,PL.den2]
theorem den2_of {S:Nat→Sem1} {R:Nat} {p:PL} {ρ:List T} (h:p.wf []=true):p.den S R [] ρ=p.den2 S R [] ρ :=
 den2_eq S R p [] [] [] ρ h fun j m hj=>by simp at hj
end Go.Proofs.YtbhplkilhknciaaDoorC

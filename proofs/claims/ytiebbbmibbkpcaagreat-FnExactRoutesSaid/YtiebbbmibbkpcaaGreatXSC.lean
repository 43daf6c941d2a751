/- What the functions of nodes and worlds' tests compute. Conditions: none. -/
import Derived.Test.YtiebbbmibbkpcaaGreatXSB
namespace Go.Proofs.YtiebbbmibbkpcaaGreatC
open Int (reduceLE reduceLT reduceEq reduceGT reduceGE reduceAdd reduceSub reduceMul reduceNeg)
set_option linter.unusedVariables false
set_option linter.unusedSimpArgs false
theorem asc_bound (f:Nat→Int):∀ (n:Nat),(∀ k,k+1 < n→f k < f (k+1))→∀ k,k < n→f 0+k≤f k
 | n,h,0,_=>by simp
 | n,h,k+1,hk=>by
  have:=asc_bound f n h k (by omega)
  have:=h k hk
  omega
theorem pairs_few {n:Int} {ls:List Link} (h:ascB (linkOk n) linkLt ls=true) {id:Int} {hd:List Int} (hp:pairsB (fun v a=>decide (0≤findP (joins id v a) ls)) hd=true):hd.length / 2≤18:=by
 have hk:=fun k hk=>allB_iff.1 hp k hk
 have hj:∀ k,k < hd.length / 2→1≤gt hd (2 * k:Int)∧gt hd (2 * k:Int)≤6∧0≤gt hd (2 * k+1:Int)∧gt hd (2 * k+1:Int)≤2:=by
  intro k hk'
  have h1:=hk k hk'
  simp only [Bool.and_eq_true,decide_eq_true_eq] at h1
  have h2:=findP_spec _ _ h1.1
  have h3:=findP_lt (joins id (gt hd (2 * k:Int)) (gt hd (2 * k+1:Int))) ls
  have h4:=allB_iff.1 h (findP (joins id (gt hd (2 * k:Int)) (gt hd (2 * k+1:Int))) ls).toNat (by omega)
  rw [show (((findP (joins id (gt hd (2 * k:Int)) (gt hd (2 * k+1:Int))) ls).toNat:Nat):Int)=findP (joins id (gt hd (2 * k:Int)) (gt hd (2 * k+1:Int))) ls by omega] at h4
  simp only [joins,Bool.and_eq_true,Bool.or_eq_true,beq_iff_eq] at h2
  simp only [Bool.and_eq_true,linkOk,inB_iff,decide_eq_true_eq] at h4
  omega
 rcases Nat.eq_zero_or_pos (hd.length / 2) with h0 | h0
 ·omega
 have:=asc_bound (fun k=>3 * gt hd (2 * k:Int)+gt hd (2 * k+1:Int)) (hd.length / 2) (fun k hk'=>?_) (hd.length / 2 - 1) (by omega)
 ·have h1:=hj 0 (by omega)
  have h2:=hj (hd.length / 2 - 1) (by omega)
  omega
 ·have h1:=hk (k+1) hk'
  have h2:=hj k (by omega)
  have h3:=hj (k+1) hk'
  simp only [Bool.and_eq_true,Bool.or_eq_true,decide_eq_true_eq,Bool.not_eq_true',decide_eq_false_iff_not] at h1
  simp only [cast_add,cast_1,show (2:Int) * ((k:Int)+1)=2 * k+2 by omega] at h1 h3 ⊢
  simp only [show (2:Int) * k+2 - 2=2 * k by omega,show (2:Int) * k+2 - 1=2 * k+1 by omega] at h1
  omega
def selfOk (x:Self):Bool:=netOk x.net && (inB x.id 1 x.net.n && (inB x.boot 0 90 && (decide (x.heard.length % 2=0) && pairsB (fun v a=>decide (0≤findP (joins x.id v a) x.net.links)) x.heard && storeOk x.store)))
theorem e_i_SelfOk (id boot n:Int) (ls:List Link) (ts:List Thing) (hd:List Int) (st:List Rcd) (h1:ls.length≤1048576) (h2:ts.length≤1048576) (h3:hd.length≤1048576) (h4:st.length≤1048576) (h5:NearL st) :
  F_i_SelfOk [ii id,ii boot,ii n,.l (ls.map eLink),.l (ts.map eThing),.l (hd.map eInt),.l (st.map eRcd)]=some [bb (selfOk ⟨id,boot,⟨n,ls,ts⟩,hd,st⟩)]:=by
 rw [g_i_SelfOk];simp (disch:=omega) only [↓pq,ps,pz,↓reduceIte,reduceLE,reduceLT,reduceEq,reduceGT,reduceGE,reduceAdd,reduceSub,reduceMul,reduceNeg,G_i_SelfOk,e_i_NetOk,e_i_in,e_i_heardOk,e_i_StoreOk _ h4 h5,ite_bb];unfold selfOk
 grind
theorem e_s_SelfOk (id boot n:Int) (ls:List Link) (ts:List Thing) (hd:List Int) (st:List Rcd) (h1:ls.length≤1048576) (h2:ts.length≤1048576) (h3:hd.length≤1048576) (h4:st.length≤1048576) (h5:NearL st) :
  F_s_SelfOk [ii id,ii boot,ii n,.l (ls.map eLink),.l (ts.map eThing),.l (hd.map eInt),.l (st.map eRcd)]=some [bb (selfOk ⟨id,boot,⟨n,ls,ts⟩,hd,st⟩)]:=by
 rw [g_s_SelfOk];simp (disch:=omega) only [↓pq,ps,pz,↓reduceIte,reduceLE,reduceLT,reduceEq,reduceGT,reduceGE,reduceAdd,reduceSub,reduceMul,reduceNeg,G_s_SelfOk,e_s_NetOk,e_s_l01In,e_s_l08Heard,e_s_StoreOk _ h4 h5,ite_bb]
 have key:netOk ⟨n,ls,ts⟩=true→(decide (hd.length≤60) && pairsB (fun v a=>!decide (costTo ls id v a=0)) hd)=pairsB (fun v a=>decide (0≤findP (joins id v a) ls)) hd:=by
  intro hn
  have hl:ascB (linkOk n) linkLt ls=true:=by simp only [netOk,Bool.and_eq_true] at hn;exact hn.1.2
  have he:(fun v a=>!decide (costTo ls id v a=0))=fun v a=>decide (0≤findP (joins id v a) ls):=by
   funext v a
   have:=costTo_zero hl id v a
   by_cases hc:costTo ls id v a=0 <;> simp [hc] <;> omega
  rw [he]
  cases hp:pairsB (fun v a=>decide (0≤findP (joins id v a) ls)) hd with
  | false=>simp
  | true=>have:=pairs_few hl hp;simp;omega
 unfold selfOk
 grind
def intsEq (a b:List Int):Bool:=decide ((a.length:Int)=b.length) && allB a.length fun i=>decide (gt a i=gt b i)
theorem intsEq_iff {a b:List Int}:intsEq a b=true↔a=b:=by
 simp only [intsEq,Bool.and_eq_true,decide_eq_true_eq,allB_iff]
 constructor
 ·rintro ⟨h1,h2⟩
  refine List.ext_getElem (by omega) fun i hi hj=>?_
  have:=h2 i hi
  rwa [gt_elem hi,gt_elem hj] at this
 ·rintro rfl
  exact ⟨rfl,fun _ _=>rfl⟩
theorem e_i_sameInts (a b:List Int) (h:a.length≤1048576):F_i_sameInts [.l (a.map eInt),.l (b.map eInt)]=some [bb (intsEq a b)]:=by
 rw [g_i_sameInts];simp (disch:=omega) only [↓pq,ps,pz,↓reduceIte,reduceLE,reduceLT,reduceEq,reduceGT,reduceGE,reduceAdd,reduceSub,reduceMul,reduceNeg,G_i_sameInts_l0,G_i_sameInts]
 by_cases hl:(a.length:Int)=b.length
 ·simp only [hl,not_true_eq_false,if_false]
  refine (iter_allx a.length (fun i=>[bb false,ii i]) (fun i=>decide (gt a i=gt b i)) (outF:=some [bb false]) (outT:=some [bb true]) rfl (rounds_lt h) ?_ ?_).trans (ite_bb _ _ _ |>.trans (by unfold intsEq;simp [hl]))
  ·intro i hi s
   have hi':=hl ▸ hi
   simp (disch:=omega) only [↓pq,ps,pz,↓reduceIte,reduceLE,reduceLT,reduceEq,reduceGT,reduceGE,reduceAdd,reduceSub,reduceMul,reduceNeg,G_i_sameInts_l0,hi,hi']
   grind
  ·intro s
   simp (disch:=omega) only [↓pq,ps,pz,↓reduceIte,reduceLE,reduceLT,reduceEq,reduceGT,reduceGE,reduceAdd,reduceSub,reduceMul,reduceNeg,G_i_sameInts_l0,hl]
 ·unfold intsEq;simp [hl]
theorem e_s_l10SameInts (a b:List Int) (h:a.length≤1048576):F_s_l10SameInts [.l (a.map eInt),.l (b.map eInt)]=some [bb (intsEq a b)]:=by
 rw [g_s_l10SameInts];simp (disch:=omega) only [↓pq,ps,pz,↓reduceIte,reduceLE,reduceLT,reduceEq,reduceGT,reduceGE,reduceAdd,reduceSub,reduceMul,reduceNeg,G_s_l10SameInts_l0,G_s_l10SameInts]
 by_cases hl:(a.length:Int)=b.length
 ·simp only [hl,not_true_eq_false,if_false]
  refine (iter_allx a.length (fun i=>[bb false,ii i]) (fun i=>decide (gt a i=gt b i)) (outF:=some [bb false]) (outT:=some [bb true]) rfl (rounds_lt h) ?_ ?_).trans (ite_bb _ _ _ |>.trans (by unfold intsEq;simp [hl]))
  ·intro i hi s
   have hi':=hl ▸ hi
   simp (disch:=omega) only [↓pq,ps,pz,↓reduceIte,reduceLE,reduceLT,reduceEq,reduceGT,reduceGE,reduceAdd,reduceSub,reduceMul,reduceNeg,G_s_l10SameInts_l0,hi,hi']
   grind
  ·intro s
   simp (disch:=omega) only [↓pq,ps,pz,↓reduceIte,reduceLE,reduceLT,reduceEq,reduceGT,reduceGE,reduceAdd,reduceSub,reduceMul,reduceNeg,G_s_l10SameInts_l0,hl]
 ·unfold intsEq;simp [hl]
def heardStep (c:List Int) (e:Ear):List Int:=if e.both=true then c++[e.node,e.area] else c
def heardBy (l:List Ear):List Int:=l.foldl heardStep []
theorem heardStep_len (c:List Int) (e:Ear):(heardStep c e).length≤c.length+2:=by
 unfold heardStep;split <;> simp
theorem heardBy_len (l:List Ear):(heardBy l).length≤2 * l.length :=
 foldl_inv (Inv:=fun i (c:List Int)=>c.length≤2 * i) (by simp) fun i c hi hc=>by have:=heardStep_len c (gt l i);omega
theorem e_i_heardBy (l:List Ear) (h:l.length≤1048576):F_i_heardBy [.l (l.map eEar)]=some [.l ((heardBy l).map eInt)]:=by
 rw [g_i_heardBy];simp (disch:=omega) only [↓pq,ps,pz,↓reduceIte,reduceLE,reduceLT,reduceEq,reduceGT,reduceGE,reduceAdd,reduceSub,reduceMul,reduceNeg,G_i_heardBy_l0,G_i_heardBy]
 refine iter_foldlx l (fun i c=>[.l (c.map eInt),ii i]) heardStep (fun c=>some [T.l (c.map eInt)]) [] (fun i c=>c.length≤2 * i) rfl (rounds_lt h) (by simp) ?_ ?_
 ·intro i c hi hc
  have hl:=heardStep_len c (gt l i)
  refine ⟨by omega,fun s=>?_⟩
  simp (disch:=omega) only [↓pq,ps,pz,↓reduceIte,reduceLE,reduceLT,reduceEq,reduceGT,reduceGE,reduceAdd,reduceSub,reduceMul,reduceNeg,G_i_heardBy_l0,hi]
  unfold heardStep
  split <;> rfl
 ·intro c s hc
  simp (disch:=omega) only [↓pq,ps,pz,↓reduceIte,reduceLE,reduceLT,reduceEq,reduceGT,reduceGE,reduceAdd,reduceSub,reduceMul,reduceNeg,G_i_heardBy_l0,]
theorem e_s_l10Heard (l:List Ear) (h:l.length≤1048576):F_s_l10Heard [.l (l.map eEar)]=some [.l ((heardBy l).map eInt)]:=by
 rw [g_s_l10Heard];simp (disch:=omega) only [↓pq,ps,pz,↓reduceIte,reduceLE,reduceLT,reduceEq,reduceGT,reduceGE,reduceAdd,reduceSub,reduceMul,reduceNeg,G_s_l10Heard_l0,G_s_l10Heard]
 refine iter_foldlx l (fun i c=>[.l (c.map eInt),ii i]) heardStep (fun c=>some [T.l (c.map eInt)]) [] (fun i c=>c.length≤2 * i) rfl (rounds_lt h) (by simp) ?_ ?_
 ·intro i c hi hc
  have hl:=heardStep_len c (gt l i)
  refine ⟨by omega,fun s=>?_⟩
  simp (disch:=omega) only [↓pq,ps,pz,↓reduceIte,reduceLE,reduceLT,reduceEq,reduceGT,reduceGE,reduceAdd,reduceSub,reduceMul,reduceNeg,G_s_l10Heard_l0,hi]
  unfold heardStep
  split <;> rfl
 ·intro c s hc
  simp (disch:=omega) only [↓pq,ps,pz,↓reduceIte,reduceLE,reduceLT,reduceEq,reduceGT,reduceGE,reduceAdd,reduceSub,reduceMul,reduceNeg,G_s_l10Heard_l0,]
def earStep (ls:List Link) (id:Int) (v:Nat) (c:List Ear) (a:Nat):List Ear:=if 0≤findP (joins id (v+1) a) ls then c++[⟨v+1,a,0,false⟩] else c
def earRow (ls:List Link) (id:Int) (c:List Ear) (v:Nat):List Ear:=(List.range 3).foldl (earStep ls id v) c
def earsOf (ls:List Link) (id n:Int):List Ear:=(List.range n.toNat).foldl (earRow ls id) []
theorem earStep_len (ls:List Link) (id:Int) (v:Nat) (c:List Ear) (a:Nat):(earStep ls id v c a).length≤c.length+1:=by
 unfold earStep;split <;> simp
theorem earRow_len (ls:List Link) (id:Int) (c:List Ear) (v:Nat):(earRow ls id c v).length≤c.length+3:=by
 unfold earRow
 have h1:=earStep_len ls id v c 0
 have h2:=earStep_len ls id v (earStep ls id v c 0) 1
 have h3:=earStep_len ls id v (earStep ls id v (earStep ls id v c 0) 1) 2
 show (earStep ls id v (earStep ls id v (earStep ls id v c 0) 1) 2).length≤_
 omega
theorem e_i_earsOf (n:Int) (ls:List Link) (t2:T) (id:Int) (h:n≤6) (h1:ls.length≤1048576):F_i_earsOf [ii n,.l (ls.map eLink),t2,ii id]=some [.l ((earsOf ls id n).map eEar)]:=by
 rw [g_i_earsOf];simp only [G_i_earsOf]
 refine iter_uptox n.toNat (fun i c=>[.l (c.map eEar),ii (i+1)]) (earRow ls id) (fun c=>some [T.l (c.map eEar)]) [] (fun i c=>c.length≤3 * i) rfl (rounds_lt (by omega)) (by simp) ?_ ?_
 ·intro i c hi hc
  have hl:=earRow_len ls id c i
  refine ⟨by omega,fun s=>?_⟩
  have hi':(i:Int)+1≤n:=by omega
  simp (disch:=omega) only [↓pq,ps,pz,↓reduceIte,reduceLE,reduceLT,reduceEq,reduceGT,reduceGE,reduceAdd,reduceSub,reduceMul,reduceNeg,G_i_earsOf_l0,G_i_earsOf_l1,hi']
  refine iter_uptox 3 (fun a c=>[.l (c.map eEar),ii a]) (earStep ls id i) (fun c=>s [T.l (c.map eEar),ii ((i+1:Nat)+1)]) c (fun a c=>c.length≤3 * i+a) rfl (by unfold rounds;omega) (by omega) ?_ ?_
  ·intro a c ha hc
   have hl:=earStep_len ls id i c a
   refine ⟨by omega,fun s=>?_⟩
   have ha':(a:Int)≤2:=by omega
   simp (disch:=omega) only [↓pq,ps,pz,↓reduceIte,reduceLE,reduceLT,reduceEq,reduceGT,reduceGE,reduceAdd,reduceSub,reduceMul,reduceNeg,G_i_earsOf_l0,G_i_earsOf_l1,ha',e_i_linkAt]
   unfold earStep
   split <;> rfl
  ·intro c s' hc
   simp (disch:=omega) only [↓pq,ps,pz,↓reduceIte,reduceLE,reduceLT,reduceEq,reduceGT,reduceGE,reduceAdd,reduceSub,reduceMul,reduceNeg,G_i_earsOf_l0,G_i_earsOf_l1,]
 ·intro c s hc
  have hi':¬ ((n.toNat:Int)+1≤n):=by omega
  simp (disch:=omega) only [↓pq,ps,pz,↓reduceIte,reduceLE,reduceLT,reduceEq,reduceGT,reduceGE,reduceAdd,reduceSub,reduceMul,reduceNeg,G_i_earsOf_l0,G_i_earsOf_l1,hi']
def earOk (want e:Ear):Bool:=decide (e.node=want.node) && (decide (e.area=want.area) && (inB e.left 0 3 && !(e.both && decide (e.left=0))))
def earsPre (ears want:List Ear):Bool:=decide (want.length≤ears.length) && allB want.length fun i=>earOk (gt want i) (gt ears i)
def earsOk (ears want:List Ear):Bool:=decide ((want.length:Int)=ears.length) && allB ears.length fun i=>earOk (gt want i) (gt ears i)
def nodeOk (x:Node):Bool:=selfOk x.self && (earsOk x.ears (earsOf x.self.net.links x.self.id x.self.net.n) && intsEq (heardBy x.ears) x.self.heard)
theorem selfOk_n {x:Self} (h:selfOk x=true):1≤x.net.n∧x.net.n≤6:=by
 simp only [selfOk,netOk,Bool.and_eq_true,inB_iff] at h
 exact h.1.1.1.1.1
theorem earsOf_len (ls:List Link) (id n:Int) (h:n≤6):(earsOf ls id n).length≤18:=by
 have:=foldl_inv (l:=List.range n.toNat) (g:=earRow ls id) (c:=[]) (Inv:=fun i (c:List Ear)=>c.length≤3 * i) (by simp) (fun i c hi hc=>by have:=earRow_len ls id c (gt (List.range n.toNat) i);omega)
 simp only [List.length_range] at this
 unfold earsOf
 omega
theorem e_i_NodeOk (id boot n:Int) (ls:List Link) (ts:List Thing) (hd:List Int) (st:List Rcd) (es:List Ear) (h1:ls.length≤1048576) (h2:ts.length≤1048576) (h3:hd.length≤1048576) (h4:st.length≤1048576) (h5:NearL st) (h6:es.length≤1048576) :
  F_i_NodeOk [ii id,ii boot,ii n,.l (ls.map eLink),.l (ts.map eThing),.l (hd.map eInt),.l (st.map eRcd),.l (es.map eEar)]=some [bb (nodeOk ⟨⟨id,boot,⟨n,ls,ts⟩,hd,st⟩,es⟩)]:=by
 rw [g_i_NodeOk];simp (disch:=omega) only [↓pq,ps,pz,↓reduceIte,reduceLE,reduceLT,reduceEq,reduceGT,reduceGE,reduceAdd,reduceSub,reduceMul,reduceNeg,G_i_NodeOk_l0,G_i_NodeOk,e_i_SelfOk _ _ _ _ _ _ _ h1 h2 h3 h4 h5]
 cases hs:selfOk ⟨id,boot,⟨n,ls,ts⟩,hd,st⟩ with
 | false=>simp [nodeOk,hs]
 | true =>
  have hn:1≤n∧n≤6:=selfOk_n hs
  have hw:=earsOf_len ls id n hn.2
  have hb:=heardBy_len es
  simp only [not_true_eq_false,if_false]
  simp (disch:=omega) only [↓pq,ps,pz,↓reduceIte,reduceLE,reduceLT,reduceEq,reduceGT,reduceGE,reduceAdd,reduceSub,reduceMul,reduceNeg,G_i_NodeOk_l0,e_i_earsOf n ls _ id hn.2 h1]
  by_cases hl:((earsOf ls id n).length:Int)=es.length
  ·simp only [hl,not_true_eq_false,if_false]
   refine (iter_allx es.length (fun i=>[bb false,ii i]) (fun i=>earOk (gt (earsOf ls id n) i) (gt es i)) (outF:=some [bb false]) (outT:=some [bb (intsEq (heardBy es) hd)]) rfl (rounds_lt h6) ?_ ?_).trans (ite_bb _ _ _ |>.trans ?_)
   ·intro i hi s
    have hi':=hl ▸ hi
    simp (disch:=omega) only [↓pq,ps,pz,↓reduceIte,reduceLE,reduceLT,reduceEq,reduceGT,reduceGE,reduceAdd,reduceSub,reduceMul,reduceNeg,G_i_NodeOk_l0,hi,e_i_in]
    unfold earOk
    grind
   ·intro s
    simp (disch:=omega) only [↓pq,ps,pz,↓reduceIte,reduceLE,reduceLT,reduceEq,reduceGT,reduceGE,reduceAdd,reduceSub,reduceMul,reduceNeg,G_i_NodeOk_l0,e_i_heardBy _ h6,e_i_sameInts]
   ·unfold nodeOk earsOk
    simp [hs,hl]
  ·simp only [hl,not_false_eq_true,if_true]
   simp [nodeOk,earsOk,hl]
theorem earStep_pre {ls:List Link} {id:Int} {v:Nat} {es c:List Ear} {a:Nat} (h:earsPre es (earStep ls id v c a)=true):earsPre es c=true:=by
 unfold earStep at h
 split at h
 ·simp only [earsPre,Bool.and_eq_true,decide_eq_true_eq,List.length_append,List.length_singleton,allB_iff] at h ⊢
  refine ⟨by omega,fun i hi=>?_⟩
  have:=h.2 i (by omega)
  rwa [gt_elem (by simp;omega),List.getElem_append_left hi,← gt_elem hi] at this
 ·exact h
theorem earRow_pre {ls:List Link} {id:Int} {v:Nat} {es c:List Ear} (h:earsPre es (earRow ls id c v)=true):earsPre es c=true :=
 earStep_pre (earStep_pre (earStep_pre (show earsPre es (earStep ls id v (earStep ls id v (earStep ls id v c 0) 1) 2)=true from h)))
theorem earsPre_snoc {es c:List Ear} {w:Ear} (hc:earsPre es c=true):earsPre es (c++[w])=(decide (c.length < es.length) && earOk w (gt es c.length)):=by
 simp only [earsPre,Bool.and_eq_true,decide_eq_true_eq,allB_iff] at hc
 rw [Bool.eq_iff_iff]
 simp only [earsPre,Bool.and_eq_true,decide_eq_true_eq,List.length_append,List.length_singleton,allB_iff]
 constructor
 ·rintro ⟨h1,h2⟩
  refine ⟨by omega,?_⟩
  have:=h2 c.length (by omega)
  rwa [gt_elem (by simp),List.getElem_append_right (Nat.le_refl _),List.getElem_singleton] at this
 ·rintro ⟨h1,h2⟩
  refine ⟨by omega,fun i hi=>?_⟩
  rcases Nat.lt_or_ge i c.length with h | h
  ·rw [gt_elem (by simp;omega),List.getElem_append_left h,← gt_elem h]
   exact hc.2 i h
  ·have:i=c.length:=by omega
   subst this
   rwa [gt_elem (by simp),List.getElem_append_right (Nat.le_refl _),List.getElem_singleton]
theorem e_s_NodeOk (id boot n:Int) (ls:List Link) (ts:List Thing) (hd:List Int) (st:List Rcd) (es:List Ear) (h1:ls.length≤1048576) (h2:ts.length≤1048576) (h3:hd.length≤1048576) (h4:st.length≤1048576) (h5:NearL st) (h6:es.length≤1048576) :
  F_s_NodeOk [ii id,ii boot,ii n,.l (ls.map eLink),.l (ts.map eThing),.l (hd.map eInt),.l (st.map eRcd),.l (es.map eEar)]=some [bb (nodeOk ⟨⟨id,boot,⟨n,ls,ts⟩,hd,st⟩,es⟩)]:=by
 rw [g_s_NodeOk];simp (disch:=omega) only [↓pq,ps,pz,↓reduceIte,reduceLE,reduceLT,reduceEq,reduceGT,reduceGE,reduceAdd,reduceSub,reduceMul,reduceNeg,G_s_NodeOk_l0,G_s_NodeOk_l1,G_s_NodeOk,e_s_SelfOk _ _ _ _ _ _ _ h1 h2 h3 h4 h5]
 cases hs:selfOk ⟨id,boot,⟨n,ls,ts⟩,hd,st⟩ with
 | false=>simp [nodeOk,hs]
 | true =>
  have hn:1≤n∧n≤6:=selfOk_n hs
  have hw:=earsOf_len ls id n hn.2
  have hb:=heardBy_len es
  have hz:ascB (linkOk n) linkLt ls=true:=by simp only [selfOk,netOk,Bool.and_eq_true] at hs;exact hs.1.1.2
  simp only [not_true_eq_false,if_false]
  have hpre0:earsPre es []=true:=by simp [earsPre,allB]
  refine (iter_runE n.toNat (fun i (c:List Ear)=>[bb false,ii c.length,ii (i+1)]) (fun i c=>earsPre es (earRow ls id c i)) (earRow ls id) (fun c=>if (c.length:Int)=es.length then some [bb (intsEq hd (heardBy es))] else some [bb false]) (outF:=some [bb false]) [] (fun i c=>earsPre es c=true∧c.length≤3 * i) rfl (rounds_lt (by omega)) ⟨hpre0,by simp⟩ ?_ ?_).trans ?_
  ·intro i c hi hc
   refine ⟨fun h=>⟨h,by have:=earRow_len ls id c i;omega⟩,fun s=>?_⟩
   have hi':(i:Int)+1≤n:=by omega
   simp (disch:=omega) only [↓pq,ps,pz,↓reduceIte,reduceLE,reduceLT,reduceEq,reduceGT,reduceGE,reduceAdd,reduceSub,reduceMul,reduceNeg,G_s_NodeOk_l0,G_s_NodeOk_l1,hi']
   refine (iter_runE 3 (fun a (c:List Ear)=>[bb false,ii c.length,ii a]) (fun a c=>earsPre es (earStep ls id i c a)) (earStep ls id i) (fun c=>s [bb false,ii c.length,ii ((i+1:Nat)+1)]) (outF:=some [bb false]) c (fun a c=>earsPre es c=true∧c.length≤3 * i+a) rfl (by unfold rounds;omega) ⟨hc.1,by omega⟩ ?_ ?_).trans ?_
   ·intro a c ha hc
    refine ⟨fun h=>⟨h,by have:=earStep_len ls id i c a;omega⟩,fun s=>?_⟩
    have ha':(a:Int)≤2:=by omega
    have hz':=costTo_zero hz id (i+1) a
    simp (disch:=omega) only [↓pq,ps,pz,↓reduceIte,reduceLE,reduceLT,reduceEq,reduceGT,reduceGE,reduceAdd,reduceSub,reduceMul,reduceNeg,G_s_NodeOk_l0,G_s_NodeOk_l1,ha',e_s_CostTo,e_s_l01In]
    unfold earStep
    by_cases hf:0≤findP (joins id (i+1) a) ls
    ·have hne:¬ (costTo ls id (i+1) a=0):=by omega
     have hlen:=earsPre_snoc (w:=⟨(i:Int)+1,a,0,false⟩) hc.1
     simp only [hf,if_true,hlen,hne,if_false,List.length_append,List.length_singleton,cast_add,cast_1]
     have hcc:((c.length:Int) ≥ es.length)=¬ (c.length < es.length):=by simp only [eq_iff_iff];omega
     unfold earOk
     grind
    ·have hne:costTo ls id (i+1) a=0:=by omega
     simp only [hf,if_false,hc.1,if_true,hne]
   ·intro c s' hc
    simp (disch:=omega) only [↓pq,ps,pz,↓reduceIte,reduceLE,reduceLT,reduceEq,reduceGT,reduceGE,reduceAdd,reduceSub,reduceMul,reduceNeg,G_s_NodeOk_l0,G_s_NodeOk_l1,]
   ·rw [runE_pre (earsPre es) (fun c i=>earStep_pre) (fun i c _ _=>rfl) hc.1]
    have e:(List.range 3).foldl (earStep ls id i) c=earRow ls id c i:=rfl
    rw [e]
    cases hp:earsPre es (earRow ls id c i) with
    | true=>simp only [if_true,cast_add,cast_1]
    | false=>simp
  ·intro c s hc
   have hi':¬ ((n.toNat:Int)+1≤n):=by omega
   simp (disch:=omega) only [↓pq,ps,pz,↓reduceIte,reduceLE,reduceLT,reduceEq,reduceGT,reduceGE,reduceAdd,reduceSub,reduceMul,reduceNeg,G_s_NodeOk_l0,G_s_NodeOk_l1,hi',e_s_l10Heard _ h6,e_s_l10SameInts]
  ·rw [runE_pre (earsPre es) (fun c i=>earRow_pre) (fun i c _ _=>rfl) hpre0]
   have hi2:intsEq hd (heardBy es)=intsEq (heardBy es) hd:=by rw [Bool.eq_iff_iff,intsEq_iff,intsEq_iff];exact eq_comm
   have hk:earsOk es (earsOf ls id n)=(earsPre es (earsOf ls id n) && decide (((earsOf ls id n).length:Int)=es.length)):=by
    unfold earsOk earsPre
    by_cases hl:((earsOf ls id n).length:Int)=es.length
    ·rw [show es.length=(earsOf ls id n).length by omega];simp
    ·simp [hl]
   have e:(List.range n.toNat).foldl (earRow ls id) []=earsOf ls id n:=rfl
   rw [e,hi2]
   unfold nodeOk
   simp only [hs,hk,Bool.true_and]
   by_cases hp:earsPre es (earsOf ls id n)=true
   ·by_cases hl:((earsOf ls id n).length:Int)=es.length <;> simp [hp,hl]
   ·simp [hp]
end Go.Proofs.YtiebbbmibbkpcaaGreatC

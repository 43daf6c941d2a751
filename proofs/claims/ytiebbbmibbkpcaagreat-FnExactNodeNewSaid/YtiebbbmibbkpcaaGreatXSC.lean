/- What the functions of nodes and worlds' tests compute. Conditions: none. -/
import Derived.Test.YtiebbbmibbkpcaaGreatXSB
namespace Go.Proofs.YtiebbbmibbkpcaaGreatC
open Int (reduceLE reduceLT reduceEq reduceGT reduceGE reduceAdd reduceSub reduceMul reduceNeg)
set_option linter.unusedVariables false
set_option linter.unusedSimpArgs false
theorem arx_ (f:Nat→Int):∀ (n:Nat),(∀ k,k+1 < n→f k < f (k+1))→∀ k,k < n→f 0+k≤f k
 | n,h,0,_=>by simp
 | n,h,k+1,hk=>by
  have:=arx_ f n h k (by omega)
  have:=h k hk
  omega
theorem asd_ {n:Int} {ls:List Link} (h:ascB (xq_ n) xH_ ls=true) {id:Int} {hd:List Int} (hp:jf_ (fun v a=>decide (0≤zu_ (yk_ id v a) ls)) hd=true):hd.length / 2≤18:=by
 have hk:=fun k hk=>allB_iff.1 hp k hk
 have hj:∀ k,k < hd.length / 2→1≤gt hd (2 * k:Int)∧gt hd (2 * k:Int)≤6∧0≤gt hd (2 * k+1:Int)∧gt hd (2 * k+1:Int)≤2:=by
  intro k hk'
  have h1:=hk k hk'
  simp only [Bool.and_eq_true,decide_eq_true_eq] at h1
  have h2:=xv_ _ _ h1.1
  have h3:=x7_ (yk_ id (gt hd (2 * k:Int)) (gt hd (2 * k+1:Int))) ls
  have h4:=allB_iff.1 h (zu_ (yk_ id (gt hd (2 * k:Int)) (gt hd (2 * k+1:Int))) ls).toNat (by omega)
  rw [show (((zu_ (yk_ id (gt hd (2 * k:Int)) (gt hd (2 * k+1:Int))) ls).toNat:Nat):Int)=zu_ (yk_ id (gt hd (2 * k:Int)) (gt hd (2 * k+1:Int))) ls by omega] at h4
  simp only [yk_,Bool.and_eq_true,Bool.or_eq_true,beq_iff_eq] at h2
  simp only [Bool.and_eq_true,xq_,inB_iff,decide_eq_true_eq] at h4
  omega
 rcases Nat.eq_zero_or_pos (hd.length / 2) with h0 | h0
 ·omega
 have:=arx_ (fun k=>3 * gt hd (2 * k:Int)+gt hd (2 * k+1:Int)) (hd.length / 2) (fun k hk'=>?_) (hd.length / 2 - 1) (by omega)
 ·have h1:=hj 0 (by omega)
  have h2:=hj (hd.length / 2 - 1) (by omega)
  omega
 ·have h1:=hk (k+1) hk'
  have h2:=hj k (by omega)
  have h3:=hj (k+1) hk'
  simp only [Bool.and_eq_true,Bool.or_eq_true,decide_eq_true_eq,Bool.not_eq_true',decide_eq_false_iff_not] at h1
  simp only [ac0_,ak1_,show (2:Int) * ((k:Int)+1)=2 * k+2 by omega] at h1 h3 ⊢
  simp only [show (2:Int) * k+2 - 2=2 * k by omega,show (2:Int) * k+2 - 1=2 * k+1 by omega] at h1
  omega
def xd_ (x:Self):Bool:=vV_ x.net && (inB x.id 1 x.net.n && (inB x.boot 0 90 && (decide (x.heard.length % 2=0) && jf_ (fun v a=>decide (0≤zu_ (yk_ x.id v a) x.net.links)) x.heard && zk_ x.store)))
theorem abj_ (id boot n:Int) (ls:List Link) (ts:List Thing) (hd:List Int) (st:List Rcd) (h1:ls.length≤1048576) (h2:ts.length≤1048576) (h3:hd.length≤1048576) (h4:st.length≤1048576) (h5:NearL st) :
  xt_ [ii id,ii boot,ii n,.l (ls.map zn_),.l (ts.map zl_),.l (hd.map eInt),.l (st.map eRcd)]=some [bb (xd_ ⟨id,boot,⟨n,ls,ts⟩,hd,st⟩)]:=by
 rw [aFj_];simp (disch:=omega) only [↓pq,ps,pz,↓reduceIte,reduceLE,reduceLT,reduceEq,reduceGT,reduceGE,reduceAdd,reduceSub,reduceMul,reduceNeg,ait_,aKm_,aaf_,aBy_,amh_ _ h4 h5,yj_];unfold xd_
 grind
theorem aa8_ (id boot n:Int) (ls:List Link) (ts:List Thing) (hd:List Int) (st:List Rcd) (h1:ls.length≤1048576) (h2:ts.length≤1048576) (h3:hd.length≤1048576) (h4:st.length≤1048576) (h5:NearL st) :
  xu_ [ii id,ii boot,ii n,.l (ls.map zn_),.l (ts.map zl_),.l (hd.map eInt),.l (st.map eRcd)]=some [bb (xd_ ⟨id,boot,⟨n,ls,ts⟩,hd,st⟩)]:=by
 rw [aD8_];simp (disch:=omega) only [↓pq,ps,pz,↓reduceIte,reduceLE,reduceLT,reduceEq,reduceGT,reduceGE,reduceAdd,reduceSub,reduceMul,reduceNeg,ah8_,aLn_,vT_,av0_,jl_ _ h4 h5,yj_]
 have key:vV_ ⟨n,ls,ts⟩=true→(decide (hd.length≤60) && jf_ (fun v a=>!decide (yY_ ls id v a=0)) hd)=jf_ (fun v a=>decide (0≤zu_ (yk_ id v a) ls)) hd:=by
  intro hn
  have hl:ascB (xq_ n) xH_ ls=true:=by simp only [vV_,Bool.and_eq_true] at hn;exact hn.1.2
  have he:(fun v a=>!decide (yY_ ls id v a=0))=fun v a=>decide (0≤zu_ (yk_ id v a) ls):=by
   funext v a
   have:=k4_ hl id v a
   by_cases hc:yY_ ls id v a=0 <;> simp [hc] <;> omega
  rw [he]
  cases hp:jf_ (fun v a=>decide (0≤zu_ (yk_ id v a) ls)) hd with
  | false=>simp
  | true=>have:=asd_ hl hp;simp;omega
 unfold xd_
 grind
def uj_ (a b:List Int):Bool:=decide ((a.length:Int)=b.length) && allB a.length fun i=>decide (gt a i=gt b i)
theorem apm_ {a b:List Int}:uj_ a b=true↔a=b:=by
 simp only [uj_,Bool.and_eq_true,decide_eq_true_eq,allB_iff]
 constructor
 ·rintro ⟨h1,h2⟩
  refine List.ext_getElem (by omega) fun i hi hj=>?_
  have:=h2 i hi
  rwa [zm_ hi,zm_ hj] at this
 ·rintro rfl
  exact ⟨rfl,fun _ _=>rfl⟩
theorem aym_ (a b:List Int) (h:a.length≤1048576):qg_ [.l (a.map eInt),.l (b.map eInt)]=some [bb (uj_ a b)]:=by
 rw [aux_];simp (disch:=omega) only [↓pq,ps,pz,↓reduceIte,reduceLE,reduceLT,reduceEq,reduceGT,reduceGE,reduceAdd,reduceSub,reduceMul,reduceNeg,qf_,adb_]
 by_cases hl:(a.length:Int)=b.length
 ·simp only [hl,not_true_eq_false,if_false]
  refine (wt_ a.length (fun i=>[bb false,ii i]) (fun i=>decide (gt a i=gt b i)) (outF:=some [bb false]) (outT:=some [bb true]) rfl (zb_ h) ?_ ?_).trans (yj_ _ _ _ |>.trans (by unfold uj_;simp [hl]))
  ·intro i hi s
   have hi':=hl ▸ hi
   simp (disch:=omega) only [↓pq,ps,pz,↓reduceIte,reduceLE,reduceLT,reduceEq,reduceGT,reduceGE,reduceAdd,reduceSub,reduceMul,reduceNeg,qf_,hi,hi']
   grind
  ·intro s
   simp (disch:=omega) only [↓pq,ps,pz,↓reduceIte,reduceLE,reduceLT,reduceEq,reduceGT,reduceGE,reduceAdd,reduceSub,reduceMul,reduceNeg,qf_,hl]
 ·unfold uj_;simp [hl]
theorem apb_ (a b:List Int) (h:a.length≤1048576):vU_ [.l (a.map eInt),.l (b.map eInt)]=some [bb (uj_ a b)]:=by
 rw [ao6_];simp (disch:=omega) only [↓pq,ps,pz,↓reduceIte,reduceLE,reduceLT,reduceEq,reduceGT,reduceGE,reduceAdd,reduceSub,reduceMul,reduceNeg,vS_,kl_]
 by_cases hl:(a.length:Int)=b.length
 ·simp only [hl,not_true_eq_false,if_false]
  refine (wt_ a.length (fun i=>[bb false,ii i]) (fun i=>decide (gt a i=gt b i)) (outF:=some [bb false]) (outT:=some [bb true]) rfl (zb_ h) ?_ ?_).trans (yj_ _ _ _ |>.trans (by unfold uj_;simp [hl]))
  ·intro i hi s
   have hi':=hl ▸ hi
   simp (disch:=omega) only [↓pq,ps,pz,↓reduceIte,reduceLE,reduceLT,reduceEq,reduceGT,reduceGE,reduceAdd,reduceSub,reduceMul,reduceNeg,vS_,hi,hi']
   grind
  ·intro s
   simp (disch:=omega) only [↓pq,ps,pz,↓reduceIte,reduceLE,reduceLT,reduceEq,reduceGT,reduceGE,reduceAdd,reduceSub,reduceMul,reduceNeg,vS_,hl]
 ·unfold uj_;simp [hl]
def qu_ (c:List Int) (e:Ear):List Int:=if e.both=true then c++[e.node,e.area] else c
def jX_ (l:List Ear):List Int:=l.foldl qu_ []
theorem aaw_ (c:List Int) (e:Ear):(qu_ c e).length≤c.length+2:=by
 unfold qu_;split <;> simp
theorem amf_ (l:List Ear):(jX_ l).length≤2 * l.length :=
 j0_ (Inv:=fun i (c:List Int)=>c.length≤2 * i) (by simp) fun i c hi hc=>by have:=aaw_ c (gt l i);omega
theorem aA7_ (l:List Ear) (h:l.length≤1048576):jm_ [.l (l.map eEar)]=some [.l ((jX_ l).map eInt)]:=by
 rw [az1_];simp (disch:=omega) only [↓pq,ps,pz,↓reduceIte,reduceLE,reduceLT,reduceEq,reduceGT,reduceGE,reduceAdd,reduceSub,reduceMul,reduceNeg,qR_,aew_]
 refine zg_ l (fun i c=>[.l (c.map eInt),ii i]) qu_ (fun c=>some [T.l (c.map eInt)]) [] (fun i c=>c.length≤2 * i) rfl (zb_ h) (by simp) ?_ ?_
 ·intro i c hi hc
  have hl:=aaw_ c (gt l i)
  refine ⟨by omega,fun s=>?_⟩
  simp (disch:=omega) only [↓pq,ps,pz,↓reduceIte,reduceLE,reduceLT,reduceEq,reduceGT,reduceGE,reduceAdd,reduceSub,reduceMul,reduceNeg,qR_,hi]
  unfold qu_
  split <;> rfl
 ·intro c s hc
  simp (disch:=omega) only [↓pq,ps,pz,↓reduceIte,reduceLE,reduceLT,reduceEq,reduceGT,reduceGE,reduceAdd,reduceSub,reduceMul,reduceNeg,qR_,]
theorem ax8_ (l:List Ear) (h:l.length≤1048576):qk_ [.l (l.map eEar)]=some [.l ((jX_ l).map eInt)]:=by
 rw [avj_];simp (disch:=omega) only [↓pq,ps,pz,↓reduceIte,reduceLE,reduceLT,reduceEq,reduceGT,reduceGE,reduceAdd,reduceSub,reduceMul,reduceNeg,u9_,adf_]
 refine zg_ l (fun i c=>[.l (c.map eInt),ii i]) qu_ (fun c=>some [T.l (c.map eInt)]) [] (fun i c=>c.length≤2 * i) rfl (zb_ h) (by simp) ?_ ?_
 ·intro i c hi hc
  have hl:=aaw_ c (gt l i)
  refine ⟨by omega,fun s=>?_⟩
  simp (disch:=omega) only [↓pq,ps,pz,↓reduceIte,reduceLE,reduceLT,reduceEq,reduceGT,reduceGE,reduceAdd,reduceSub,reduceMul,reduceNeg,u9_,hi]
  unfold qu_
  split <;> rfl
 ·intro c s hc
  simp (disch:=omega) only [↓pq,ps,pz,↓reduceIte,reduceLE,reduceLT,reduceEq,reduceGT,reduceGE,reduceAdd,reduceSub,reduceMul,reduceNeg,u9_,]
def xb_ (ls:List Link) (id:Int) (v:Nat) (c:List Ear) (a:Nat):List Ear:=if 0≤zu_ (yk_ id (v+1) a) ls then c++[⟨v+1,a,0,false⟩] else c
def uo_ (ls:List Link) (id:Int) (c:List Ear) (v:Nat):List Ear:=(List.range 3).foldl (xb_ ls id v) c
def x9_ (ls:List Link) (id n:Int):List Ear:=(List.range n.toNat).foldl (uo_ ls id) []
theorem u2_ (ls:List Link) (id:Int) (v:Nat) (c:List Ear) (a:Nat):(xb_ ls id v c a).length≤c.length+1:=by
 unfold xb_;split <;> simp
theorem aa0_ (ls:List Link) (id:Int) (c:List Ear) (v:Nat):(uo_ ls id c v).length≤c.length+3:=by
 unfold uo_
 have h1:=u2_ ls id v c 0
 have h2:=u2_ ls id v (xb_ ls id v c 0) 1
 have h3:=u2_ ls id v (xb_ ls id v (xb_ ls id v c 0) 1) 2
 show (xb_ ls id v (xb_ ls id v (xb_ ls id v c 0) 1) 2).length≤_
 omega
theorem aqj_ (n:Int) (ls:List Link) (t2:T) (id:Int) (h:n≤6) (h1:ls.length≤1048576):vc_ [ii n,.l (ls.map zn_),t2,ii id]=some [.l ((x9_ ls id n).map eEar)]:=by
 rw [aHi_];simp only [ai4_]
 refine yy_ n.toNat (fun i c=>[.l (c.map eEar),ii (i+1)]) (uo_ ls id) (fun c=>some [T.l (c.map eEar)]) [] (fun i c=>c.length≤3 * i) rfl (zb_ (by omega)) (by simp) ?_ ?_
 ·intro i c hi hc
  have hl:=aa0_ ls id c i
  refine ⟨by omega,fun s=>?_⟩
  have hi':(i:Int)+1≤n:=by omega
  simp (disch:=omega) only [↓pq,ps,pz,↓reduceIte,reduceLE,reduceLT,reduceEq,reduceGT,reduceGE,reduceAdd,reduceSub,reduceMul,reduceNeg,uV_,uW_,hi']
  refine yy_ 3 (fun a c=>[.l (c.map eEar),ii a]) (xb_ ls id i) (fun c=>s [T.l (c.map eEar),ii ((i+1:Nat)+1)]) c (fun a c=>c.length≤3 * i+a) rfl (by unfold rounds;omega) (by omega) ?_ ?_
  ·intro a c ha hc
   have hl:=u2_ ls id i c a
   refine ⟨by omega,fun s=>?_⟩
   have ha':(a:Int)≤2:=by omega
   simp (disch:=omega) only [↓pq,ps,pz,↓reduceIte,reduceLE,reduceLT,reduceEq,reduceGT,reduceGE,reduceAdd,reduceSub,reduceMul,reduceNeg,uV_,uW_,ha',aiu_]
   unfold xb_
   split <;> rfl
  ·intro c s' hc
   simp (disch:=omega) only [↓pq,ps,pz,↓reduceIte,reduceLE,reduceLT,reduceEq,reduceGT,reduceGE,reduceAdd,reduceSub,reduceMul,reduceNeg,uV_,uW_,]
 ·intro c s hc
  have hi':¬ ((n.toNat:Int)+1≤n):=by omega
  simp (disch:=omega) only [↓pq,ps,pz,↓reduceIte,reduceLE,reduceLT,reduceEq,reduceGT,reduceGE,reduceAdd,reduceSub,reduceMul,reduceNeg,uV_,uW_,hi']
def alh_ (want e:Ear):Bool:=decide (e.node=want.node) && (decide (e.area=want.area) && (inB e.left 0 3 && !(e.both && decide (e.left=0))))
def xr_ (ears want:List Ear):Bool:=decide (want.length≤ears.length) && allB want.length fun i=>alh_ (gt want i) (gt ears i)
def ajz_ (ears want:List Ear):Bool:=decide ((want.length:Int)=ears.length) && allB ears.length fun i=>alh_ (gt want i) (gt ears i)
def uQ_ (x:Node):Bool:=xd_ x.self && (ajz_ x.ears (x9_ x.self.net.links x.self.id x.self.net.n) && uj_ (jX_ x.ears) x.self.heard)
theorem aul_ {x:Self} (h:xd_ x=true):1≤x.net.n∧x.net.n≤6:=by
 simp only [xd_,vV_,Bool.and_eq_true,inB_iff] at h
 exact h.1.1.1.1.1
theorem agv_ (ls:List Link) (id n:Int) (h:n≤6):(x9_ ls id n).length≤18:=by
 have:=j0_ (l:=List.range n.toNat) (g:=uo_ ls id) (c:=[]) (Inv:=fun i (c:List Ear)=>c.length≤3 * i) (by simp) (fun i c hi hc=>by have:=aa0_ ls id c (gt (List.range n.toNat) i);omega)
 simp only [List.length_range] at this
 unfold x9_
 omega
theorem aEp_ (id boot n:Int) (ls:List Link) (ts:List Thing) (hd:List Int) (st:List Rcd) (es:List Ear) (h1:ls.length≤1048576) (h2:ts.length≤1048576) (h3:hd.length≤1048576) (h4:st.length≤1048576) (h5:NearL st) (h6:es.length≤1048576) :
  kk_ [ii id,ii boot,ii n,.l (ls.map zn_),.l (ts.map zl_),.l (hd.map eInt),.l (st.map eRcd),.l (es.map eEar)]=some [bb (uQ_ ⟨⟨id,boot,⟨n,ls,ts⟩,hd,st⟩,es⟩)]:=by
 rw [aFg_];simp (disch:=omega) only [↓pq,ps,pz,↓reduceIte,reduceLE,reduceLT,reduceEq,reduceGT,reduceGE,reduceAdd,reduceSub,reduceMul,reduceNeg,uP_,ag3_,abj_ _ _ _ _ _ _ _ h1 h2 h3 h4 h5]
 cases hs:xd_ ⟨id,boot,⟨n,ls,ts⟩,hd,st⟩ with
 | false=>simp [uQ_,hs]
 | true =>
  have hn:1≤n∧n≤6:=aul_ hs
  have hw:=agv_ ls id n hn.2
  have hb:=amf_ es
  simp only [not_true_eq_false,if_false]
  simp (disch:=omega) only [↓pq,ps,pz,↓reduceIte,reduceLE,reduceLT,reduceEq,reduceGT,reduceGE,reduceAdd,reduceSub,reduceMul,reduceNeg,uP_,aqj_ n ls _ id hn.2 h1]
  by_cases hl:((x9_ ls id n).length:Int)=es.length
  ·simp only [hl,not_true_eq_false,if_false]
   refine (wt_ es.length (fun i=>[bb false,ii i]) (fun i=>alh_ (gt (x9_ ls id n) i) (gt es i)) (outF:=some [bb false]) (outT:=some [bb (uj_ (jX_ es) hd)]) rfl (zb_ h6) ?_ ?_).trans (yj_ _ _ _ |>.trans ?_)
   ·intro i hi s
    have hi':=hl ▸ hi
    simp (disch:=omega) only [↓pq,ps,pz,↓reduceIte,reduceLE,reduceLT,reduceEq,reduceGT,reduceGE,reduceAdd,reduceSub,reduceMul,reduceNeg,uP_,hi,aaf_]
    unfold alh_
    grind
   ·intro s
    simp (disch:=omega) only [↓pq,ps,pz,↓reduceIte,reduceLE,reduceLT,reduceEq,reduceGT,reduceGE,reduceAdd,reduceSub,reduceMul,reduceNeg,uP_,aA7_ _ h6,aym_]
   ·unfold uQ_ ajz_
    simp [hs,hl]
  ·simp only [hl,not_false_eq_true,if_true]
   simp [uQ_,ajz_,hl]
theorem kY_ {ls:List Link} {id:Int} {v:Nat} {es c:List Ear} {a:Nat} (h:xr_ es (xb_ ls id v c a)=true):xr_ es c=true:=by
 unfold xb_ at h
 split at h
 ·simp only [xr_,Bool.and_eq_true,decide_eq_true_eq,List.length_append,List.length_singleton,allB_iff] at h ⊢
  refine ⟨by omega,fun i hi=>?_⟩
  have:=h.2 i (by omega)
  rwa [zm_ (by simp;omega),List.getElem_append_left hi,← zm_ hi] at this
 ·exact h
theorem aHj_ {ls:List Link} {id:Int} {v:Nat} {es c:List Ear} (h:xr_ es (uo_ ls id c v)=true):xr_ es c=true :=
 kY_ (kY_ (kY_ (show xr_ es (xb_ ls id v (xb_ ls id v (xb_ ls id v c 0) 1) 2)=true from h)))
theorem ay4_ {es c:List Ear} {w:Ear} (hc:xr_ es c=true):xr_ es (c++[w])=(decide (c.length < es.length) && alh_ w (gt es c.length)):=by
 simp only [xr_,Bool.and_eq_true,decide_eq_true_eq,allB_iff] at hc
 rw [Bool.eq_iff_iff]
 simp only [xr_,Bool.and_eq_true,decide_eq_true_eq,List.length_append,List.length_singleton,allB_iff]
 constructor
 ·rintro ⟨h1,h2⟩
  refine ⟨by omega,?_⟩
  have:=h2 c.length (by omega)
  rwa [zm_ (by simp),List.getElem_append_right (Nat.le_refl _),List.getElem_singleton] at this
 ·rintro ⟨h1,h2⟩
  refine ⟨by omega,fun i hi=>?_⟩
  rcases Nat.lt_or_ge i c.length with h | h
  ·rw [zm_ (by simp;omega),List.getElem_append_left h,← zm_ h]
   exact hc.2 i h
  ·have:i=c.length:=by omega
   subst this
   rwa [zm_ (by simp),List.getElem_append_right (Nat.le_refl _),List.getElem_singleton]
theorem aEw_ (id boot n:Int) (ls:List Link) (ts:List Thing) (hd:List Int) (st:List Rcd) (es:List Ear) (h1:ls.length≤1048576) (h2:ts.length≤1048576) (h3:hd.length≤1048576) (h4:st.length≤1048576) (h5:NearL st) (h6:es.length≤1048576) :
  ko_ [ii id,ii boot,ii n,.l (ls.map zn_),.l (ts.map zl_),.l (hd.map eInt),.l (st.map eRcd),.l (es.map eEar)]=some [bb (uQ_ ⟨⟨id,boot,⟨n,ls,ts⟩,hd,st⟩,es⟩)]:=by
 rw [aDz_];simp (disch:=omega) only [↓pq,ps,pz,↓reduceIte,reduceLE,reduceLT,reduceEq,reduceGT,reduceGE,reduceAdd,reduceSub,reduceMul,reduceNeg,vG_,vz_,aho_,aa8_ _ _ _ _ _ _ _ h1 h2 h3 h4 h5]
 cases hs:xd_ ⟨id,boot,⟨n,ls,ts⟩,hd,st⟩ with
 | false=>simp [uQ_,hs]
 | true =>
  have hn:1≤n∧n≤6:=aul_ hs
  have hw:=agv_ ls id n hn.2
  have hb:=amf_ es
  have hz:ascB (xq_ n) xH_ ls=true:=by simp only [xd_,vV_,Bool.and_eq_true] at hs;exact hs.1.1.2
  simp only [not_true_eq_false,if_false]
  have hpre0:xr_ es []=true:=by simp [xr_,allB]
  refine (ajq_ n.toNat (fun i (c:List Ear)=>[bb false,ii c.length,ii (i+1)]) (fun i c=>xr_ es (uo_ ls id c i)) (uo_ ls id) (fun c=>if (c.length:Int)=es.length then some [bb (uj_ hd (jX_ es))] else some [bb false]) (outF:=some [bb false]) [] (fun i c=>xr_ es c=true∧c.length≤3 * i) rfl (zb_ (by omega)) ⟨hpre0,by simp⟩ ?_ ?_).trans ?_
  ·intro i c hi hc
   refine ⟨fun h=>⟨h,by have:=aa0_ ls id c i;omega⟩,fun s=>?_⟩
   have hi':(i:Int)+1≤n:=by omega
   simp (disch:=omega) only [↓pq,ps,pz,↓reduceIte,reduceLE,reduceLT,reduceEq,reduceGT,reduceGE,reduceAdd,reduceSub,reduceMul,reduceNeg,vG_,vz_,hi']
   refine (ajq_ 3 (fun a (c:List Ear)=>[bb false,ii c.length,ii a]) (fun a c=>xr_ es (xb_ ls id i c a)) (xb_ ls id i) (fun c=>s [bb false,ii c.length,ii ((i+1:Nat)+1)]) (outF:=some [bb false]) c (fun a c=>xr_ es c=true∧c.length≤3 * i+a) rfl (by unfold rounds;omega) ⟨hc.1,by omega⟩ ?_ ?_).trans ?_
   ·intro a c ha hc
    refine ⟨fun h=>⟨h,by have:=u2_ ls id i c a;omega⟩,fun s=>?_⟩
    have ha':(a:Int)≤2:=by omega
    have hz':=k4_ hz id (i+1) a
    simp (disch:=omega) only [↓pq,ps,pz,↓reduceIte,reduceLE,reduceLT,reduceEq,reduceGT,reduceGE,reduceAdd,reduceSub,reduceMul,reduceNeg,vG_,vz_,ha',uy_,vT_]
    unfold xb_
    by_cases hf:0≤zu_ (yk_ id (i+1) a) ls
    ·have hne:¬ (yY_ ls id (i+1) a=0):=by omega
     have hlen:=ay4_ (w:=⟨(i:Int)+1,a,0,false⟩) hc.1
     simp only [hf,if_true,hlen,hne,if_false,List.length_append,List.length_singleton,ac0_,ak1_]
     have hcc:((c.length:Int) ≥ es.length)=¬ (c.length < es.length):=by simp only [eq_iff_iff];omega
     unfold alh_
     grind
    ·have hne:yY_ ls id (i+1) a=0:=by omega
     simp only [hf,if_false,hc.1,if_true,hne]
   ·intro c s' hc
    simp (disch:=omega) only [↓pq,ps,pz,↓reduceIte,reduceLE,reduceLT,reduceEq,reduceGT,reduceGE,reduceAdd,reduceSub,reduceMul,reduceNeg,vG_,vz_,]
   ·rw [ax9_ (xr_ es) (fun c i=>kY_) (fun i c _ _=>rfl) hc.1]
    have e:(List.range 3).foldl (xb_ ls id i) c=uo_ ls id c i:=rfl
    rw [e]
    cases hp:xr_ es (uo_ ls id c i) with
    | true=>simp only [if_true,ac0_,ak1_]
    | false=>simp
  ·intro c s hc
   have hi':¬ ((n.toNat:Int)+1≤n):=by omega
   simp (disch:=omega) only [↓pq,ps,pz,↓reduceIte,reduceLE,reduceLT,reduceEq,reduceGT,reduceGE,reduceAdd,reduceSub,reduceMul,reduceNeg,vG_,vz_,hi',ax8_ _ h6,apb_]
  ·rw [ax9_ (xr_ es) (fun c i=>aHj_) (fun i c _ _=>rfl) hpre0]
   have hi2:uj_ hd (jX_ es)=uj_ (jX_ es) hd:=by rw [Bool.eq_iff_iff,apm_,apm_];exact eq_comm
   have hk:ajz_ es (x9_ ls id n)=(xr_ es (x9_ ls id n) && decide (((x9_ ls id n).length:Int)=es.length)):=by
    unfold ajz_ xr_
    by_cases hl:((x9_ ls id n).length:Int)=es.length
    ·rw [show es.length=(x9_ ls id n).length by omega];simp
    ·simp [hl]
   have e:(List.range n.toNat).foldl (uo_ ls id) []=x9_ ls id n:=rfl
   rw [e,hi2]
   unfold uQ_
   simp only [hs,hk,Bool.true_and]
   by_cases hp:xr_ es (x9_ ls id n)=true
   ·by_cases hl:((x9_ ls id n).length:Int)=es.length <;> simp [hp,hl]
   ·simp [hp]
end Go.Proofs.YtiebbbmibbkpcaaGreatC

/- What the functions of nodes and worlds' tests compute. Conditions: none. -/
import Derived.Test.YtiebbbmibbkpcaaGreatXSB
namespace Go.Proofs.YtiebbbmibbkpcaaGreatC
open Int (reduceLE reduceLT reduceEq reduceGT reduceGE reduceAdd reduceSub reduceMul reduceNeg)
set_option linter.unusedVariables false
set_option linter.unusedSimpArgs false
theorem ash_ (f:Nat→Int):∀ (n:Nat),(∀ k,k+1 < n→f k < f (k+1))→∀ k,k < n→f 0+k≤f k
 | n,h,0,_=>by simp
 | n,h,k+1,hk=>by
  have:=ash_ f n h k (by omega)
  have:=h k hk
  omega
theorem asn_ {n:Int} {ls:List Link} (h:ascB (xj_ n) xD_ ls=true) {id:Int} {hd:List Int} (hp:je_ (fun v a=>decide (0≤zv_ (ys_ id v a) ls)) hd=true):hd.length / 2≤18:=by
 have hk:=fun k hk=>allB_iff.1 hp k hk
 have hj:∀ k,k < hd.length / 2→1≤gt hd (2 * k:Int)∧gt hd (2 * k:Int)≤6∧0≤gt hd (2 * k+1:Int)∧gt hd (2 * k+1:Int)≤2:=by
  intro k hk'
  have h1:=hk k hk'
  simp only [Bool.and_eq_true,decide_eq_true_eq] at h1
  have h2:=xs_ _ _ h1.1
  have h3:=wi_ (ys_ id (gt hd (2 * k:Int)) (gt hd (2 * k+1:Int))) ls
  have h4:=allB_iff.1 h (zv_ (ys_ id (gt hd (2 * k:Int)) (gt hd (2 * k+1:Int))) ls).toNat (by omega)
  rw [show (((zv_ (ys_ id (gt hd (2 * k:Int)) (gt hd (2 * k+1:Int))) ls).toNat:Nat):Int)=zv_ (ys_ id (gt hd (2 * k:Int)) (gt hd (2 * k+1:Int))) ls by omega] at h4
  simp only [ys_,Bool.and_eq_true,Bool.or_eq_true,beq_iff_eq] at h2
  simp only [Bool.and_eq_true,xj_,inB_iff,decide_eq_true_eq] at h4
  omega
 rcases Nat.eq_zero_or_pos (hd.length / 2) with h0 | h0
 ·omega
 have:=ash_ (fun k=>3 * gt hd (2 * k:Int)+gt hd (2 * k+1:Int)) (hd.length / 2) (fun k hk'=>?_) (hd.length / 2 - 1) (by omega)
 ·have h1:=hj 0 (by omega)
  have h2:=hj (hd.length / 2 - 1) (by omega)
  omega
 ·have h1:=hk (k+1) hk'
  have h2:=hj k (by omega)
  have h3:=hj (k+1) hk'
  simp only [Bool.and_eq_true,Bool.or_eq_true,decide_eq_true_eq,Bool.not_eq_true',decide_eq_false_iff_not] at h1
  simp only [acs_,ajj_,show (2:Int) * ((k:Int)+1)=2 * k+2 by omega] at h1 h3 ⊢
  simp only [show (2:Int) * k+2 - 2=2 * k by omega,show (2:Int) * k+2 - 1=2 * k+1 by omega] at h1
  omega
def xv_ (x:Self):Bool:=uF_ x.net && (inB x.id 1 x.net.n && (inB x.boot 0 90 && (decide (x.heard.length % 2=0) && je_ (fun v a=>decide (0≤zv_ (ys_ x.id v a) x.net.links)) x.heard && zk_ x.store)))
theorem agc_ (id boot n:Int) (ls:List Link) (ts:List Thing) (hd:List Int) (st:List Rcd) (h1:ls.length≤1048576) (h2:ts.length≤1048576) (h3:hd.length≤1048576) (h4:st.length≤1048576) (h5:NearL st) :
  wb_ [ii id,ii boot,ii n,.l (ls.map zt_),.l (ts.map zr_),.l (hd.map eInt),.l (st.map eRcd)]=some [bb (xv_ ⟨id,boot,⟨n,ls,ts⟩,hd,st⟩)]:=by
 rw [aG3_];simp (disch:=omega) only [↓pq,ps,pz,↓reduceIte,reduceLE,reduceLT,reduceEq,reduceGT,reduceGE,reduceAdd,reduceSub,reduceMul,reduceNeg,aij_,aJ0_,k8_,azq_,amx_ _ h4 h5,ym_];unfold xv_
 grind
theorem ahp_ (id boot n:Int) (ls:List Link) (ts:List Thing) (hd:List Int) (st:List Rcd) (h1:ls.length≤1048576) (h2:ts.length≤1048576) (h3:hd.length≤1048576) (h4:st.length≤1048576) (h5:NearL st) :
  x9_ [ii id,ii boot,ii n,.l (ls.map zt_),.l (ts.map zr_),.l (hd.map eInt),.l (st.map eRcd)]=some [bb (xv_ ⟨id,boot,⟨n,ls,ts⟩,hd,st⟩)]:=by
 rw [aGz_];simp (disch:=omega) only [↓pq,ps,pz,↓reduceIte,reduceLE,reduceLT,reduceEq,reduceGT,reduceGE,reduceAdd,reduceSub,reduceMul,reduceNeg,aiw_,aHf_,vL_,aym_,ji_ _ h4 h5,ym_]
 have key:uF_ ⟨n,ls,ts⟩=true→(decide (hd.length≤60) && je_ (fun v a=>!decide (y8_ ls id v a=0)) hd)=je_ (fun v a=>decide (0≤zv_ (ys_ id v a) ls)) hd:=by
  intro hn
  have hl:ascB (xj_ n) xD_ ls=true:=by simp only [uF_,Bool.and_eq_true] at hn;exact hn.1.2
  have he:(fun v a=>!decide (y8_ ls id v a=0))=fun v a=>decide (0≤zv_ (ys_ id v a) ls):=by
   funext v a
   have:=aet_ hl id v a
   by_cases hc:y8_ ls id v a=0 <;> simp [hc] <;> omega
  rw [he]
  cases hp:je_ (fun v a=>decide (0≤zv_ (ys_ id v a) ls)) hd with
  | false=>simp
  | true=>have:=asn_ hl hp;simp;omega
 unfold xv_
 grind
def v0_ (a b:List Int):Bool:=decide ((a.length:Int)=b.length) && allB a.length fun i=>decide (gt a i=gt b i)
theorem aqj_ {a b:List Int}:v0_ a b=true↔a=b:=by
 simp only [v0_,Bool.and_eq_true,decide_eq_true_eq,allB_iff]
 constructor
 ·rintro ⟨h1,h2⟩
  refine List.ext_getElem (by omega) fun i hi hj=>?_
  have:=h2 i hi
  rwa [zm_ hi,zm_ hj] at this
 ·rintro rfl
  exact ⟨rfl,fun _ _=>rfl⟩
theorem axo_ (a b:List Int) (h:a.length≤1048576):ql_ [.l (a.map eInt),.l (b.map eInt)]=some [bb (v0_ a b)]:=by
 rw [awq_];simp (disch:=omega) only [↓pq,ps,pz,↓reduceIte,reduceLE,reduceLT,reduceEq,reduceGT,reduceGE,reduceAdd,reduceSub,reduceMul,reduceNeg,u7_,ab1_]
 by_cases hl:(a.length:Int)=b.length
 ·simp only [hl,not_true_eq_false,if_false]
  refine (wn_ a.length (fun i=>[bb false,ii i]) (fun i=>decide (gt a i=gt b i)) (outF:=some [bb false]) (outT:=some [bb true]) rfl (zb_ h) ?_ ?_).trans (ym_ _ _ _ |>.trans (by unfold v0_;simp [hl]))
  ·intro i hi s
   have hi':=hl ▸ hi
   simp (disch:=omega) only [↓pq,ps,pz,↓reduceIte,reduceLE,reduceLT,reduceEq,reduceGT,reduceGE,reduceAdd,reduceSub,reduceMul,reduceNeg,u7_,hi,hi']
   grind
  ·intro s
   simp (disch:=omega) only [↓pq,ps,pz,↓reduceIte,reduceLE,reduceLT,reduceEq,reduceGT,reduceGE,reduceAdd,reduceSub,reduceMul,reduceNeg,u7_,hl]
 ·unfold v0_;simp [hl]
theorem aof_ (a b:List Int) (h:a.length≤1048576):vD_ [.l (a.map eInt),.l (b.map eInt)]=some [bb (v0_ a b)]:=by
 rw [ape_];simp (disch:=omega) only [↓pq,ps,pz,↓reduceIte,reduceLE,reduceLT,reduceEq,reduceGT,reduceGE,reduceAdd,reduceSub,reduceMul,reduceNeg,vx_,kp_]
 by_cases hl:(a.length:Int)=b.length
 ·simp only [hl,not_true_eq_false,if_false]
  refine (wn_ a.length (fun i=>[bb false,ii i]) (fun i=>decide (gt a i=gt b i)) (outF:=some [bb false]) (outT:=some [bb true]) rfl (zb_ h) ?_ ?_).trans (ym_ _ _ _ |>.trans (by unfold v0_;simp [hl]))
  ·intro i hi s
   have hi':=hl ▸ hi
   simp (disch:=omega) only [↓pq,ps,pz,↓reduceIte,reduceLE,reduceLT,reduceEq,reduceGT,reduceGE,reduceAdd,reduceSub,reduceMul,reduceNeg,vx_,hi,hi']
   grind
  ·intro s
   simp (disch:=omega) only [↓pq,ps,pz,↓reduceIte,reduceLE,reduceLT,reduceEq,reduceGT,reduceGE,reduceAdd,reduceSub,reduceMul,reduceNeg,vx_,hl]
 ·unfold v0_;simp [hl]
def qo_ (c:List Int) (e:Ear):List Int:=if e.both=true then c++[e.node,e.area] else c
def jF_ (l:List Ear):List Int:=l.foldl qo_ []
theorem aaw_ (c:List Int) (e:Ear):(qo_ c e).length≤c.length+2:=by
 unfold qo_;split <;> simp
theorem ame_ (l:List Ear):(jF_ l).length≤2 * l.length :=
 jI_ (Inv:=fun i (c:List Int)=>c.length≤2 * i) (by simp) fun i c hi hc=>by have:=aaw_ c (gt l i);omega
theorem ay5_ (l:List Ear) (h:l.length≤1048576):jg_ [.l (l.map eEar)]=some [.l ((jF_ l).map eInt)]:=by
 rw [ayz_];simp (disch:=omega) only [↓pq,ps,pz,↓reduceIte,reduceLE,reduceLT,reduceEq,reduceGT,reduceGE,reduceAdd,reduceSub,reduceMul,reduceNeg,qY_,aey_]
 refine zg_ l (fun i c=>[.l (c.map eInt),ii i]) qo_ (fun c=>some [T.l (c.map eInt)]) [] (fun i c=>c.length≤2 * i) rfl (zb_ h) (by simp) ?_ ?_
 ·intro i c hi hc
  have hl:=aaw_ c (gt l i)
  refine ⟨by omega,fun s=>?_⟩
  simp (disch:=omega) only [↓pq,ps,pz,↓reduceIte,reduceLE,reduceLT,reduceEq,reduceGT,reduceGE,reduceAdd,reduceSub,reduceMul,reduceNeg,qY_,hi]
  unfold qo_
  split <;> rfl
 ·intro c s hc
  simp (disch:=omega) only [↓pq,ps,pz,↓reduceIte,reduceLE,reduceLT,reduceEq,reduceGT,reduceGE,reduceAdd,reduceSub,reduceMul,reduceNeg,qY_,]
theorem awk_ (l:List Ear) (h:l.length≤1048576):qu_ [.l (l.map eEar)]=some [.l ((jF_ l).map eInt)]:=by
 rw [awb_];simp (disch:=omega) only [↓pq,ps,pz,↓reduceIte,reduceLE,reduceLT,reduceEq,reduceGT,reduceGE,reduceAdd,reduceSub,reduceMul,reduceNeg,qa_,abt_]
 refine zg_ l (fun i c=>[.l (c.map eInt),ii i]) qo_ (fun c=>some [T.l (c.map eInt)]) [] (fun i c=>c.length≤2 * i) rfl (zb_ h) (by simp) ?_ ?_
 ·intro i c hi hc
  have hl:=aaw_ c (gt l i)
  refine ⟨by omega,fun s=>?_⟩
  simp (disch:=omega) only [↓pq,ps,pz,↓reduceIte,reduceLE,reduceLT,reduceEq,reduceGT,reduceGE,reduceAdd,reduceSub,reduceMul,reduceNeg,qa_,hi]
  unfold qo_
  split <;> rfl
 ·intro c s hc
  simp (disch:=omega) only [↓pq,ps,pz,↓reduceIte,reduceLE,reduceLT,reduceEq,reduceGT,reduceGE,reduceAdd,reduceSub,reduceMul,reduceNeg,qa_,]
def xK_ (ls:List Link) (id:Int) (v:Nat) (c:List Ear) (a:Nat):List Ear:=if 0≤zv_ (ys_ id (v+1) a) ls then c++[⟨v+1,a,0,false⟩] else c
def qp_ (ls:List Link) (id:Int) (c:List Ear) (v:Nat):List Ear:=(List.range 3).foldl (xK_ ls id v) c
def vN_ (ls:List Link) (id n:Int):List Ear:=(List.range n.toNat).foldl (qp_ ls id) []
theorem jj_ (ls:List Link) (id:Int) (v:Nat) (c:List Ear) (a:Nat):(xK_ ls id v c a).length≤c.length+1:=by
 unfold xK_;split <;> simp
theorem ahd_ (ls:List Link) (id:Int) (c:List Ear) (v:Nat):(qp_ ls id c v).length≤c.length+3:=by
 unfold qp_
 have h1:=jj_ ls id v c 0
 have h2:=jj_ ls id v (xK_ ls id v c 0) 1
 have h3:=jj_ ls id v (xK_ ls id v (xK_ ls id v c 0) 1) 2
 show (xK_ ls id v (xK_ ls id v (xK_ ls id v c 0) 1) 2).length≤_
 omega
theorem aDf_ (n:Int) (ls:List Link) (t2:T) (id:Int) (h:n≤6) (h1:ls.length≤1048576):kk_ [ii n,.l (ls.map zt_),t2,ii id]=some [.l ((vN_ ls id n).map eEar)]:=by
 rw [aEh_];simp only [aib_]
 refine yX_ n.toNat (fun i c=>[.l (c.map eEar),ii (i+1)]) (qp_ ls id) (fun c=>some [T.l (c.map eEar)]) [] (fun i c=>c.length≤3 * i) rfl (zb_ (by omega)) (by simp) ?_ ?_
 ·intro i c hi hc
  have hl:=ahd_ ls id c i
  refine ⟨by omega,fun s=>?_⟩
  have hi':(i:Int)+1≤n:=by omega
  simp (disch:=omega) only [↓pq,ps,pz,↓reduceIte,reduceLE,reduceLT,reduceEq,reduceGT,reduceGE,reduceAdd,reduceSub,reduceMul,reduceNeg,uN_,uO_,hi']
  refine yX_ 3 (fun a c=>[.l (c.map eEar),ii a]) (xK_ ls id i) (fun c=>s [T.l (c.map eEar),ii ((i+1:Nat)+1)]) c (fun a c=>c.length≤3 * i+a) rfl (by unfold rounds;omega) (by omega) ?_ ?_
  ·intro a c ha hc
   have hl:=jj_ ls id i c a
   refine ⟨by omega,fun s=>?_⟩
   have ha':(a:Int)≤2:=by omega
   simp (disch:=omega) only [↓pq,ps,pz,↓reduceIte,reduceLE,reduceLT,reduceEq,reduceGT,reduceGE,reduceAdd,reduceSub,reduceMul,reduceNeg,uN_,uO_,ha',ahu_]
   unfold xK_
   split <;> rfl
  ·intro c s' hc
   simp (disch:=omega) only [↓pq,ps,pz,↓reduceIte,reduceLE,reduceLT,reduceEq,reduceGT,reduceGE,reduceAdd,reduceSub,reduceMul,reduceNeg,uN_,uO_,]
 ·intro c s hc
  have hi':¬ ((n.toNat:Int)+1≤n):=by omega
  simp (disch:=omega) only [↓pq,ps,pz,↓reduceIte,reduceLE,reduceLT,reduceEq,reduceGT,reduceGE,reduceAdd,reduceSub,reduceMul,reduceNeg,uN_,uO_,hi']
def alm_ (want e:Ear):Bool:=decide (e.node=want.node) && (decide (e.area=want.area) && (inB e.left 0 3 && !(e.both && decide (e.left=0))))
def xo_ (ears want:List Ear):Bool:=decide (want.length≤ears.length) && allB want.length fun i=>alm_ (gt want i) (gt ears i)
def aks_ (ears want:List Ear):Bool:=decide ((want.length:Int)=ears.length) && allB ears.length fun i=>alm_ (gt want i) (gt ears i)
def uQ_ (x:Node):Bool:=xv_ x.self && (aks_ x.ears (vN_ x.self.net.links x.self.id x.self.net.n) && v0_ (jF_ x.ears) x.self.heard)
theorem awp_ {x:Self} (h:xv_ x=true):1≤x.net.n∧x.net.n≤6:=by
 simp only [xv_,uF_,Bool.and_eq_true,inB_iff] at h
 exact h.1.1.1.1.1
theorem apv_ (ls:List Link) (id n:Int) (h:n≤6):(vN_ ls id n).length≤18:=by
 have:=jI_ (l:=List.range n.toNat) (g:=qp_ ls id) (c:=[]) (Inv:=fun i (c:List Ear)=>c.length≤3 * i) (by simp) (fun i c hi hc=>by have:=ahd_ ls id c (gt (List.range n.toNat) i);omega)
 simp only [List.length_range] at this
 unfold vN_
 omega
theorem aDd_ (id boot n:Int) (ls:List Link) (ts:List Thing) (hd:List Int) (st:List Rcd) (es:List Ear) (h1:ls.length≤1048576) (h2:ts.length≤1048576) (h3:hd.length≤1048576) (h4:st.length≤1048576) (h5:NearL st) (h6:es.length≤1048576) :
  kw_ [ii id,ii boot,ii n,.l (ls.map zt_),.l (ts.map zr_),.l (hd.map eInt),.l (st.map eRcd),.l (es.map eEar)]=some [bb (uQ_ ⟨⟨id,boot,⟨n,ls,ts⟩,hd,st⟩,es⟩)]:=by
 rw [aGm_];simp (disch:=omega) only [↓pq,ps,pz,↓reduceIte,reduceLE,reduceLT,reduceEq,reduceGT,reduceGE,reduceAdd,reduceSub,reduceMul,reduceNeg,uT_,aik_,agc_ _ _ _ _ _ _ _ h1 h2 h3 h4 h5]
 cases hs:xv_ ⟨id,boot,⟨n,ls,ts⟩,hd,st⟩ with
 | false=>simp [uQ_,hs]
 | true =>
  have hn:1≤n∧n≤6:=awp_ hs
  have hw:=apv_ ls id n hn.2
  have hb:=ame_ es
  simp only [not_true_eq_false,if_false]
  simp (disch:=omega) only [↓pq,ps,pz,↓reduceIte,reduceLE,reduceLT,reduceEq,reduceGT,reduceGE,reduceAdd,reduceSub,reduceMul,reduceNeg,uT_,aDf_ n ls _ id hn.2 h1]
  by_cases hl:((vN_ ls id n).length:Int)=es.length
  ·simp only [hl,not_true_eq_false,if_false]
   refine (wn_ es.length (fun i=>[bb false,ii i]) (fun i=>alm_ (gt (vN_ ls id n) i) (gt es i)) (outF:=some [bb false]) (outT:=some [bb (v0_ (jF_ es) hd)]) rfl (zb_ h6) ?_ ?_).trans (ym_ _ _ _ |>.trans ?_)
   ·intro i hi s
    have hi':=hl ▸ hi
    simp (disch:=omega) only [↓pq,ps,pz,↓reduceIte,reduceLE,reduceLT,reduceEq,reduceGT,reduceGE,reduceAdd,reduceSub,reduceMul,reduceNeg,uT_,hi,k8_]
    unfold alm_
    grind
   ·intro s
    simp (disch:=omega) only [↓pq,ps,pz,↓reduceIte,reduceLE,reduceLT,reduceEq,reduceGT,reduceGE,reduceAdd,reduceSub,reduceMul,reduceNeg,uT_,ay5_ _ h6,axo_]
   ·unfold uQ_ aks_
    simp [hs,hl]
  ·simp only [hl,not_false_eq_true,if_true]
   simp [uQ_,aks_,hl]
theorem k3_ {ls:List Link} {id:Int} {v:Nat} {es c:List Ear} {a:Nat} (h:xo_ es (xK_ ls id v c a)=true):xo_ es c=true:=by
 unfold xK_ at h
 split at h
 ·simp only [xo_,Bool.and_eq_true,decide_eq_true_eq,List.length_append,List.length_singleton,allB_iff] at h ⊢
  refine ⟨by omega,fun i hi=>?_⟩
  have:=h.2 i (by omega)
  rwa [zm_ (by simp;omega),List.getElem_append_left hi,← zm_ hi] at this
 ·exact h
theorem aFx_ {ls:List Link} {id:Int} {v:Nat} {es c:List Ear} (h:xo_ es (qp_ ls id c v)=true):xo_ es c=true :=
 k3_ (k3_ (k3_ (show xo_ es (xK_ ls id v (xK_ ls id v (xK_ ls id v c 0) 1) 2)=true from h)))
theorem axk_ {es c:List Ear} {w:Ear} (hc:xo_ es c=true):xo_ es (c++[w])=(decide (c.length < es.length) && alm_ w (gt es c.length)):=by
 simp only [xo_,Bool.and_eq_true,decide_eq_true_eq,allB_iff] at hc
 rw [Bool.eq_iff_iff]
 simp only [xo_,Bool.and_eq_true,decide_eq_true_eq,List.length_append,List.length_singleton,allB_iff]
 constructor
 ·rintro ⟨h1,h2⟩
  refine ⟨by omega,?_⟩
  have:=h2 c.length (by omega)
  rwa [zm_ (by simp),List.getElem_append_right (Nat.le_refl _),List.getElem_singleton] at this
 ·rintro ⟨h1,h2⟩
  refine ⟨by omega,fun i hi=>?_⟩
  rcases Nat.lt_or_ge i c.length with h | h
  ·rw [zm_ (by simp;omega),List.getElem_append_left h,← zm_ h]
   exact hc.2 i h
  ·have:i=c.length:=by omega
   subst this
   rwa [zm_ (by simp),List.getElem_append_right (Nat.le_refl _),List.getElem_singleton]
theorem aG0_ (id boot n:Int) (ls:List Link) (ts:List Thing) (hd:List Int) (st:List Rcd) (es:List Ear) (h1:ls.length≤1048576) (h2:ts.length≤1048576) (h3:hd.length≤1048576) (h4:st.length≤1048576) (h5:NearL st) (h6:es.length≤1048576) :
  j9_ [ii id,ii boot,ii n,.l (ls.map zt_),.l (ts.map zr_),.l (hd.map eInt),.l (st.map eRcd),.l (es.map eEar)]=some [bb (uQ_ ⟨⟨id,boot,⟨n,ls,ts⟩,hd,st⟩,es⟩)]:=by
 rw [aD8_];simp (disch:=omega) only [↓pq,ps,pz,↓reduceIte,reduceLE,reduceLT,reduceEq,reduceGT,reduceGE,reduceAdd,reduceSub,reduceMul,reduceNeg,vo_,vn_,ago_,ahp_ _ _ _ _ _ _ _ h1 h2 h3 h4 h5]
 cases hs:xv_ ⟨id,boot,⟨n,ls,ts⟩,hd,st⟩ with
 | false=>simp [uQ_,hs]
 | true =>
  have hn:1≤n∧n≤6:=awp_ hs
  have hw:=apv_ ls id n hn.2
  have hb:=ame_ es
  have hz:ascB (xj_ n) xD_ ls=true:=by simp only [xv_,uF_,Bool.and_eq_true] at hs;exact hs.1.1.2
  simp only [not_true_eq_false,if_false]
  have hpre0:xo_ es []=true:=by simp [xo_,allB]
  refine (akw_ n.toNat (fun i (c:List Ear)=>[bb false,ii c.length,ii (i+1)]) (fun i c=>xo_ es (qp_ ls id c i)) (qp_ ls id) (fun c=>if (c.length:Int)=es.length then some [bb (v0_ hd (jF_ es))] else some [bb false]) (outF:=some [bb false]) [] (fun i c=>xo_ es c=true∧c.length≤3 * i) rfl (zb_ (by omega)) ⟨hpre0,by simp⟩ ?_ ?_).trans ?_
  ·intro i c hi hc
   refine ⟨fun h=>⟨h,by have:=ahd_ ls id c i;omega⟩,fun s=>?_⟩
   have hi':(i:Int)+1≤n:=by omega
   simp (disch:=omega) only [↓pq,ps,pz,↓reduceIte,reduceLE,reduceLT,reduceEq,reduceGT,reduceGE,reduceAdd,reduceSub,reduceMul,reduceNeg,vo_,vn_,hi']
   refine (akw_ 3 (fun a (c:List Ear)=>[bb false,ii c.length,ii a]) (fun a c=>xo_ es (xK_ ls id i c a)) (xK_ ls id i) (fun c=>s [bb false,ii c.length,ii ((i+1:Nat)+1)]) (outF:=some [bb false]) c (fun a c=>xo_ es c=true∧c.length≤3 * i+a) rfl (by unfold rounds;omega) ⟨hc.1,by omega⟩ ?_ ?_).trans ?_
   ·intro a c ha hc
    refine ⟨fun h=>⟨h,by have:=jj_ ls id i c a;omega⟩,fun s=>?_⟩
    have ha':(a:Int)≤2:=by omega
    have hz':=aet_ hz id (i+1) a
    simp (disch:=omega) only [↓pq,ps,pz,↓reduceIte,reduceLE,reduceLT,reduceEq,reduceGT,reduceGE,reduceAdd,reduceSub,reduceMul,reduceNeg,vo_,vn_,ha',j6_,vL_]
    unfold xK_
    by_cases hf:0≤zv_ (ys_ id (i+1) a) ls
    ·have hne:¬ (y8_ ls id (i+1) a=0):=by omega
     have hlen:=axk_ (w:=⟨(i:Int)+1,a,0,false⟩) hc.1
     simp only [hf,if_true,hlen,hne,if_false,List.length_append,List.length_singleton,acs_,ajj_]
     have hcc:((c.length:Int) ≥ es.length)=¬ (c.length < es.length):=by simp only [eq_iff_iff];omega
     unfold alm_
     grind
    ·have hne:y8_ ls id (i+1) a=0:=by omega
     simp only [hf,if_false,hc.1,if_true,hne]
   ·intro c s' hc
    simp (disch:=omega) only [↓pq,ps,pz,↓reduceIte,reduceLE,reduceLT,reduceEq,reduceGT,reduceGE,reduceAdd,reduceSub,reduceMul,reduceNeg,vo_,vn_,]
   ·rw [ayg_ (xo_ es) (fun c i=>k3_) (fun i c _ _=>rfl) hc.1]
    have e:(List.range 3).foldl (xK_ ls id i) c=qp_ ls id c i:=rfl
    rw [e]
    cases hp:xo_ es (qp_ ls id c i) with
    | true=>simp only [if_true,acs_,ajj_]
    | false=>simp
  ·intro c s hc
   have hi':¬ ((n.toNat:Int)+1≤n):=by omega
   simp (disch:=omega) only [↓pq,ps,pz,↓reduceIte,reduceLE,reduceLT,reduceEq,reduceGT,reduceGE,reduceAdd,reduceSub,reduceMul,reduceNeg,vo_,vn_,hi',awk_ _ h6,aof_]
  ·rw [ayg_ (xo_ es) (fun c i=>aFx_) (fun i c _ _=>rfl) hpre0]
   have hi2:v0_ hd (jF_ es)=v0_ (jF_ es) hd:=by rw [Bool.eq_iff_iff,aqj_,aqj_];exact eq_comm
   have hk:aks_ es (vN_ ls id n)=(xo_ es (vN_ ls id n) && decide (((vN_ ls id n).length:Int)=es.length)):=by
    unfold aks_ xo_
    by_cases hl:((vN_ ls id n).length:Int)=es.length
    ·rw [show es.length=(vN_ ls id n).length by omega];simp
    ·simp [hl]
   have e:(List.range n.toNat).foldl (qp_ ls id) []=vN_ ls id n:=rfl
   rw [e,hi2]
   unfold uQ_
   simp only [hs,hk,Bool.true_and]
   by_cases hp:xo_ es (vN_ ls id n)=true
   ·by_cases hl:((vN_ ls id n).length:Int)=es.length <;> simp [hp,hl]
   ·simp [hp]
end Go.Proofs.YtiebbbmibbkpcaaGreatC

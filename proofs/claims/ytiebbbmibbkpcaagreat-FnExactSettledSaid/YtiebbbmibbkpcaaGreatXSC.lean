/- What the functions of nodes and worlds' tests compute. Conditions: none. -/
import Derived.Test.YtiebbbmibbkpcaaGreatXSB
namespace Go.Proofs.YtiebbbmibbkpcaaGreatC
open Int (reduceLE reduceLT reduceEq reduceGT reduceGE reduceAdd reduceSub reduceMul reduceNeg)
set_option linter.unusedVariables false
set_option linter.unusedSimpArgs false
theorem ats_ (f:Nat→Int):∀ (n:Nat),(∀ k,k+1 < n→f k < f (k+1))→∀ k,k < n→f 0+k≤f k
 | n,h,0,_=>by simp
 | n,h,k+1,hk=>by
  have:=ats_ f n h k (by omega)
  have:=h k hk
  omega
theorem aNg_ {n:Int} {ls:List Link} (h:ascB (yo_ n) yn_ ls=true) {id:Int} {hd:List Int} (hp:kt_ (fun v a=>decide (0≤zq_ (zz_ id v a) ls)) hd=true):hd.length / 2≤18:=by
 have hk:=fun k hk=>allB_iff.1 hp k hk
 have hj:∀ k,k < hd.length / 2→1≤gt hd (2 * k:Int)∧gt hd (2 * k:Int)≤6∧0≤gt hd (2 * k+1:Int)∧gt hd (2 * k+1:Int)≤2:=by
  intro k hk'
  have h1:=hk k hk'
  simp only [Bool.and_eq_true,decide_eq_true_eq] at h1
  have h2:=wO_ _ _ h1.1
  have h3:=wd_ (zz_ id (gt hd (2 * k:Int)) (gt hd (2 * k+1:Int))) ls
  have h4:=allB_iff.1 h (zq_ (zz_ id (gt hd (2 * k:Int)) (gt hd (2 * k+1:Int))) ls).toNat (by omega)
  rw [show (((zq_ (zz_ id (gt hd (2 * k:Int)) (gt hd (2 * k+1:Int))) ls).toNat:Nat):Int)=zq_ (zz_ id (gt hd (2 * k:Int)) (gt hd (2 * k+1:Int))) ls by omega] at h4
  simp only [zz_,Bool.and_eq_true,Bool.or_eq_true,beq_iff_eq] at h2
  simp only [Bool.and_eq_true,yo_,inB_iff,decide_eq_true_eq] at h4
  omega
 rcases Nat.eq_zero_or_pos (hd.length / 2) with h0 | h0
 ·omega
 have:=ats_ (fun k=>3 * gt hd (2 * k:Int)+gt hd (2 * k+1:Int)) (hd.length / 2) (fun k hk'=>?_) (hd.length / 2 - 1) (by omega)
 ·have h1:=hj 0 (by omega)
  have h2:=hj (hd.length / 2 - 1) (by omega)
  omega
 ·have h1:=hk (k+1) hk'
  have h2:=hj k (by omega)
  have h3:=hj (k+1) hk'
  simp only [Bool.and_eq_true,Bool.or_eq_true,decide_eq_true_eq,Bool.not_eq_true',decide_eq_false_iff_not] at h1
  simp only [abw_,aki_,show (2:Int) * ((k:Int)+1)=2 * k+2 by omega] at h1 h3 ⊢
  simp only [show (2:Int) * k+2 - 2=2 * k by omega,show (2:Int) * k+2 - 1=2 * k+1 by omega] at h1
  omega
def qC_ (x:Self):Bool:=w8_ x.net && (inB x.id 1 x.net.n && (inB x.boot 0 90 && (decide (x.heard.length % 2=0) && kt_ (fun v a=>decide (0≤zq_ (zz_ x.id v a) x.net.links)) x.heard && zJ_ x.store)))
theorem aHc_ (id boot n:Int) (ls:List Link) (ts:List Thing) (hd:List Int) (st:List Rcd) (h1:ls.length≤1048576) (h2:ts.length≤1048576) (h3:hd.length≤1048576) (h4:st.length≤1048576) (h5:NearL st) :
  jc_ [ii id,ii boot,ii n,.l (ls.map zu_),.l (ts.map zt_),.l (hd.map eInt),.l (st.map eRcd)]=some [bb (qC_ ⟨id,boot,⟨n,ls,ts⟩,hd,st⟩)]:=by
 rw [aIg_];simp (disch:=omega) only [↓pq,ps,pz,↓reduceIte,reduceLE,reduceLT,reduceEq,reduceGT,reduceGE,reduceAdd,reduceSub,reduceMul,reduceNeg,ahn_,ak8_,jk_,aDo_,amx_ _ h4 h5,yJ_];unfold qC_
 grind
theorem aHx_ (id boot n:Int) (ls:List Link) (ts:List Thing) (hd:List Int) (st:List Rcd) (h1:ls.length≤1048576) (h2:ts.length≤1048576) (h3:hd.length≤1048576) (h4:st.length≤1048576) (h5:NearL st) :
  qT_ [ii id,ii boot,ii n,.l (ls.map zu_),.l (ts.map zt_),.l (hd.map eInt),.l (st.map eRcd)]=some [bb (qC_ ⟨id,boot,⟨n,ls,ts⟩,hd,st⟩)]:=by
 rw [aGr_];simp (disch:=omega) only [↓pq,ps,pz,↓reduceIte,reduceLE,reduceLT,reduceEq,reduceGT,reduceGE,reduceAdd,reduceSub,reduceMul,reduceNeg,ai3_,ak0_,vf_,aAs_,ji_ _ h4 h5,yJ_]
 have key:w8_ ⟨n,ls,ts⟩=true→(decide (hd.length≤60) && kt_ (fun v a=>!decide (xf_ ls id v a=0)) hd)=kt_ (fun v a=>decide (0≤zq_ (zz_ id v a) ls)) hd:=by
  intro hn
  have hl:ascB (yo_ n) yn_ ls=true:=by simp only [w8_,Bool.and_eq_true] at hn;exact hn.1.2
  have he:(fun v a=>!decide (xf_ ls id v a=0))=fun v a=>decide (0≤zq_ (zz_ id v a) ls):=by
   funext v a
   have:=k8_ hl id v a
   by_cases hc:xf_ ls id v a=0 <;> simp [hc] <;> omega
  rw [he]
  cases hp:kt_ (fun v a=>decide (0≤zq_ (zz_ id v a) ls)) hd with
  | false=>simp
  | true=>have:=aNg_ hl hp;simp;omega
 unfold qC_
 grind
def v0_ (a b:List Int):Bool:=decide ((a.length:Int)=b.length) && allB a.length fun i=>decide (gt a i=gt b i)
theorem apm_ {a b:List Int}:v0_ a b=true↔a=b:=by
 simp only [v0_,Bool.and_eq_true,decide_eq_true_eq,allB_iff]
 constructor
 ·rintro ⟨h1,h2⟩
  refine List.ext_getElem (by omega) fun i hi hj=>?_
  have:=h2 i hi
  rwa [zr_ hi,zr_ hj] at this
 ·rintro rfl
  exact ⟨rfl,fun _ _=>rfl⟩
theorem akh_ (a b:List Int) (h:a.length≤1048576):ws_ [.l (a.map eInt),.l (b.map eInt)]=some [bb (v0_ a b)]:=by
 rw [aw5_];simp (disch:=omega) only [↓pq,ps,pz,↓reduceIte,reduceLE,reduceLT,reduceEq,reduceGT,reduceGE,reduceAdd,reduceSub,reduceMul,reduceNeg,qc_,acc_]
 by_cases hl:(a.length:Int)=b.length
 ·simp only [hl,not_true_eq_false,if_false]
  refine (xP_ a.length (fun i=>[bb false,ii i]) (fun i=>decide (gt a i=gt b i)) (outF:=some [bb false]) (outT:=some [bb true]) rfl (zc_ h) ?_ ?_).trans (yJ_ _ _ _ |>.trans (by unfold v0_;simp [hl]))
  ·intro i hi s
   have hi':=hl ▸ hi
   simp (disch:=omega) only [↓pq,ps,pz,↓reduceIte,reduceLE,reduceLT,reduceEq,reduceGT,reduceGE,reduceAdd,reduceSub,reduceMul,reduceNeg,qc_,hi,hi']
   grind
  ·intro s
   simp (disch:=omega) only [↓pq,ps,pz,↓reduceIte,reduceLE,reduceLT,reduceEq,reduceGT,reduceGE,reduceAdd,reduceSub,reduceMul,reduceNeg,qc_,hl]
 ·unfold v0_;simp [hl]
theorem ad9_ (a b:List Int) (h:a.length≤1048576):xG_ [.l (a.map eInt),.l (b.map eInt)]=some [bb (v0_ a b)]:=by
 rw [ao5_];simp (disch:=omega) only [↓pq,ps,pz,↓reduceIte,reduceLE,reduceLT,reduceEq,reduceGT,reduceGE,reduceAdd,reduceSub,reduceMul,reduceNeg,vV_,kp_]
 by_cases hl:(a.length:Int)=b.length
 ·simp only [hl,not_true_eq_false,if_false]
  refine (xP_ a.length (fun i=>[bb false,ii i]) (fun i=>decide (gt a i=gt b i)) (outF:=some [bb false]) (outT:=some [bb true]) rfl (zc_ h) ?_ ?_).trans (yJ_ _ _ _ |>.trans (by unfold v0_;simp [hl]))
  ·intro i hi s
   have hi':=hl ▸ hi
   simp (disch:=omega) only [↓pq,ps,pz,↓reduceIte,reduceLE,reduceLT,reduceEq,reduceGT,reduceGE,reduceAdd,reduceSub,reduceMul,reduceNeg,vV_,hi,hi']
   grind
  ·intro s
   simp (disch:=omega) only [↓pq,ps,pz,↓reduceIte,reduceLE,reduceLT,reduceEq,reduceGT,reduceGE,reduceAdd,reduceSub,reduceMul,reduceNeg,vV_,hl]
 ·unfold v0_;simp [hl]
def qs_ (c:List Int) (e:Ear):List Int:=if e.both=true then c++[e.node,e.area] else c
def j9_ (l:List Ear):List Int:=l.foldl qs_ []
theorem aau_ (c:List Int) (e:Ear):(qs_ c e).length≤c.length+2:=by
 unfold qs_;split <;> simp
theorem and_ (l:List Ear):(j9_ l).length≤2 * l.length :=
 j4_ (Inv:=fun i (c:List Int)=>c.length≤2 * i) (by simp) fun i c hi hc=>by have:=aau_ c (gt l i);omega
theorem aDp_ (l:List Ear) (h:l.length≤1048576):u3_ [.l (l.map eEar)]=some [.l ((j9_ l).map eInt)]:=by
 rw [aDc_];simp (disch:=omega) only [↓pq,ps,pz,↓reduceIte,reduceLE,reduceLT,reduceEq,reduceGT,reduceGE,reduceAdd,reduceSub,reduceMul,reduceNeg,qQ_,aff_]
 refine zp_ l (fun i c=>[.l (c.map eInt),ii i]) qs_ (fun c=>some [T.l (c.map eInt)]) [] (fun i c=>c.length≤2 * i) rfl (zc_ h) (by simp) ?_ ?_
 ·intro i c hi hc
  have hl:=aau_ c (gt l i)
  refine ⟨by omega,fun s=>?_⟩
  simp (disch:=omega) only [↓pq,ps,pz,↓reduceIte,reduceLE,reduceLT,reduceEq,reduceGT,reduceGE,reduceAdd,reduceSub,reduceMul,reduceNeg,qQ_,hi]
  unfold qs_
  split <;> rfl
 ·intro c s hc
  simp (disch:=omega) only [↓pq,ps,pz,↓reduceIte,reduceLE,reduceLT,reduceEq,reduceGT,reduceGE,reduceAdd,reduceSub,reduceMul,reduceNeg,qQ_,]
theorem axr_ (l:List Ear) (h:l.length≤1048576):up_ [.l (l.map eEar)]=some [.l ((j9_ l).map eInt)]:=by
 rw [aAq_];simp (disch:=omega) only [↓pq,ps,pz,↓reduceIte,reduceLE,reduceLT,reduceEq,reduceGT,reduceGE,reduceAdd,reduceSub,reduceMul,reduceNeg,u9_,acr_]
 refine zp_ l (fun i c=>[.l (c.map eInt),ii i]) qs_ (fun c=>some [T.l (c.map eInt)]) [] (fun i c=>c.length≤2 * i) rfl (zc_ h) (by simp) ?_ ?_
 ·intro i c hi hc
  have hl:=aau_ c (gt l i)
  refine ⟨by omega,fun s=>?_⟩
  simp (disch:=omega) only [↓pq,ps,pz,↓reduceIte,reduceLE,reduceLT,reduceEq,reduceGT,reduceGE,reduceAdd,reduceSub,reduceMul,reduceNeg,u9_,hi]
  unfold qs_
  split <;> rfl
 ·intro c s hc
  simp (disch:=omega) only [↓pq,ps,pz,↓reduceIte,reduceLE,reduceLT,reduceEq,reduceGT,reduceGE,reduceAdd,reduceSub,reduceMul,reduceNeg,u9_,]
def xL_ (ls:List Link) (id:Int) (v:Nat) (c:List Ear) (a:Nat):List Ear:=if 0≤zq_ (zz_ id (v+1) a) ls then c++[⟨v+1,a,0,false⟩] else c
def qo_ (ls:List Link) (id:Int) (c:List Ear) (v:Nat):List Ear:=(List.range 3).foldl (xL_ ls id v) c
def v1_ (ls:List Link) (id n:Int):List Ear:=(List.range n.toNat).foldl (qo_ ls id) []
theorem jr_ (ls:List Link) (id:Int) (v:Nat) (c:List Ear) (a:Nat):(xL_ ls id v c a).length≤c.length+1:=by
 unfold xL_;split <;> simp
theorem ahk_ (ls:List Link) (id:Int) (c:List Ear) (v:Nat):(qo_ ls id c v).length≤c.length+3:=by
 unfold qo_
 have h1:=jr_ ls id v c 0
 have h2:=jr_ ls id v (xL_ ls id v c 0) 1
 have h3:=jr_ ls id v (xL_ ls id v (xL_ ls id v c 0) 1) 2
 show (xL_ ls id v (xL_ ls id v (xL_ ls id v c 0) 1) 2).length≤_
 omega
theorem aHn_ (n:Int) (ls:List Link) (t2:T) (id:Int) (h:n≤6) (h1:ls.length≤1048576):q8_ [ii n,.l (ls.map zu_),t2,ii id]=some [.l ((v1_ ls id n).map eEar)]:=by
 rw [aHa_];simp only [ah8_]
 refine yE_ n.toNat (fun i c=>[.l (c.map eEar),ii (i+1)]) (qo_ ls id) (fun c=>some [T.l (c.map eEar)]) [] (fun i c=>c.length≤3 * i) rfl (zc_ (by omega)) (by simp) ?_ ?_
 ·intro i c hi hc
  have hl:=ahk_ ls id c i
  refine ⟨by omega,fun s=>?_⟩
  have hi':(i:Int)+1≤n:=by omega
  simp (disch:=omega) only [↓pq,ps,pz,↓reduceIte,reduceLE,reduceLT,reduceEq,reduceGT,reduceGE,reduceAdd,reduceSub,reduceMul,reduceNeg,uP_,uS_,hi']
  refine yE_ 3 (fun a c=>[.l (c.map eEar),ii a]) (xL_ ls id i) (fun c=>s [T.l (c.map eEar),ii ((i+1:Nat)+1)]) c (fun a c=>c.length≤3 * i+a) rfl (by unfold rounds;omega) (by omega) ?_ ?_
  ·intro a c ha hc
   have hl:=jr_ ls id i c a
   refine ⟨by omega,fun s=>?_⟩
   have ha':(a:Int)≤2:=by omega
   simp (disch:=omega) only [↓pq,ps,pz,↓reduceIte,reduceLE,reduceLT,reduceEq,reduceGT,reduceGE,reduceAdd,reduceSub,reduceMul,reduceNeg,uP_,uS_,ha',ag9_]
   unfold xL_
   split <;> rfl
  ·intro c s' hc
   simp (disch:=omega) only [↓pq,ps,pz,↓reduceIte,reduceLE,reduceLT,reduceEq,reduceGT,reduceGE,reduceAdd,reduceSub,reduceMul,reduceNeg,uP_,uS_,]
 ·intro c s hc
  have hi':¬ ((n.toNat:Int)+1≤n):=by omega
  simp (disch:=omega) only [↓pq,ps,pz,↓reduceIte,reduceLE,reduceLT,reduceEq,reduceGT,reduceGE,reduceAdd,reduceSub,reduceMul,reduceNeg,uP_,uS_,hi']
def al7_ (want e:Ear):Bool:=decide (e.node=want.node) && (decide (e.area=want.area) && (inB e.left 0 3 && !(e.both && decide (e.left=0))))
def xu_ (ears want:List Ear):Bool:=decide (want.length≤ears.length) && allB want.length fun i=>al7_ (gt want i) (gt ears i)
def alc_ (ears want:List Ear):Bool:=decide ((want.length:Int)=ears.length) && allB ears.length fun i=>al7_ (gt want i) (gt ears i)
def uR_ (x:Node):Bool:=qC_ x.self && (alc_ x.ears (v1_ x.self.net.links x.self.id x.self.net.n) && v0_ (j9_ x.ears) x.self.heard)
theorem aAm_ {x:Self} (h:qC_ x=true):1≤x.net.n∧x.net.n≤6:=by
 simp only [qC_,w8_,Bool.and_eq_true,inB_iff] at h
 exact h.1.1.1.1.1
theorem ao4_ (ls:List Link) (id n:Int) (h:n≤6):(v1_ ls id n).length≤18:=by
 have:=j4_ (l:=List.range n.toNat) (g:=qo_ ls id) (c:=[]) (Inv:=fun i (c:List Ear)=>c.length≤3 * i) (by simp) (fun i c hi hc=>by have:=ahk_ ls id c (gt (List.range n.toNat) i);omega)
 simp only [List.length_range] at this
 unfold v1_
 omega
theorem aGq_ (id boot n:Int) (ls:List Link) (ts:List Thing) (hd:List Int) (st:List Rcd) (es:List Ear) (h1:ls.length≤1048576) (h2:ts.length≤1048576) (h3:hd.length≤1048576) (h4:st.length≤1048576) (h5:NearL st) (h6:es.length≤1048576) :
  q0_ [ii id,ii boot,ii n,.l (ls.map zu_),.l (ts.map zt_),.l (hd.map eInt),.l (st.map eRcd),.l (es.map eEar)]=some [bb (uR_ ⟨⟨id,boot,⟨n,ls,ts⟩,hd,st⟩,es⟩)]:=by
 rw [aI9_];simp (disch:=omega) only [↓pq,ps,pz,↓reduceIte,reduceLE,reduceLT,reduceEq,reduceGT,reduceGE,reduceAdd,reduceSub,reduceMul,reduceNeg,uT_,ah2_,aHc_ _ _ _ _ _ _ _ h1 h2 h3 h4 h5]
 cases hs:qC_ ⟨id,boot,⟨n,ls,ts⟩,hd,st⟩ with
 | false=>simp [uR_,hs]
 | true =>
  have hn:1≤n∧n≤6:=aAm_ hs
  have hw:=ao4_ ls id n hn.2
  have hb:=and_ es
  simp only [not_true_eq_false,if_false]
  simp (disch:=omega) only [↓pq,ps,pz,↓reduceIte,reduceLE,reduceLT,reduceEq,reduceGT,reduceGE,reduceAdd,reduceSub,reduceMul,reduceNeg,uT_,aHn_ n ls _ id hn.2 h1]
  by_cases hl:((v1_ ls id n).length:Int)=es.length
  ·simp only [hl,not_true_eq_false,if_false]
   refine (xP_ es.length (fun i=>[bb false,ii i]) (fun i=>al7_ (gt (v1_ ls id n) i) (gt es i)) (outF:=some [bb false]) (outT:=some [bb (v0_ (j9_ es) hd)]) rfl (zc_ h6) ?_ ?_).trans (yJ_ _ _ _ |>.trans ?_)
   ·intro i hi s
    have hi':=hl ▸ hi
    simp (disch:=omega) only [↓pq,ps,pz,↓reduceIte,reduceLE,reduceLT,reduceEq,reduceGT,reduceGE,reduceAdd,reduceSub,reduceMul,reduceNeg,uT_,hi,jk_]
    unfold al7_
    grind
   ·intro s
    simp (disch:=omega) only [↓pq,ps,pz,↓reduceIte,reduceLE,reduceLT,reduceEq,reduceGT,reduceGE,reduceAdd,reduceSub,reduceMul,reduceNeg,uT_,aDp_ _ h6,akh_]
   ·unfold uR_ alc_
    simp [hs,hl]
  ·simp only [hl,not_false_eq_true,if_true]
   simp [uR_,alc_,hl]
theorem k7_ {ls:List Link} {id:Int} {v:Nat} {es c:List Ear} {a:Nat} (h:xu_ es (xL_ ls id v c a)=true):xu_ es c=true:=by
 unfold xL_ at h
 split at h
 ·simp only [xu_,Bool.and_eq_true,decide_eq_true_eq,List.length_append,List.length_singleton,allB_iff] at h ⊢
  refine ⟨by omega,fun i hi=>?_⟩
  have:=h.2 i (by omega)
  rwa [zr_ (by simp;omega),List.getElem_append_left hi,← zr_ hi] at this
 ·exact h
theorem aH5_ {ls:List Link} {id:Int} {v:Nat} {es c:List Ear} (h:xu_ es (qo_ ls id c v)=true):xu_ es c=true :=
 k7_ (k7_ (k7_ (show xu_ es (xL_ ls id v (xL_ ls id v (xL_ ls id v c 0) 1) 2)=true from h)))
theorem awu_ {es c:List Ear} {w:Ear} (hc:xu_ es c=true):xu_ es (c++[w])=(decide (c.length < es.length) && al7_ w (gt es c.length)):=by
 simp only [xu_,Bool.and_eq_true,decide_eq_true_eq,allB_iff] at hc
 rw [Bool.eq_iff_iff]
 simp only [xu_,Bool.and_eq_true,decide_eq_true_eq,List.length_append,List.length_singleton,allB_iff]
 constructor
 ·rintro ⟨h1,h2⟩
  refine ⟨by omega,?_⟩
  have:=h2 c.length (by omega)
  rwa [zr_ (by simp),List.getElem_append_right (Nat.le_refl _),List.getElem_singleton] at this
 ·rintro ⟨h1,h2⟩
  refine ⟨by omega,fun i hi=>?_⟩
  rcases Nat.lt_or_ge i c.length with h | h
  ·rw [zr_ (by simp;omega),List.getElem_append_left h,← zr_ h]
   exact hc.2 i h
  ·have:i=c.length:=by omega
   subst this
   rwa [zr_ (by simp),List.getElem_append_right (Nat.le_refl _),List.getElem_singleton]
theorem aH0_ (id boot n:Int) (ls:List Link) (ts:List Thing) (hd:List Int) (st:List Rcd) (es:List Ear) (h1:ls.length≤1048576) (h2:ts.length≤1048576) (h3:hd.length≤1048576) (h4:st.length≤1048576) (h5:NearL st) (h6:es.length≤1048576) :
  qY_ [ii id,ii boot,ii n,.l (ls.map zu_),.l (ts.map zt_),.l (hd.map eInt),.l (st.map eRcd),.l (es.map eEar)]=some [bb (uR_ ⟨⟨id,boot,⟨n,ls,ts⟩,hd,st⟩,es⟩)]:=by
 rw [aKd_];simp (disch:=omega) only [↓pq,ps,pz,↓reduceIte,reduceLE,reduceLT,reduceEq,reduceGT,reduceGE,reduceAdd,reduceSub,reduceMul,reduceNeg,vH_,vJ_,ah1_,aHx_ _ _ _ _ _ _ _ h1 h2 h3 h4 h5]
 cases hs:qC_ ⟨id,boot,⟨n,ls,ts⟩,hd,st⟩ with
 | false=>simp [uR_,hs]
 | true =>
  have hn:1≤n∧n≤6:=aAm_ hs
  have hw:=ao4_ ls id n hn.2
  have hb:=and_ es
  have hz:ascB (yo_ n) yn_ ls=true:=by simp only [qC_,w8_,Bool.and_eq_true] at hs;exact hs.1.1.2
  simp only [not_true_eq_false,if_false]
  have hpre0:xu_ es []=true:=by simp [xu_,allB]
  refine (asy_ n.toNat (fun i (c:List Ear)=>[bb false,ii c.length,ii (i+1)]) (fun i c=>xu_ es (qo_ ls id c i)) (qo_ ls id) (fun c=>if (c.length:Int)=es.length then some [bb (v0_ hd (j9_ es))] else some [bb false]) (outF:=some [bb false]) [] (fun i c=>xu_ es c=true∧c.length≤3 * i) rfl (zc_ (by omega)) ⟨hpre0,by simp⟩ ?_ ?_).trans ?_
  ·intro i c hi hc
   refine ⟨fun h=>⟨h,by have:=ahk_ ls id c i;omega⟩,fun s=>?_⟩
   have hi':(i:Int)+1≤n:=by omega
   simp (disch:=omega) only [↓pq,ps,pz,↓reduceIte,reduceLE,reduceLT,reduceEq,reduceGT,reduceGE,reduceAdd,reduceSub,reduceMul,reduceNeg,vH_,vJ_,hi']
   refine (asy_ 3 (fun a (c:List Ear)=>[bb false,ii c.length,ii a]) (fun a c=>xu_ es (xL_ ls id i c a)) (xL_ ls id i) (fun c=>s [bb false,ii c.length,ii ((i+1:Nat)+1)]) (outF:=some [bb false]) c (fun a c=>xu_ es c=true∧c.length≤3 * i+a) rfl (by unfold rounds;omega) ⟨hc.1,by omega⟩ ?_ ?_).trans ?_
   ·intro a c ha hc
    refine ⟨fun h=>⟨h,by have:=jr_ ls id i c a;omega⟩,fun s=>?_⟩
    have ha':(a:Int)≤2:=by omega
    have hz':=k8_ hz id (i+1) a
    simp (disch:=omega) only [↓pq,ps,pz,↓reduceIte,reduceLE,reduceLT,reduceEq,reduceGT,reduceGE,reduceAdd,reduceSub,reduceMul,reduceNeg,vH_,vJ_,ha',abe_,vf_]
    unfold xL_
    by_cases hf:0≤zq_ (zz_ id (i+1) a) ls
    ·have hne:¬ (xf_ ls id (i+1) a=0):=by omega
     have hlen:=awu_ (w:=⟨(i:Int)+1,a,0,false⟩) hc.1
     simp only [hf,if_true,hlen,hne,if_false,List.length_append,List.length_singleton,abw_,aki_]
     have hcc:((c.length:Int) ≥ es.length)=¬ (c.length < es.length):=by simp only [eq_iff_iff];omega
     unfold al7_
     grind
    ·have hne:xf_ ls id (i+1) a=0:=by omega
     simp only [hf,if_false,hc.1,if_true,hne]
   ·intro c s' hc
    simp (disch:=omega) only [↓pq,ps,pz,↓reduceIte,reduceLE,reduceLT,reduceEq,reduceGT,reduceGE,reduceAdd,reduceSub,reduceMul,reduceNeg,vH_,vJ_,]
   ·rw [awg_ (xu_ es) (fun c i=>k7_) (fun i c _ _=>rfl) hc.1]
    have e:(List.range 3).foldl (xL_ ls id i) c=qo_ ls id c i:=rfl
    rw [e]
    cases hp:xu_ es (qo_ ls id c i) with
    | true=>simp only [if_true,abw_,aki_]
    | false=>simp
  ·intro c s hc
   have hi':¬ ((n.toNat:Int)+1≤n):=by omega
   simp (disch:=omega) only [↓pq,ps,pz,↓reduceIte,reduceLE,reduceLT,reduceEq,reduceGT,reduceGE,reduceAdd,reduceSub,reduceMul,reduceNeg,vH_,vJ_,hi',axr_ _ h6,ad9_]
  ·rw [awg_ (xu_ es) (fun c i=>aH5_) (fun i c _ _=>rfl) hpre0]
   have hi2:v0_ hd (j9_ es)=v0_ (j9_ es) hd:=by rw [Bool.eq_iff_iff,apm_,apm_];exact eq_comm
   have hk:alc_ es (v1_ ls id n)=(xu_ es (v1_ ls id n) && decide (((v1_ ls id n).length:Int)=es.length)):=by
    unfold alc_ xu_
    by_cases hl:((v1_ ls id n).length:Int)=es.length
    ·rw [show es.length=(v1_ ls id n).length by omega];simp
    ·simp [hl]
   have e:(List.range n.toNat).foldl (qo_ ls id) []=v1_ ls id n:=rfl
   rw [e,hi2]
   unfold uR_
   simp only [hs,hk,Bool.true_and]
   by_cases hp:xu_ es (v1_ ls id n)=true
   ·by_cases hl:((v1_ ls id n).length:Int)=es.length <;> simp [hp,hl]
   ·simp [hp]
end Go.Proofs.YtiebbbmibbkpcaaGreatC

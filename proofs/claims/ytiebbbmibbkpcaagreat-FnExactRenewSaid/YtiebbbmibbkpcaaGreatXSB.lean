/- What the functions of records and stores compute. Conditions: none. -/
import Derived.Test.YtiebbbmibbkpcaaGreatXSA
namespace Go.Proofs.YtiebbbmibbkpcaaGreatC
open Int (reduceLE reduceLT reduceEq reduceGT reduceGE reduceAdd reduceSub reduceMul reduceNeg)
set_option linter.unusedVariables false
set_option linter.unusedSimpArgs false
def vd_ (o:Int) (l:List Near):Bool :=
 allB l.length fun i=>inB (gt l i).to 1 6 && !decide ((gt l i).to=o) && inB (gt l i).cost 1 1000 && (!decide ((i:Int) > 0) || decide ((gt l (i - 1:Int)).to < (gt l i).to))
theorem aEc_ (t0 t1:T) (o:Int) (t3 t4:T) (l:List Near) (t6 t7:T) (h:l.length≤1048576):qA_ [t0,t1,ii o,t3,t4,.l (l.map zE_),t6,t7]=some [bb (vd_ o l)]:=by
 rw [aEe_];simp (disch:=omega) only [↓pq,ps,pz,↓reduceIte,reduceLE,reduceLT,reduceEq,reduceGT,reduceGE,reduceAdd,reduceSub,reduceMul,reduceNeg,jr_,agz_]
 refine (wn_ l.length (fun i=>[bb false,ii i]) (fun i=>inB (gt l i).to 1 6 && !decide ((gt l i).to=o) && inB (gt l i).cost 1 1000 && (!decide ((i:Int) > 0) || decide ((gt l (i - 1:Int)).to < (gt l i).to))) (outF:=some [bb false]) (outT:=some [bb true]) rfl (zb_ h) ?_ ?_).trans (ym_ _ _ _ |>.trans (by unfold vd_;simp))
 ·intro i hi s
  simp (disch:=omega) only [↓pq,ps,pz,↓reduceIte,reduceLE,reduceLT,reduceEq,reduceGT,reduceGE,reduceAdd,reduceSub,reduceMul,reduceNeg,jr_,hi,k8_]
  grind
 ·intro s
  simp (disch:=omega) only [↓pq,ps,pz,↓reduceIte,reduceLE,reduceLT,reduceEq,reduceGT,reduceGE,reduceAdd,reduceSub,reduceMul,reduceNeg,jr_,]
theorem aBz_ (t0 t1:T) (o:Int) (t3 t4:T) (l:List Near) (t6 t7:T) (h:l.length≤1048576):uX_ [t0,t1,ii o,t3,t4,.l (l.map zE_),t6,t7]=some [bb (vd_ o l)]:=by
 rw [aAp_];simp (disch:=omega) only [↓pq,ps,pz,↓reduceIte,reduceLE,reduceLT,reduceEq,reduceGT,reduceGE,reduceAdd,reduceSub,reduceMul,reduceNeg,qG_,aec_]
 refine (wn_ l.length (fun i=>[bb false,ii i]) (fun i=>inB (gt l i).to 1 6 && !decide ((gt l i).to=o) && inB (gt l i).cost 1 1000 && (!decide ((i:Int) > 0) || decide ((gt l (i - 1:Int)).to < (gt l i).to))) (outF:=some [bb false]) (outT:=some [bb true]) rfl (zb_ h) ?_ ?_).trans (ym_ _ _ _ |>.trans (by unfold vd_;simp))
 ·intro i hi s
  simp (disch:=omega) only [↓pq,ps,pz,↓reduceIte,reduceLE,reduceLT,reduceEq,reduceGT,reduceGE,reduceAdd,reduceSub,reduceMul,reduceNeg,qG_,hi,vL_]
  grind
 ·intro s
  simp (disch:=omega) only [↓pq,ps,pz,↓reduceIte,reduceLE,reduceLT,reduceEq,reduceGT,reduceGE,reduceAdd,reduceSub,reduceMul,reduceNeg,qG_,]
def zV_ (r:Rcd):Bool :=
 inB r.owner 1 6 && inB r.seq 1 100000 &&
 if r.kind=1 then inB r.area 0 2 && decide (r.key=0) && vd_ r.owner r.near && decide (r.cost=0) && !r.far
 else if r.kind=2 then inB r.area 0 2 && inB r.key 1 6 && decide ((r.near.length:Int)=0) && inB r.cost 0 60000 && !r.far
 else if r.kind=3 then decide (r.area=9) && inB r.key 1 9 && decide ((r.near.length:Int)=0) && (inB r.cost 1 1000 || decide (r.cost=60000))
 else false
theorem ayn_ (a k o y s:Int) (l:List Near) (c:Int) (f:Bool) (h:l.length≤1048576):vY_ [ii a,ii k,ii o,ii y,ii s,.l (l.map zE_),ii c,bb f]=some [bb (zV_ ⟨a,k,o,y,s,l,c,f⟩)]:=by
 rw [at9_];simp (disch:=omega) only [↓pq,ps,pz,↓reduceIte,reduceLE,reduceLT,reduceEq,reduceGT,reduceGE,reduceAdd,reduceSub,reduceMul,reduceNeg,ac0_,k8_,aEc_,ym_];unfold zV_
 grind
theorem awj_ (a k o y s:Int) (l:List Near) (c:Int) (f:Bool) (h:l.length≤1048576):uk_ [ii a,ii k,ii o,ii y,ii s,.l (l.map zE_),ii c,bb f]=some [bb (zV_ ⟨a,k,o,y,s,l,c,f⟩)]:=by
 rw [aw6_];simp (disch:=omega) only [↓pq,ps,pz,↓reduceIte,reduceLE,reduceLT,reduceEq,reduceGT,reduceGE,reduceAdd,reduceSub,reduceMul,reduceNeg,acw_,vL_,aBz_,ym_];unfold zV_
 grind
def zn_ (a b:Rcd):Bool:=decide (a.area=b.area) && (decide (a.kind=b.kind) && (decide (a.owner=b.owner) && decide (a.key=b.key)))
theorem y6_ {a b:Rcd}:zn_ a b=true↔a.area=b.area∧a.kind=b.kind∧a.owner=b.owner∧a.key=b.key:=by simp [zn_]
theorem aeh_ (a k o y:Int) (s:T) (l c f:T) (a' k' o' y':Int) (s' l' c' f':T):xT_ [ii a,ii k,ii o,ii y,s,l,c,f,ii a',ii k',ii o',ii y',s',l',c',f']=some [bb (zn_ ⟨a,k,o,y,0,[],0,false⟩ ⟨a',k',o',y',0,[],0,false⟩)]:=by
 rw [aBq_];simp (disch:=omega) only [↓pq,ps,pz,↓reduceIte,reduceLE,reduceLT,reduceEq,reduceGT,reduceGE,reduceAdd,reduceSub,reduceMul,reduceNeg,aej_,ym_];unfold zn_
 grind
theorem al9_ (a k o y:Int) (s:T) (l c f:T) (a' k' o' y':Int) (s' l' c' f':T):wJ_ [ii a,ii k,ii o,ii y,s,l,c,f,ii a',ii k',ii o',ii y',s',l',c',f']=some [bb (zn_ ⟨a,k,o,y,0,[],0,false⟩ ⟨a',k',o',y',0,[],0,false⟩)]:=by
 rw [aAb_];simp (disch:=omega) only [↓pq,ps,pz,↓reduceIte,reduceLE,reduceLT,reduceEq,reduceGT,reduceGE,reduceAdd,reduceSub,reduceMul,reduceNeg,aev_,ym_];unfold zn_
 grind
def zA_ (a b:Rcd):Bool:=decide (a.area < b.area∨a.area=b.area∧(a.kind < b.kind∨a.kind=b.kind∧(a.owner < b.owner∨a.owner=b.owner∧a.key < b.key)))
theorem yY_ {a b:Rcd}:zA_ a b=true↔a.area < b.area∨a.area=b.area∧(a.kind < b.kind∨a.kind=b.kind∧(a.owner < b.owner∨a.owner=b.owner∧a.key < b.key)):=by simp [zA_]
theorem ah5_ (a k o y:Int) (s:T) (l c f:T) (a' k' o' y':Int) (s' l' c' f':T):wW_ [ii a,ii k,ii o,ii y,s,l,c,f,ii a',ii k',ii o',ii y',s',l',c',f']=some [bb (zA_ ⟨a,k,o,y,0,[],0,false⟩ ⟨a',k',o',y',0,[],0,false⟩)]:=by
 rw [aEw_];simp (disch:=omega) only [↓pq,ps,pz,↓reduceIte,reduceLE,reduceLT,reduceEq,reduceGT,reduceGE,reduceAdd,reduceSub,reduceMul,reduceNeg,ag8_,ym_];unfold zA_
 grind
theorem air_ (a k o y:Int) (s:T) (l c f:T) (a' k' o' y':Int) (s' l' c' f':T):wZ_ [ii a,ii k,ii o,ii y,s,l,c,f,ii a',ii k',ii o',ii y',s',l',c',f']=some [bb (zA_ ⟨a,k,o,y,0,[],0,false⟩ ⟨a',k',o',y',0,[],0,false⟩)]:=by
 rw [aEn_];simp (disch:=omega) only [↓pq,ps,pz,↓reduceIte,reduceLE,reduceLT,reduceEq,reduceGT,reduceGE,reduceAdd,reduceSub,reduceMul,reduceNeg,aho_,ym_];unfold zA_
 grind
theorem aro_ (a b:Rcd):zA_ ⟨a.area,a.kind,a.owner,a.key,0,[],0,false⟩ ⟨b.area,b.kind,b.owner,b.key,0,[],0,false⟩=zA_ a b:=rfl
def ko_ (a b:List Near):Bool:=decide (a.length=b.length) && allB a.length fun i=>decide ((gt a i).to=(gt b i).to) && decide ((gt a i).cost=(gt b i).cost)
def wU_ (a b:Rcd):Bool:=zn_ a b && decide (a.cost=b.cost) && (a.far == b.far) && ko_ a.near b.near
theorem aj7_ (a k o y s:Int) (l:List Near) (c:Int) (f:Bool) (a' k' o' y' s':Int) (l':List Near) (c':Int) (f':Bool) (h:l.length≤1048576):un_ [ii a,ii k,ii o,ii y,ii s,.l (l.map zE_),ii c,bb f,ii a',ii k',ii o',ii y',ii s',.l (l'.map zE_),ii c',bb f']=some [bb (wU_ ⟨a,k,o,y,s,l,c,f⟩ ⟨a',k',o',y',s',l',c',f'⟩)]:=by
 rw [axl_];simp (disch:=omega) only [↓pq,ps,pz,↓reduceIte,reduceLE,reduceLT,reduceEq,reduceGT,reduceGE,reduceAdd,reduceSub,reduceMul,reduceNeg,wR_,ac5_,aeh_]
 by_cases hl:(l.length:Int)=l'.length
 ·rw [show iter _ _ _=(some [bb (ko_ l l')]:Option (List T)) from ?_]
  ·rw [show zn_ ⟨a,k,o,y,0,[],0,false⟩ ⟨a',k',o',y',0,[],0,false⟩=zn_ ⟨a,k,o,y,s,l,c,f⟩ ⟨a',k',o',y',s',l',c',f'⟩ from rfl]
   simp (disch:=omega) only [↓pq,ps,pz,↓reduceIte,reduceLE,reduceLT,reduceEq,reduceGT,reduceGE,reduceAdd,reduceSub,reduceMul,reduceNeg,wR_,ym_,hl];unfold wU_;grind
  refine (wn_ l.length (fun i=>[bb false,ii i]) (fun i=>decide ((gt l i).to=(gt l' i).to) && decide ((gt l i).cost=(gt l' i).cost)) (outF:=some [bb false]) (outT:=some [bb true]) rfl (zb_ h) ?_ ?_).trans (ym_ _ _ _ |>.trans (by unfold ko_;simp;omega))
  ·intro i hi s
   simp (disch:=omega) only [↓pq,ps,pz,↓reduceIte,reduceLE,reduceLT,reduceEq,reduceGT,reduceGE,reduceAdd,reduceSub,reduceMul,reduceNeg,wR_,hi]
   grind
  ·intro s
   simp (disch:=omega) only [↓pq,ps,pz,↓reduceIte,reduceLE,reduceLT,reduceEq,reduceGT,reduceGE,reduceAdd,reduceSub,reduceMul,reduceNeg,wR_,]
 ·rw [show zn_ ⟨a,k,o,y,0,[],0,false⟩ ⟨a',k',o',y',0,[],0,false⟩=zn_ ⟨a,k,o,y,s,l,c,f⟩ ⟨a',k',o',y',s',l',c',f'⟩ from rfl]
  have:ko_ l l'=false:=by unfold ko_;simp;omega
  simp (disch:=omega) only [↓pq,ps,pz,↓reduceIte,reduceLE,reduceLT,reduceEq,reduceGT,reduceGE,reduceAdd,reduceSub,reduceMul,reduceNeg,wR_,ym_,hl,not_false_eq_true];unfold wU_;grind
theorem akn_ (a k o y s:Int) (l:List Near) (c:Int) (f:Bool) (a' k' o' y' s':Int) (l':List Near) (c':Int) (f':Bool) (h:l.length≤1048576):v2_ [ii a,ii k,ii o,ii y,ii s,.l (l.map zE_),ii c,bb f,ii a',ii k',ii o',ii y',ii s',.l (l'.map zE_),ii c',bb f']=some [bb (wU_ ⟨a,k,o,y,s,l,c,f⟩ ⟨a',k',o',y',s',l',c',f'⟩)]:=by
 rw [avk_];simp (disch:=omega) only [↓pq,ps,pz,↓reduceIte,reduceLE,reduceLT,reduceEq,reduceGT,reduceGE,reduceAdd,reduceSub,reduceMul,reduceNeg,wQ_,acm_,al9_]
 by_cases hl:(l.length:Int)=l'.length
 ·rw [show iter _ _ _=(some [bb (ko_ l l')]:Option (List T)) from ?_]
  ·rw [show zn_ ⟨a,k,o,y,0,[],0,false⟩ ⟨a',k',o',y',0,[],0,false⟩=zn_ ⟨a,k,o,y,s,l,c,f⟩ ⟨a',k',o',y',s',l',c',f'⟩ from rfl]
   simp (disch:=omega) only [↓pq,ps,pz,↓reduceIte,reduceLE,reduceLT,reduceEq,reduceGT,reduceGE,reduceAdd,reduceSub,reduceMul,reduceNeg,wQ_,ym_,hl];unfold wU_;grind
  refine (wn_ l.length (fun i=>[bb false,ii i]) (fun i=>decide ((gt l i).to=(gt l' i).to) && decide ((gt l i).cost=(gt l' i).cost)) (outF:=some [bb false]) (outT:=some [bb true]) rfl (zb_ h) ?_ ?_).trans (ym_ _ _ _ |>.trans (by unfold ko_;simp;omega))
  ·intro i hi s
   simp (disch:=omega) only [↓pq,ps,pz,↓reduceIte,reduceLE,reduceLT,reduceEq,reduceGT,reduceGE,reduceAdd,reduceSub,reduceMul,reduceNeg,wQ_,hi]
   grind
  ·intro s
   simp (disch:=omega) only [↓pq,ps,pz,↓reduceIte,reduceLE,reduceLT,reduceEq,reduceGT,reduceGE,reduceAdd,reduceSub,reduceMul,reduceNeg,wQ_,]
 ·rw [show zn_ ⟨a,k,o,y,0,[],0,false⟩ ⟨a',k',o',y',0,[],0,false⟩=zn_ ⟨a,k,o,y,s,l,c,f⟩ ⟨a',k',o',y',s',l',c',f'⟩ from rfl]
  have:ko_ l l'=false:=by unfold ko_;simp;omega
  simp (disch:=omega) only [↓pq,ps,pz,↓reduceIte,reduceLE,reduceLT,reduceEq,reduceGT,reduceGE,reduceAdd,reduceSub,reduceMul,reduceNeg,wQ_,ym_,hl,not_false_eq_true];unfold wU_;grind
def zk_ (s:List Rcd):Bool:=decide (s.length≤150) && ascB zV_ zA_ s
def NearL (s:List Rcd):Prop:=∀ r∈s,r.near.length≤1048576
theorem NearL.gt {s:List Rcd} (h:NearL s) {n:Int} (h0:0≤n) (h1:n < s.length):(Go.Proofs.YtiebbbmibbkpcaaGreatC.gt s n).near.length≤1048576:=h _ (z2_ h0 h1)
theorem avl_ {s:List Rcd} (h:blks uc_ s≤1048576):NearL s:=fun r hr=>by
 have h1:=aNe_ (f:=uc_) hr
 have h2:=kU_ (f:=kx_) r.near
 have h3:uc_ r=blks kx_ r.near:=rfl
 omega
theorem amx_ (s:List Rcd) (h:s.length≤1048576) (hn:NearL s):wL_ [.l (s.map eRcd)]=some [bb (zk_ s)]:=by
 rw [aB2_];simp (disch:=omega) only [↓pq,ps,pz,↓reduceIte,reduceLE,reduceLT,reduceEq,reduceGT,reduceGE,reduceAdd,reduceSub,reduceMul,reduceNeg,qF_,aeq_]
 refine (wn_ s.length (fun i=>[bb false,ii i]) (fun i=>zV_ (gt s i) && (!decide ((i:Int) > 0) || zA_ (gt s (i - 1:Int)) (gt s i))) (outF:=some [bb false]) (outT:=some [bb (decide (s.length≤150))]) rfl (zb_ h) ?_ ?_).trans (ym_ _ _ _ |>.trans (by unfold zk_ ascB;grind))
 ·intro i hi s1
  have:=hn.gt (n:=i) (by omega) hi
  simp (disch:=omega) only [↓pq,ps,pz,↓reduceIte,reduceLE,reduceLT,reduceEq,reduceGT,reduceGE,reduceAdd,reduceSub,reduceMul,reduceNeg,qF_,hi,ayn_,ah5_,aro_]
  grind
 ·intro s1
  simp (disch:=omega) only [↓pq,ps,pz,↓reduceIte,reduceLE,reduceLT,reduceEq,reduceGT,reduceGE,reduceAdd,reduceSub,reduceMul,reduceNeg,qF_,]
  simp;omega
theorem ji_ (s:List Rcd) (h:s.length≤1048576) (hn:NearL s):yD_ [.l (s.map eRcd)]=some [bb (zk_ s)]:=by
 rw [aB7_];simp (disch:=omega) only [↓pq,ps,pz,↓reduceIte,reduceLE,reduceLT,reduceEq,reduceGT,reduceGE,reduceAdd,reduceSub,reduceMul,reduceNeg,q9_,ad9_]
 by_cases h1:s.length≤150
 ·have h2:¬ ((s.length:Int) > 150):=by omega
  simp only [h2,if_false]
  refine (wn_ s.length (fun i=>[bb false,ii i]) (fun i=>zV_ (gt s i) && (!decide ((i:Int) > 0) || zA_ (gt s (i - 1:Int)) (gt s i))) (outF:=some [bb false]) (outT:=some [bb true]) rfl (zb_ h) ?_ ?_).trans (ym_ _ _ _ |>.trans (by unfold zk_ ascB;grind))
  ·intro i hi s1
   have:=hn.gt (n:=i) (by omega) hi
   simp (disch:=omega) only [↓pq,ps,pz,↓reduceIte,reduceLE,reduceLT,reduceEq,reduceGT,reduceGE,reduceAdd,reduceSub,reduceMul,reduceNeg,q9_,hi,awj_,air_,aro_]
   grind
  ·intro s1
   simp (disch:=omega) only [↓pq,ps,pz,↓reduceIte,reduceLE,reduceLT,reduceEq,reduceGT,reduceGE,reduceAdd,reduceSub,reduceMul,reduceNeg,q9_,]
 ·have h2:((s.length:Int) > 150):=by omega
  unfold zk_
  simp [h2,h1]
end Go.Proofs.YtiebbbmibbkpcaaGreatC

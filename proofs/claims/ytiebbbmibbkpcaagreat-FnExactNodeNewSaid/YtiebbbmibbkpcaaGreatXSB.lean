/- What the functions of records and stores compute. Conditions: none. -/
import Derived.Test.YtiebbbmibbkpcaaGreatXSA
namespace Go.Proofs.YtiebbbmibbkpcaaGreatC
open Int (reduceLE reduceLT reduceEq reduceGT reduceGE reduceAdd reduceSub reduceMul reduceNeg)
set_option linter.unusedVariables false
set_option linter.unusedSimpArgs false
def vt_ (o:Int) (l:List Near):Bool :=
 allB l.length fun i=>inB (gt l i).to 1 6 && !decide ((gt l i).to=o) && inB (gt l i).cost 1 1000 && (!decide ((i:Int) > 0) || decide ((gt l (i - 1:Int)).to < (gt l i).to))
theorem aG3_ (t0 t1:T) (o:Int) (t3 t4:T) (l:List Near) (t6 t7:T) (h:l.length≤1048576):q5_ [t0,t1,ii o,t3,t4,.l (l.map zF_),t6,t7]=some [bb (vt_ o l)]:=by
 rw [aGs_];simp (disch:=omega) only [↓pq,ps,pz,↓reduceIte,reduceLE,reduceLT,reduceEq,reduceGT,reduceGE,reduceAdd,reduceSub,reduceMul,reduceNeg,jt_,ag2_]
 refine (wt_ l.length (fun i=>[bb false,ii i]) (fun i=>inB (gt l i).to 1 6 && !decide ((gt l i).to=o) && inB (gt l i).cost 1 1000 && (!decide ((i:Int) > 0) || decide ((gt l (i - 1:Int)).to < (gt l i).to))) (outF:=some [bb false]) (outT:=some [bb true]) rfl (zb_ h) ?_ ?_).trans (yj_ _ _ _ |>.trans (by unfold vt_;simp))
 ·intro i hi s
  simp (disch:=omega) only [↓pq,ps,pz,↓reduceIte,reduceLE,reduceLT,reduceEq,reduceGT,reduceGE,reduceAdd,reduceSub,reduceMul,reduceNeg,jt_,hi,aaf_]
  grind
 ·intro s
  simp (disch:=omega) only [↓pq,ps,pz,↓reduceIte,reduceLE,reduceLT,reduceEq,reduceGT,reduceGE,reduceAdd,reduceSub,reduceMul,reduceNeg,jt_,]
theorem aBw_ (t0 t1:T) (o:Int) (t3 t4:T) (l:List Near) (t6 t7:T) (h:l.length≤1048576):u1_ [t0,t1,ii o,t3,t4,.l (l.map zF_),t6,t7]=some [bb (vt_ o l)]:=by
 rw [azt_];simp (disch:=omega) only [↓pq,ps,pz,↓reduceIte,reduceLE,reduceLT,reduceEq,reduceGT,reduceGE,reduceAdd,reduceSub,reduceMul,reduceNeg,ja_,aek_]
 refine (wt_ l.length (fun i=>[bb false,ii i]) (fun i=>inB (gt l i).to 1 6 && !decide ((gt l i).to=o) && inB (gt l i).cost 1 1000 && (!decide ((i:Int) > 0) || decide ((gt l (i - 1:Int)).to < (gt l i).to))) (outF:=some [bb false]) (outT:=some [bb true]) rfl (zb_ h) ?_ ?_).trans (yj_ _ _ _ |>.trans (by unfold vt_;simp))
 ·intro i hi s
  simp (disch:=omega) only [↓pq,ps,pz,↓reduceIte,reduceLE,reduceLT,reduceEq,reduceGT,reduceGE,reduceAdd,reduceSub,reduceMul,reduceNeg,ja_,hi,vT_]
  grind
 ·intro s
  simp (disch:=omega) only [↓pq,ps,pz,↓reduceIte,reduceLE,reduceLT,reduceEq,reduceGT,reduceGE,reduceAdd,reduceSub,reduceMul,reduceNeg,ja_,]
def zR_ (r:Rcd):Bool :=
 inB r.owner 1 6 && inB r.seq 1 100000 &&
 if r.kind=1 then inB r.area 0 2 && decide (r.key=0) && vt_ r.owner r.near && decide (r.cost=0) && !r.far
 else if r.kind=2 then inB r.area 0 2 && inB r.key 1 6 && decide ((r.near.length:Int)=0) && inB r.cost 0 60000 && !r.far
 else if r.kind=3 then decide (r.area=9) && inB r.key 1 9 && decide ((r.near.length:Int)=0) && (inB r.cost 1 1000 || decide (r.cost=60000))
 else false
theorem awv_ (a k o y s:Int) (l:List Near) (c:Int) (f:Bool) (h:l.length≤1048576):uc_ [ii a,ii k,ii o,ii y,ii s,.l (l.map zF_),ii c,bb f]=some [bb (zR_ ⟨a,k,o,y,s,l,c,f⟩)]:=by
 rw [ayo_];simp (disch:=omega) only [↓pq,ps,pz,↓reduceIte,reduceLE,reduceLT,reduceEq,reduceGT,reduceGE,reduceAdd,reduceSub,reduceMul,reduceNeg,acl_,aaf_,aG3_,yj_];unfold zR_
 grind
theorem avq_ (a k o y s:Int) (l:List Near) (c:Int) (f:Bool) (h:l.length≤1048576):uq_ [ii a,ii k,ii o,ii y,ii s,.l (l.map zF_),ii c,bb f]=some [bb (zR_ ⟨a,k,o,y,s,l,c,f⟩)]:=by
 rw [av3_];simp (disch:=omega) only [↓pq,ps,pz,↓reduceIte,reduceLE,reduceLT,reduceEq,reduceGT,reduceGE,reduceAdd,reduceSub,reduceMul,reduceNeg,ace_,vT_,aBw_,yj_];unfold zR_
 grind
def zp_ (a b:Rcd):Bool:=decide (a.area=b.area) && (decide (a.kind=b.kind) && (decide (a.owner=b.owner) && decide (a.key=b.key)))
theorem xa_ {a b:Rcd}:zp_ a b=true↔a.area=b.area∧a.kind=b.kind∧a.owner=b.owner∧a.key=b.key:=by simp [zp_]
theorem aey_ (a k o y:Int) (s:T) (l c f:T) (a' k' o' y':Int) (s' l' c' f':T):xY_ [ii a,ii k,ii o,ii y,s,l,c,f,ii a',ii k',ii o',ii y',s',l',c',f']=some [bb (zp_ ⟨a,k,o,y,0,[],0,false⟩ ⟨a',k',o',y',0,[],0,false⟩)]:=by
 rw [aCo_];simp (disch:=omega) only [↓pq,ps,pz,↓reduceIte,reduceLE,reduceLT,reduceEq,reduceGT,reduceGE,reduceAdd,reduceSub,reduceMul,reduceNeg,aeo_,yj_];unfold zp_
 grind
theorem ami_ (a k o y:Int) (s:T) (l c f:T) (a' k' o' y':Int) (s' l' c' f':T):wL_ [ii a,ii k,ii o,ii y,s,l,c,f,ii a',ii k',ii o',ii y',s',l',c',f']=some [bb (zp_ ⟨a,k,o,y,0,[],0,false⟩ ⟨a',k',o',y',0,[],0,false⟩)]:=by
 rw [az9_];simp (disch:=omega) only [↓pq,ps,pz,↓reduceIte,reduceLE,reduceLT,reduceEq,reduceGT,reduceGE,reduceAdd,reduceSub,reduceMul,reduceNeg,aeh_,yj_];unfold zp_
 grind
def zC_ (a b:Rcd):Bool:=decide (a.area < b.area∨a.area=b.area∧(a.kind < b.kind∨a.kind=b.kind∧(a.owner < b.owner∨a.owner=b.owner∧a.key < b.key)))
theorem y0_ {a b:Rcd}:zC_ a b=true↔a.area < b.area∨a.area=b.area∧(a.kind < b.kind∨a.kind=b.kind∧(a.owner < b.owner∨a.owner=b.owner∧a.key < b.key)):=by simp [zC_]
theorem agm_ (a k o y:Int) (s:T) (l c f:T) (a' k' o' y':Int) (s' l' c' f':T):vd_ [ii a,ii k,ii o,ii y,s,l,c,f,ii a',ii k',ii o',ii y',s',l',c',f']=some [bb (zC_ ⟨a,k,o,y,0,[],0,false⟩ ⟨a',k',o',y',0,[],0,false⟩)]:=by
 rw [aHu_];simp (disch:=omega) only [↓pq,ps,pz,↓reduceIte,reduceLE,reduceLT,reduceEq,reduceGT,reduceGE,reduceAdd,reduceSub,reduceMul,reduceNeg,ahq_,yj_];unfold zC_
 grind
theorem ah6_ (a k o y:Int) (s:T) (l c f:T) (a' k' o' y':Int) (s' l' c' f':T):ve_ [ii a,ii k,ii o,ii y,s,l,c,f,ii a',ii k',ii o',ii y',s',l',c',f']=some [bb (zC_ ⟨a,k,o,y,0,[],0,false⟩ ⟨a',k',o',y',0,[],0,false⟩)]:=by
 rw [aGb_];simp (disch:=omega) only [↓pq,ps,pz,↓reduceIte,reduceLE,reduceLT,reduceEq,reduceGT,reduceGE,reduceAdd,reduceSub,reduceMul,reduceNeg,aih_,yj_];unfold zC_
 grind
theorem ar8_ (a b:Rcd):zC_ ⟨a.area,a.kind,a.owner,a.key,0,[],0,false⟩ ⟨b.area,b.kind,b.owner,b.key,0,[],0,false⟩=zC_ a b:=rfl
def kF_ (a b:List Near):Bool:=decide (a.length=b.length) && allB a.length fun i=>decide ((gt a i).to=(gt b i).to) && decide ((gt a i).cost=(gt b i).cost)
def w0_ (a b:Rcd):Bool:=zp_ a b && decide (a.cost=b.cost) && (a.far == b.far) && kF_ a.near b.near
theorem akx_ (a k o y s:Int) (l:List Near) (c:Int) (f:Bool) (a' k' o' y' s':Int) (l':List Near) (c':Int) (f':Bool) (h:l.length≤1048576):us_ [ii a,ii k,ii o,ii y,ii s,.l (l.map zF_),ii c,bb f,ii a',ii k',ii o',ii y',ii s',.l (l'.map zF_),ii c',bb f']=some [bb (w0_ ⟨a,k,o,y,s,l,c,f⟩ ⟨a',k',o',y',s',l',c',f'⟩)]:=by
 rw [au5_];simp (disch:=omega) only [↓pq,ps,pz,↓reduceIte,reduceLE,reduceLT,reduceEq,reduceGT,reduceGE,reduceAdd,reduceSub,reduceMul,reduceNeg,wX_,ach_,aey_]
 by_cases hl:(l.length:Int)=l'.length
 ·rw [show iter _ _ _=(some [bb (kF_ l l')]:Option (List T)) from ?_]
  ·rw [show zp_ ⟨a,k,o,y,0,[],0,false⟩ ⟨a',k',o',y',0,[],0,false⟩=zp_ ⟨a,k,o,y,s,l,c,f⟩ ⟨a',k',o',y',s',l',c',f'⟩ from rfl]
   simp (disch:=omega) only [↓pq,ps,pz,↓reduceIte,reduceLE,reduceLT,reduceEq,reduceGT,reduceGE,reduceAdd,reduceSub,reduceMul,reduceNeg,wX_,yj_,hl];unfold w0_;grind
  refine (wt_ l.length (fun i=>[bb false,ii i]) (fun i=>decide ((gt l i).to=(gt l' i).to) && decide ((gt l i).cost=(gt l' i).cost)) (outF:=some [bb false]) (outT:=some [bb true]) rfl (zb_ h) ?_ ?_).trans (yj_ _ _ _ |>.trans (by unfold kF_;simp;omega))
  ·intro i hi s
   simp (disch:=omega) only [↓pq,ps,pz,↓reduceIte,reduceLE,reduceLT,reduceEq,reduceGT,reduceGE,reduceAdd,reduceSub,reduceMul,reduceNeg,wX_,hi]
   grind
  ·intro s
   simp (disch:=omega) only [↓pq,ps,pz,↓reduceIte,reduceLE,reduceLT,reduceEq,reduceGT,reduceGE,reduceAdd,reduceSub,reduceMul,reduceNeg,wX_,]
 ·rw [show zp_ ⟨a,k,o,y,0,[],0,false⟩ ⟨a',k',o',y',0,[],0,false⟩=zp_ ⟨a,k,o,y,s,l,c,f⟩ ⟨a',k',o',y',s',l',c',f'⟩ from rfl]
  have:kF_ l l'=false:=by unfold kF_;simp;omega
  simp (disch:=omega) only [↓pq,ps,pz,↓reduceIte,reduceLE,reduceLT,reduceEq,reduceGT,reduceGE,reduceAdd,reduceSub,reduceMul,reduceNeg,wX_,yj_,hl,not_false_eq_true];unfold w0_;grind
theorem ake_ (a k o y s:Int) (l:List Near) (c:Int) (f:Bool) (a' k' o' y' s':Int) (l':List Near) (c':Int) (f':Bool) (h:l.length≤1048576):uk_ [ii a,ii k,ii o,ii y,ii s,.l (l.map zF_),ii c,bb f,ii a',ii k',ii o',ii y',ii s',.l (l'.map zF_),ii c',bb f']=some [bb (w0_ ⟨a,k,o,y,s,l,c,f⟩ ⟨a',k',o',y',s',l',c',f'⟩)]:=by
 rw [aw8_];simp (disch:=omega) only [↓pq,ps,pz,↓reduceIte,reduceLE,reduceLT,reduceEq,reduceGT,reduceGE,reduceAdd,reduceSub,reduceMul,reduceNeg,wU_,acb_,ami_]
 by_cases hl:(l.length:Int)=l'.length
 ·rw [show iter _ _ _=(some [bb (kF_ l l')]:Option (List T)) from ?_]
  ·rw [show zp_ ⟨a,k,o,y,0,[],0,false⟩ ⟨a',k',o',y',0,[],0,false⟩=zp_ ⟨a,k,o,y,s,l,c,f⟩ ⟨a',k',o',y',s',l',c',f'⟩ from rfl]
   simp (disch:=omega) only [↓pq,ps,pz,↓reduceIte,reduceLE,reduceLT,reduceEq,reduceGT,reduceGE,reduceAdd,reduceSub,reduceMul,reduceNeg,wU_,yj_,hl];unfold w0_;grind
  refine (wt_ l.length (fun i=>[bb false,ii i]) (fun i=>decide ((gt l i).to=(gt l' i).to) && decide ((gt l i).cost=(gt l' i).cost)) (outF:=some [bb false]) (outT:=some [bb true]) rfl (zb_ h) ?_ ?_).trans (yj_ _ _ _ |>.trans (by unfold kF_;simp;omega))
  ·intro i hi s
   simp (disch:=omega) only [↓pq,ps,pz,↓reduceIte,reduceLE,reduceLT,reduceEq,reduceGT,reduceGE,reduceAdd,reduceSub,reduceMul,reduceNeg,wU_,hi]
   grind
  ·intro s
   simp (disch:=omega) only [↓pq,ps,pz,↓reduceIte,reduceLE,reduceLT,reduceEq,reduceGT,reduceGE,reduceAdd,reduceSub,reduceMul,reduceNeg,wU_,]
 ·rw [show zp_ ⟨a,k,o,y,0,[],0,false⟩ ⟨a',k',o',y',0,[],0,false⟩=zp_ ⟨a,k,o,y,s,l,c,f⟩ ⟨a',k',o',y',s',l',c',f'⟩ from rfl]
  have:kF_ l l'=false:=by unfold kF_;simp;omega
  simp (disch:=omega) only [↓pq,ps,pz,↓reduceIte,reduceLE,reduceLT,reduceEq,reduceGT,reduceGE,reduceAdd,reduceSub,reduceMul,reduceNeg,wU_,yj_,hl,not_false_eq_true];unfold w0_;grind
def zk_ (s:List Rcd):Bool:=decide (s.length≤150) && ascB zR_ zC_ s
def NearL (s:List Rcd):Prop:=∀ r∈s,r.near.length≤1048576
theorem NearL.gt {s:List Rcd} (h:NearL s) {n:Int} (h0:0≤n) (h1:n < s.length):(Go.Proofs.YtiebbbmibbkpcaaGreatC.gt s n).near.length≤1048576:=h _ (zX_ h0 h1)
theorem amh_ (s:List Rcd) (h:s.length≤1048576) (hn:NearL s):wO_ [.l (s.map eRcd)]=some [bb (zk_ s)]:=by
 rw [aCy_];simp (disch:=omega) only [↓pq,ps,pz,↓reduceIte,reduceLE,reduceLT,reduceEq,reduceGT,reduceGE,reduceAdd,reduceSub,reduceMul,reduceNeg,qZ_,aej_]
 refine (wt_ s.length (fun i=>[bb false,ii i]) (fun i=>zR_ (gt s i) && (!decide ((i:Int) > 0) || zC_ (gt s (i - 1:Int)) (gt s i))) (outF:=some [bb false]) (outT:=some [bb (decide (s.length≤150))]) rfl (zb_ h) ?_ ?_).trans (yj_ _ _ _ |>.trans (by unfold zk_ ascB;grind))
 ·intro i hi s1
  have:=hn.gt (n:=i) (by omega) hi
  simp (disch:=omega) only [↓pq,ps,pz,↓reduceIte,reduceLE,reduceLT,reduceEq,reduceGT,reduceGE,reduceAdd,reduceSub,reduceMul,reduceNeg,qZ_,hi,awv_,agm_,ar8_]
  grind
 ·intro s1
  simp (disch:=omega) only [↓pq,ps,pz,↓reduceIte,reduceLE,reduceLT,reduceEq,reduceGT,reduceGE,reduceAdd,reduceSub,reduceMul,reduceNeg,qZ_,]
  simp;omega
theorem jl_ (s:List Rcd) (h:s.length≤1048576) (hn:NearL s):yE_ [.l (s.map eRcd)]=some [bb (zk_ s)]:=by
 rw [aA4_];simp (disch:=omega) only [↓pq,ps,pz,↓reduceIte,reduceLE,reduceLT,reduceEq,reduceGT,reduceGE,reduceAdd,reduceSub,reduceMul,reduceNeg,qD_,aet_]
 by_cases h1:s.length≤150
 ·have h2:¬ ((s.length:Int) > 150):=by omega
  simp only [h2,if_false]
  refine (wt_ s.length (fun i=>[bb false,ii i]) (fun i=>zR_ (gt s i) && (!decide ((i:Int) > 0) || zC_ (gt s (i - 1:Int)) (gt s i))) (outF:=some [bb false]) (outT:=some [bb true]) rfl (zb_ h) ?_ ?_).trans (yj_ _ _ _ |>.trans (by unfold zk_ ascB;grind))
  ·intro i hi s1
   have:=hn.gt (n:=i) (by omega) hi
   simp (disch:=omega) only [↓pq,ps,pz,↓reduceIte,reduceLE,reduceLT,reduceEq,reduceGT,reduceGE,reduceAdd,reduceSub,reduceMul,reduceNeg,qD_,hi,avq_,ah6_,ar8_]
   grind
  ·intro s1
   simp (disch:=omega) only [↓pq,ps,pz,↓reduceIte,reduceLE,reduceLT,reduceEq,reduceGT,reduceGE,reduceAdd,reduceSub,reduceMul,reduceNeg,qD_,]
 ·have h2:((s.length:Int) > 150):=by omega
  unfold zk_
  simp [h2,h1]
end Go.Proofs.YtiebbbmibbkpcaaGreatC

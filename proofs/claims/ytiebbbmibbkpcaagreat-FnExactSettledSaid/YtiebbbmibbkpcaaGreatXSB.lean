/- What the functions of records and stores compute. Conditions: none. -/
import Derived.Test.YtiebbbmibbkpcaaGreatXSA
namespace Go.Proofs.YtiebbbmibbkpcaaGreatC
open Int (reduceLE reduceLT reduceEq reduceGT reduceGE reduceAdd reduceSub reduceMul reduceNeg)
set_option linter.unusedVariables false
set_option linter.unusedSimpArgs false
def vN_ (o:Int) (l:List Near):Bool :=
 allB l.length fun i=>inB (gt l i).to 1 6 && !decide ((gt l i).to=o) && inB (gt l i).cost 1 1000 && (!decide ((i:Int) > 0) || decide ((gt l (i - 1:Int)).to < (gt l i).to))
theorem aI5_ (t0 t1:T) (o:Int) (t3 t4:T) (l:List Near) (t6 t7:T) (h:l.length≤1048576):qS_ [t0,t1,ii o,t3,t4,.l (l.map z8_),t6,t7]=some [bb (vN_ o l)]:=by
 rw [aIk_];simp (disch:=omega) only [↓pq,ps,pz,↓reduceIte,reduceLE,reduceLT,reduceEq,reduceGT,reduceGE,reduceAdd,reduceSub,reduceMul,reduceNeg,jC_,aho_]
 refine (xP_ l.length (fun i=>[bb false,ii i]) (fun i=>inB (gt l i).to 1 6 && !decide ((gt l i).to=o) && inB (gt l i).cost 1 1000 && (!decide ((i:Int) > 0) || decide ((gt l (i - 1:Int)).to < (gt l i).to))) (outF:=some [bb false]) (outT:=some [bb true]) rfl (zc_ h) ?_ ?_).trans (yJ_ _ _ _ |>.trans (by unfold vN_;simp))
 ·intro i hi s
  simp (disch:=omega) only [↓pq,ps,pz,↓reduceIte,reduceLE,reduceLT,reduceEq,reduceGT,reduceGE,reduceAdd,reduceSub,reduceMul,reduceNeg,jC_,hi,jk_]
  grind
 ·intro s
  simp (disch:=omega) only [↓pq,ps,pz,↓reduceIte,reduceLE,reduceLT,reduceEq,reduceGT,reduceGE,reduceAdd,reduceSub,reduceMul,reduceNeg,jC_,]
theorem aA9_ (t0 t1:T) (o:Int) (t3 t4:T) (l:List Near) (t6 t7:T) (h:l.length≤1048576):u4_ [t0,t1,ii o,t3,t4,.l (l.map z8_),t6,t7]=some [bb (vN_ o l)]:=by
 rw [aBw_];simp (disch:=omega) only [↓pq,ps,pz,↓reduceIte,reduceLE,reduceLT,reduceEq,reduceGT,reduceGE,reduceAdd,reduceSub,reduceMul,reduceNeg,qN_,ae1_]
 refine (xP_ l.length (fun i=>[bb false,ii i]) (fun i=>inB (gt l i).to 1 6 && !decide ((gt l i).to=o) && inB (gt l i).cost 1 1000 && (!decide ((i:Int) > 0) || decide ((gt l (i - 1:Int)).to < (gt l i).to))) (outF:=some [bb false]) (outT:=some [bb true]) rfl (zc_ h) ?_ ?_).trans (yJ_ _ _ _ |>.trans (by unfold vN_;simp))
 ·intro i hi s
  simp (disch:=omega) only [↓pq,ps,pz,↓reduceIte,reduceLE,reduceLT,reduceEq,reduceGT,reduceGE,reduceAdd,reduceSub,reduceMul,reduceNeg,qN_,hi,vf_]
  grind
 ·intro s
  simp (disch:=omega) only [↓pq,ps,pz,↓reduceIte,reduceLE,reduceLT,reduceEq,reduceGT,reduceGE,reduceAdd,reduceSub,reduceMul,reduceNeg,qN_,]
def x0_ (r:Rcd):Bool :=
 inB r.owner 1 6 && inB r.seq 1 100000 &&
 if r.kind=1 then inB r.area 0 2 && decide (r.key=0) && vN_ r.owner r.near && decide (r.cost=0) && !r.far
 else if r.kind=2 then inB r.area 0 2 && inB r.key 1 6 && decide ((r.near.length:Int)=0) && inB r.cost 0 60000 && !r.far
 else if r.kind=3 then decide (r.area=9) && inB r.key 1 9 && decide ((r.near.length:Int)=0) && (inB r.cost 1 1000 || decide (r.cost=60000))
 else false
theorem az4_ (a k o y s:Int) (l:List Near) (c:Int) (f:Bool) (h:l.length≤1048576):ue_ [ii a,ii k,ii o,ii y,ii s,.l (l.map z8_),ii c,bb f]=some [bb (x0_ ⟨a,k,o,y,s,l,c,f⟩)]:=by
 rw [az2_];simp (disch:=omega) only [↓pq,ps,pz,↓reduceIte,reduceLE,reduceLT,reduceEq,reduceGT,reduceGE,reduceAdd,reduceSub,reduceMul,reduceNeg,acm_,jk_,aI5_,yJ_];unfold x0_
 grind
theorem awm_ (a k o y s:Int) (l:List Near) (c:Int) (f:Bool) (h:l.length≤1048576):ug_ [ii a,ii k,ii o,ii y,ii s,.l (l.map z8_),ii c,bb f]=some [bb (x0_ ⟨a,k,o,y,s,l,c,f⟩)]:=by
 rw [aya_];simp (disch:=omega) only [↓pq,ps,pz,↓reduceIte,reduceLE,reduceLT,reduceEq,reduceGT,reduceGE,reduceAdd,reduceSub,reduceMul,reduceNeg,acd_,vf_,aA9_,yJ_];unfold x0_
 grind
def xd_ (a b:Rcd):Bool:=decide (a.area=b.area) && (decide (a.kind=b.kind) && (decide (a.owner=b.owner) && decide (a.key=b.key)))
theorem ael_ {a b:Rcd}:xd_ a b=true↔a.area=b.area∧a.kind=b.kind∧a.owner=b.owner∧a.key=b.key:=by simp [xd_]
theorem anb_ (a k o y:Int) (s:T) (l c f:T) (a' k' o' y':Int) (s' l' c' f':T):wL_ [ii a,ii k,ii o,ii y,s,l,c,f,ii a',ii k',ii o',ii y',s',l',c',f']=some [bb (xd_ ⟨a,k,o,y,0,[],0,false⟩ ⟨a',k',o',y',0,[],0,false⟩)]:=by
 rw [aBo_];simp (disch:=omega) only [↓pq,ps,pz,↓reduceIte,reduceLE,reduceLT,reduceEq,reduceGT,reduceGE,reduceAdd,reduceSub,reduceMul,reduceNeg,aex_,yJ_];unfold xd_
 grind
theorem aCf_ (a k o y:Int) (s:T) (l c f:T) (a' k' o' y':Int) (s' l' c' f':T):u8_ [ii a,ii k,ii o,ii y,s,l,c,f,ii a',ii k',ii o',ii y',s',l',c',f']=some [bb (xd_ ⟨a,k,o,y,0,[],0,false⟩ ⟨a',k',o',y',0,[],0,false⟩)]:=by
 rw [aDx_];simp (disch:=omega) only [↓pq,ps,pz,↓reduceIte,reduceLE,reduceLT,reduceEq,reduceGT,reduceGE,reduceAdd,reduceSub,reduceMul,reduceNeg,ae8_,yJ_];unfold xd_
 grind
def zN_ (a b:Rcd):Bool:=decide (a.area < b.area∨a.area=b.area∧(a.kind < b.kind∨a.kind=b.kind∧(a.owner < b.owner∨a.owner=b.owner∧a.key < b.key)))
theorem xE_ {a b:Rcd}:zN_ a b=true↔a.area < b.area∨a.area=b.area∧(a.kind < b.kind∨a.kind=b.kind∧(a.owner < b.owner∨a.owner=b.owner∧a.key < b.key)):=by simp [zN_]
theorem aid_ (a k o y:Int) (s:T) (l c f:T) (a' k' o' y':Int) (s' l' c' f':T):w6_ [ii a,ii k,ii o,ii y,s,l,c,f,ii a',ii k',ii o',ii y',s',l',c',f']=some [bb (zN_ ⟨a,k,o,y,0,[],0,false⟩ ⟨a',k',o',y',0,[],0,false⟩)]:=by
 rw [aG5_];simp (disch:=omega) only [↓pq,ps,pz,↓reduceIte,reduceLE,reduceLT,reduceEq,reduceGT,reduceGE,reduceAdd,reduceSub,reduceMul,reduceNeg,ahu_,yJ_];unfold zN_
 grind
theorem ahq_ (a k o y:Int) (s:T) (l c f:T) (a' k' o' y':Int) (s' l' c' f':T):w4_ [ii a,ii k,ii o,ii y,s,l,c,f,ii a',ii k',ii o',ii y',s',l',c',f']=some [bb (zN_ ⟨a,k,o,y,0,[],0,false⟩ ⟨a',k',o',y',0,[],0,false⟩)]:=by
 rw [aG0_];simp (disch:=omega) only [↓pq,ps,pz,↓reduceIte,reduceLE,reduceLT,reduceEq,reduceGT,reduceGE,reduceAdd,reduceSub,reduceMul,reduceNeg,agn_,yJ_];unfold zN_
 grind
theorem ato_ (a b:Rcd):zN_ ⟨a.area,a.kind,a.owner,a.key,0,[],0,false⟩ ⟨b.area,b.kind,b.owner,b.key,0,[],0,false⟩=zN_ a b:=rfl
def zJ_ (s:List Rcd):Bool:=decide (s.length≤150) && ascB x0_ zN_ s
def NearL (s:List Rcd):Prop:=∀ r∈s,r.near.length≤1048576
theorem NearL.gt {s:List Rcd} (h:NearL s) {n:Int} (h0:0≤n) (h1:n < s.length):(Go.Proofs.YtiebbbmibbkpcaaGreatC.gt s n).near.length≤1048576:=h _ (z1_ h0 h1)
theorem aQp_ {s:List Rcd} (h:blks jp_ s≤1048576):NearL s:=fun r hr=>by
 have h1:=aob_ (f:=jp_) hr
 have h2:=vy_ (f:=afq_) r.near
 have h3:jp_ r=blks afq_ r.near:=rfl
 omega
theorem amx_ (s:List Rcd) (h:s.length≤1048576) (hn:NearL s):wQ_ [.l (s.map eRcd)]=some [bb (zJ_ s)]:=by
 rw [aEq_];simp (disch:=omega) only [↓pq,ps,pz,↓reduceIte,reduceLE,reduceLT,reduceEq,reduceGT,reduceGE,reduceAdd,reduceSub,reduceMul,reduceNeg,qG_,afc_]
 refine (xP_ s.length (fun i=>[bb false,ii i]) (fun i=>x0_ (gt s i) && (!decide ((i:Int) > 0) || zN_ (gt s (i - 1:Int)) (gt s i))) (outF:=some [bb false]) (outT:=some [bb (decide (s.length≤150))]) rfl (zc_ h) ?_ ?_).trans (yJ_ _ _ _ |>.trans (by unfold zJ_ ascB;grind))
 ·intro i hi s1
  have:=hn.gt (n:=i) (by omega) hi
  simp (disch:=omega) only [↓pq,ps,pz,↓reduceIte,reduceLE,reduceLT,reduceEq,reduceGT,reduceGE,reduceAdd,reduceSub,reduceMul,reduceNeg,qG_,hi,az4_,aid_,ato_]
  grind
 ·intro s1
  simp (disch:=omega) only [↓pq,ps,pz,↓reduceIte,reduceLE,reduceLT,reduceEq,reduceGT,reduceGE,reduceAdd,reduceSub,reduceMul,reduceNeg,qG_,]
  simp;omega
theorem ji_ (s:List Rcd) (h:s.length≤1048576) (hn:NearL s):yX_ [.l (s.map eRcd)]=some [bb (zJ_ s)]:=by
 rw [aCl_];simp (disch:=omega) only [↓pq,ps,pz,↓reduceIte,reduceLE,reduceLT,reduceEq,reduceGT,reduceGE,reduceAdd,reduceSub,reduceMul,reduceNeg,qK_,ae3_]
 by_cases h1:s.length≤150
 ·have h2:¬ ((s.length:Int) > 150):=by omega
  simp only [h2,if_false]
  refine (xP_ s.length (fun i=>[bb false,ii i]) (fun i=>x0_ (gt s i) && (!decide ((i:Int) > 0) || zN_ (gt s (i - 1:Int)) (gt s i))) (outF:=some [bb false]) (outT:=some [bb true]) rfl (zc_ h) ?_ ?_).trans (yJ_ _ _ _ |>.trans (by unfold zJ_ ascB;grind))
  ·intro i hi s1
   have:=hn.gt (n:=i) (by omega) hi
   simp (disch:=omega) only [↓pq,ps,pz,↓reduceIte,reduceLE,reduceLT,reduceEq,reduceGT,reduceGE,reduceAdd,reduceSub,reduceMul,reduceNeg,qK_,hi,awm_,ahq_,ato_]
   grind
  ·intro s1
   simp (disch:=omega) only [↓pq,ps,pz,↓reduceIte,reduceLE,reduceLT,reduceEq,reduceGT,reduceGE,reduceAdd,reduceSub,reduceMul,reduceNeg,qK_,]
 ·have h2:((s.length:Int) > 150):=by omega
  unfold zJ_
  simp [h2,h1]
end Go.Proofs.YtiebbbmibbkpcaaGreatC

/- What the functions of records and stores compute. Conditions: none. -/
import Derived.Test.YtjimmglpkndemaaGreatXSA
namespace Go.Proofs.YtjimmglpkndemaaGreatC
open Int renaming reduceLE → Q0_, reduceLT → Q1_, reduceEq → Q2_, reduceGT → Q3_, reduceGE → Q4_, reduceAdd → Q5_, reduceSub → Q6_, reduceMul → Q7_, reduceNeg → Q8_
set_option linter.unusedVariables false
set_option linter.unusedSimpArgs false
def w5_ (o:Int) (l:List Near):Bool :=
 allB l.length fun i=>inB (gt l i).to 1 6 && !decide ((gt l i).to=o) && inB (gt l i).cost 1 1000 && (!decide ((i:Int) > 0) || decide ((gt l (i - 1:Int)).to < (gt l i).to))
theorem aEe_ (t0 t1:T) (o:Int) (t3 t4:T) (l:List Near) (t6 t7:T) (h:l.length≤1048576):qQ_ [t0,t1,ii o,t3,t4,.l (l.map zu_),t6,t7]=some [bb (w5_ o l)]:=by
 rw [aD1_];simp (disch:=omega) only [↓pq,↓pj,ps,pz,↓reduceIte,Q0_,Q1_,Q2_,Q3_,Q4_,Q5_,Q6_,Q7_,Q8_,jj_,af5_]
 refine (w3_ l.length (fun i=>[bb false,ii i]) (fun i=>inB (gt l i).to 1 6 && !decide ((gt l i).to=o) && inB (gt l i).cost 1 1000 && (!decide ((i:Int) > 0) || decide ((gt l (i - 1:Int)).to < (gt l i).to))) (outF:=some [bb false]) (outT:=some [bb true]) rfl (za_ h) ?_ ?_).trans (yx_ _ _ _ |>.trans (by unfold w5_;simp))
 ·intro i hi s
  simp (disch:=omega) only [↓pq,↓pj,ps,pz,↓reduceIte,Q0_,Q1_,Q2_,Q3_,Q4_,Q5_,Q6_,Q7_,Q8_,jj_,hi,aco_]
  grind
 ·intro s
  simp (disch:=omega) only [↓pq,↓pj,ps,pz,↓reduceIte,Q0_,Q1_,Q2_,Q3_,Q4_,Q5_,Q6_,Q7_,Q8_,jj_,]
theorem aya_ (t0 t1:T) (o:Int) (t3 t4:T) (l:List Near) (t6 t7:T) (h:l.length≤1048576):uX_ [t0,t1,ii o,t3,t4,.l (l.map zu_),t6,t7]=some [bb (w5_ o l)]:=by
 rw [az2_];simp (disch:=omega) only [↓pq,↓pj,ps,pz,↓reduceIte,Q0_,Q1_,Q2_,Q3_,Q4_,Q5_,Q6_,Q7_,Q8_,qX_,ad4_]
 refine (w3_ l.length (fun i=>[bb false,ii i]) (fun i=>inB (gt l i).to 1 6 && !decide ((gt l i).to=o) && inB (gt l i).cost 1 1000 && (!decide ((i:Int) > 0) || decide ((gt l (i - 1:Int)).to < (gt l i).to))) (outF:=some [bb false]) (outT:=some [bb true]) rfl (za_ h) ?_ ?_).trans (yx_ _ _ _ |>.trans (by unfold w5_;simp))
 ·intro i hi s
  simp (disch:=omega) only [↓pq,↓pj,ps,pz,↓reduceIte,Q0_,Q1_,Q2_,Q3_,Q4_,Q5_,Q6_,Q7_,Q8_,qX_,hi,uB_]
  grind
 ·intro s
  simp (disch:=omega) only [↓pq,↓pj,ps,pz,↓reduceIte,Q0_,Q1_,Q2_,Q3_,Q4_,Q5_,Q6_,Q7_,Q8_,qX_,]
def zE_ (r:Rcd):Bool :=
 inB r.owner 1 6 && inB r.seq 1 100000 &&
 if r.kind=1 then inB r.area 0 2 && decide (r.key=0) && w5_ r.owner r.near && decide (r.cost=0) && !r.far
 else if r.kind=2 then inB r.area 0 2 && inB r.key 1 6 && decide ((r.near.length:Int)=0) && inB r.cost 0 60000 && !r.far
 else if r.kind=3 then decide (r.area=9) && inB r.key 1 9 && decide ((r.near.length:Int)=0) && (inB r.cost 1 1000 || decide (r.cost=60000))
 else false
theorem avw_ (a k o y s:Int) (l:List Near) (c:Int) (f:Bool) (h:l.length≤1048576):uu_ [ii a,ii k,ii o,ii y,ii s,.l (l.map zu_),ii c,bb f]=some [bb (zE_ ⟨a,k,o,y,s,l,c,f⟩)]:=by
 rw [aur_];simp (disch:=omega) only [↓pq,↓pj,ps,pz,↓reduceIte,Q0_,Q1_,Q2_,Q3_,Q4_,Q5_,Q6_,Q7_,Q8_,acd_,aco_,aEe_,yx_];unfold zE_
 grind
theorem aiu_ (a k o y s:Int) (l:List Near) (c:Int) (f:Bool) (h:l.length≤1048576):ws_ [ii a,ii k,ii o,ii y,ii s,.l (l.map zu_),ii c,bb f]=some [bb (zE_ ⟨a,k,o,y,s,l,c,f⟩)]:=by
 rw [aus_];simp (disch:=omega) only [↓pq,↓pj,ps,pz,↓reduceIte,Q0_,Q1_,Q2_,Q3_,Q4_,Q5_,Q6_,Q7_,Q8_,abs_,uB_,aya_,yx_];unfold zE_
 grind
def zb_ (a b:Rcd):Bool:=decide (a.area=b.area) && (decide (a.kind=b.kind) && (decide (a.owner=b.owner) && decide (a.key=b.key)))
theorem sameKey_iff {a b:Rcd}:zb_ a b=true↔a.area=b.area∧a.kind=b.kind∧a.owner=b.owner∧a.key=b.key:=by simp [zb_]
theorem aef_ (a k o y:Int) (s:T) (l c f:T) (a' k' o' y':Int) (s' l' c' f':T):x0_ [ii a,ii k,ii o,ii y,s,l,c,f,ii a',ii k',ii o',ii y',s',l',c',f']=some [bb (zb_ ⟨a,k,o,y,0,[],0,false⟩ ⟨a',k',o',y',0,[],0,false⟩)]:=by
 rw [aAk_];simp (disch:=omega) only [↓pq,↓pj,ps,pz,↓reduceIte,Q0_,Q1_,Q2_,Q3_,Q4_,Q5_,Q6_,Q7_,Q8_,aer_,yx_];unfold zb_
 grind
theorem aep_ (a k o y:Int) (s:T) (l c f:T) (a' k' o' y':Int) (s' l' c' f':T):xY_ [ii a,ii k,ii o,ii y,s,l,c,f,ii a',ii k',ii o',ii y',s',l',c',f']=some [bb (zb_ ⟨a,k,o,y,0,[],0,false⟩ ⟨a',k',o',y',0,[],0,false⟩)]:=by
 rw [ax1_];simp (disch:=omega) only [↓pq,↓pj,ps,pz,↓reduceIte,Q0_,Q1_,Q2_,Q3_,Q4_,Q5_,Q6_,Q7_,Q8_,adx_,yx_];unfold zb_
 grind
def zx_ (a b:Rcd):Bool:=decide (a.area < b.area∨a.area=b.area∧(a.kind < b.kind∨a.kind=b.kind∧(a.owner < b.owner∨a.owner=b.owner∧a.key < b.key)))
theorem yp_ {a b:Rcd}:zx_ a b=true↔a.area < b.area∨a.area=b.area∧(a.kind < b.kind∨a.kind=b.kind∧(a.owner < b.owner∨a.owner=b.owner∧a.key < b.key)):=by simp [zx_]
theorem agi_ (a k o y:Int) (s:T) (l c f:T) (a' k' o' y':Int) (s' l' c' f':T):vi_ [ii a,ii k,ii o,ii y,s,l,c,f,ii a',ii k',ii o',ii y',s',l',c',f']=some [bb (zx_ ⟨a,k,o,y,0,[],0,false⟩ ⟨a',k',o',y',0,[],0,false⟩)]:=by
 rw [aCm_];simp (disch:=omega) only [↓pq,↓pj,ps,pz,↓reduceIte,Q0_,Q1_,Q2_,Q3_,Q4_,Q5_,Q6_,Q7_,Q8_,ahi_,yx_];unfold zx_
 grind
theorem ahn_ (a k o y:Int) (s:T) (l c f:T) (a' k' o' y':Int) (s' l' c' f':T):vn_ [ii a,ii k,ii o,ii y,s,l,c,f,ii a',ii k',ii o',ii y',s',l',c',f']=some [bb (zx_ ⟨a,k,o,y,0,[],0,false⟩ ⟨a',k',o',y',0,[],0,false⟩)]:=by
 rw [aE7_];simp (disch:=omega) only [↓pq,↓pj,ps,pz,↓reduceIte,Q0_,Q1_,Q2_,Q3_,Q4_,Q5_,Q6_,Q7_,Q8_,ahx_,yx_];unfold zx_
 grind
theorem arn_ (a b:Rcd):zx_ ⟨a.area,a.kind,a.owner,a.key,0,[],0,false⟩ ⟨b.area,b.kind,b.owner,b.key,0,[],0,false⟩=zx_ a b:=rfl
def qm_ (a b:List Near):Bool:=decide (a.length=b.length) && allB a.length fun i=>decide ((gt a i).to=(gt b i).to) && decide ((gt a i).cost=(gt b i).cost)
def xD_ (a b:Rcd):Bool:=zb_ a b && decide (a.cost=b.cost) && (a.far == b.far) && qm_ a.near b.near
theorem aje_ (a k o y s:Int) (l:List Near) (c:Int) (f:Bool) (a' k' o' y' s':Int) (l':List Near) (c':Int) (f':Bool) (h:l.length≤1048576):ug_ [ii a,ii k,ii o,ii y,ii s,.l (l.map zu_),ii c,bb f,ii a',ii k',ii o',ii y',ii s',.l (l'.map zu_),ii c',bb f']=some [bb (xD_ ⟨a,k,o,y,s,l,c,f⟩ ⟨a',k',o',y',s',l',c',f'⟩)]:=by
 rw [awf_];simp (disch:=omega) only [↓pq,↓pj,ps,pz,↓reduceIte,Q0_,Q1_,Q2_,Q3_,Q4_,Q5_,Q6_,Q7_,Q8_,w8_,acr_,aef_]
 by_cases hl:(l.length:Int)=l'.length
 ·rw [show iter _ _ _=(some [bb (qm_ l l')]:Option (List T)) from ?_]
  ·rw [show zb_ ⟨a,k,o,y,0,[],0,false⟩ ⟨a',k',o',y',0,[],0,false⟩=zb_ ⟨a,k,o,y,s,l,c,f⟩ ⟨a',k',o',y',s',l',c',f'⟩ from rfl]
   simp (disch:=omega) only [↓pq,↓pj,ps,pz,↓reduceIte,Q0_,Q1_,Q2_,Q3_,Q4_,Q5_,Q6_,Q7_,Q8_,w8_,yx_,hl];unfold xD_;grind
  refine (w3_ l.length (fun i=>[bb false,ii i]) (fun i=>decide ((gt l i).to=(gt l' i).to) && decide ((gt l i).cost=(gt l' i).cost)) (outF:=some [bb false]) (outT:=some [bb true]) rfl (za_ h) ?_ ?_).trans (yx_ _ _ _ |>.trans (by unfold qm_;simp;omega))
  ·intro i hi s
   simp (disch:=omega) only [↓pq,↓pj,ps,pz,↓reduceIte,Q0_,Q1_,Q2_,Q3_,Q4_,Q5_,Q6_,Q7_,Q8_,w8_,hi]
   grind
  ·intro s
   simp (disch:=omega) only [↓pq,↓pj,ps,pz,↓reduceIte,Q0_,Q1_,Q2_,Q3_,Q4_,Q5_,Q6_,Q7_,Q8_,w8_,]
 ·rw [show zb_ ⟨a,k,o,y,0,[],0,false⟩ ⟨a',k',o',y',0,[],0,false⟩=zb_ ⟨a,k,o,y,s,l,c,f⟩ ⟨a',k',o',y',s',l',c',f'⟩ from rfl]
  have:qm_ l l'=false:=by unfold qm_;simp;omega
  simp (disch:=omega) only [↓pq,↓pj,ps,pz,↓reduceIte,Q0_,Q1_,Q2_,Q3_,Q4_,Q5_,Q6_,Q7_,Q8_,w8_,yx_,hl,not_false_eq_true];unfold xD_;grind
theorem ab1_ (a k o y s:Int) (l:List Near) (c:Int) (f:Bool) (a' k' o' y' s':Int) (l':List Near) (c':Int) (f':Bool) (h:l.length≤1048576):wB_ [ii a,ii k,ii o,ii y,ii s,.l (l.map zu_),ii c,bb f,ii a',ii k',ii o',ii y',ii s',.l (l'.map zu_),ii c',bb f']=some [bb (xD_ ⟨a,k,o,y,s,l,c,f⟩ ⟨a',k',o',y',s',l',c',f'⟩)]:=by
 rw [axf_];simp (disch:=omega) only [↓pq,↓pj,ps,pz,↓reduceIte,Q0_,Q1_,Q2_,Q3_,Q4_,Q5_,Q6_,Q7_,Q8_,vb_,acq_,aep_]
 by_cases hl:(l.length:Int)=l'.length
 ·rw [show iter _ _ _=(some [bb (qm_ l l')]:Option (List T)) from ?_]
  ·rw [show zb_ ⟨a,k,o,y,0,[],0,false⟩ ⟨a',k',o',y',0,[],0,false⟩=zb_ ⟨a,k,o,y,s,l,c,f⟩ ⟨a',k',o',y',s',l',c',f'⟩ from rfl]
   simp (disch:=omega) only [↓pq,↓pj,ps,pz,↓reduceIte,Q0_,Q1_,Q2_,Q3_,Q4_,Q5_,Q6_,Q7_,Q8_,vb_,yx_,hl];unfold xD_;grind
  refine (w3_ l.length (fun i=>[bb false,ii i]) (fun i=>decide ((gt l i).to=(gt l' i).to) && decide ((gt l i).cost=(gt l' i).cost)) (outF:=some [bb false]) (outT:=some [bb true]) rfl (za_ h) ?_ ?_).trans (yx_ _ _ _ |>.trans (by unfold qm_;simp;omega))
  ·intro i hi s
   simp (disch:=omega) only [↓pq,↓pj,ps,pz,↓reduceIte,Q0_,Q1_,Q2_,Q3_,Q4_,Q5_,Q6_,Q7_,Q8_,vb_,hi]
   grind
  ·intro s
   simp (disch:=omega) only [↓pq,↓pj,ps,pz,↓reduceIte,Q0_,Q1_,Q2_,Q3_,Q4_,Q5_,Q6_,Q7_,Q8_,vb_,]
 ·rw [show zb_ ⟨a,k,o,y,0,[],0,false⟩ ⟨a',k',o',y',0,[],0,false⟩=zb_ ⟨a,k,o,y,s,l,c,f⟩ ⟨a',k',o',y',s',l',c',f'⟩ from rfl]
  have:qm_ l l'=false:=by unfold qm_;simp;omega
  simp (disch:=omega) only [↓pq,↓pj,ps,pz,↓reduceIte,Q0_,Q1_,Q2_,Q3_,Q4_,Q5_,Q6_,Q7_,Q8_,vb_,yx_,hl,not_false_eq_true];unfold xD_;grind
def ze_ (s:List Rcd):Bool:=decide (s.length≤150) && ascB zE_ zx_ s
def NearL (s:List Rcd):Prop:=∀ r∈s,r.near.length≤1048576
theorem NearL.gt {s:List Rcd} (h:NearL s) {n:Int} (h0:0≤n) (h1:n < s.length):(Go.Proofs.YtjimmglpkndemaaGreatC.gt s n).near.length≤1048576:=h _ (zS_ h0 h1)
theorem alo_ (s:List Rcd) (h:s.length≤1048576) (hn:NearL s):wV_ [.l (s.map eRcd)]=some [bb (ze_ s)]:=by
 rw [aAp_];simp (disch:=omega) only [↓pq,↓pj,ps,pz,↓reduceIte,Q0_,Q1_,Q2_,Q3_,Q4_,Q5_,Q6_,Q7_,Q8_,qT_,adz_]
 refine (w3_ s.length (fun i=>[bb false,ii i]) (fun i=>zE_ (gt s i) && (!decide ((i:Int) > 0) || zx_ (gt s (i - 1:Int)) (gt s i))) (outF:=some [bb false]) (outT:=some [bb (decide (s.length≤150))]) rfl (za_ h) ?_ ?_).trans (yx_ _ _ _ |>.trans (by unfold ze_ ascB;grind))
 ·intro i hi s1
  have:=hn.gt (n:=i) (by omega) hi
  simp (disch:=omega) only [↓pq,↓pj,ps,pz,↓reduceIte,Q0_,Q1_,Q2_,Q3_,Q4_,Q5_,Q6_,Q7_,Q8_,qT_,hi,avw_,agi_,arn_]
  grind
 ·intro s1
  simp (disch:=omega) only [↓pq,↓pj,ps,pz,↓reduceIte,Q0_,Q1_,Q2_,Q3_,Q4_,Q5_,Q6_,Q7_,Q8_,qT_,]
  simp;omega
theorem kV_ (s:List Rcd) (h:s.length≤1048576) (hn:NearL s):xf_ [.l (s.map eRcd)]=some [bb (ze_ s)]:=by
 rw [aAa_];simp (disch:=omega) only [↓pq,↓pj,ps,pz,↓reduceIte,Q0_,Q1_,Q2_,Q3_,Q4_,Q5_,Q6_,Q7_,Q8_,qF_,ady_]
 by_cases h1:s.length≤150
 ·have h2:¬ ((s.length:Int) > 150):=by omega
  simp only [h2,if_false]
  refine (w3_ s.length (fun i=>[bb false,ii i]) (fun i=>zE_ (gt s i) && (!decide ((i:Int) > 0) || zx_ (gt s (i - 1:Int)) (gt s i))) (outF:=some [bb false]) (outT:=some [bb true]) rfl (za_ h) ?_ ?_).trans (yx_ _ _ _ |>.trans (by unfold ze_ ascB;grind))
  ·intro i hi s1
   have:=hn.gt (n:=i) (by omega) hi
   simp (disch:=omega) only [↓pq,↓pj,ps,pz,↓reduceIte,Q0_,Q1_,Q2_,Q3_,Q4_,Q5_,Q6_,Q7_,Q8_,qF_,hi,aiu_,ahn_,arn_]
   grind
  ·intro s1
   simp (disch:=omega) only [↓pq,↓pj,ps,pz,↓reduceIte,Q0_,Q1_,Q2_,Q3_,Q4_,Q5_,Q6_,Q7_,Q8_,qF_,]
 ·have h2:((s.length:Int) > 150):=by omega
  unfold ze_
  simp [h2,h1]
end Go.Proofs.YtjimmglpkndemaaGreatC

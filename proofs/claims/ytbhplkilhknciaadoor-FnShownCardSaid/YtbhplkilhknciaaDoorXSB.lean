/- What the functions of records and stores compute. Conditions: none. -/
import Derived.Test.YtbhplkilhknciaaDoorXSA
namespace Go.Proofs.YtbhplkilhknciaaDoorC
open Int (reduceLE reduceLT reduceEq reduceGT reduceGE reduceAdd reduceSub reduceMul reduceNeg)
set_option linter.unusedVariables false
set_option linter.unusedSimpArgs false
def nearOk (o:Int) (l:List Near):Bool :=
 allB l.length fun i=>inB (gt l i).to 1 6 && !decide ((gt l i).to=o) && inB (gt l i).cost 1 1000 && (!decide ((i:Int) > 0) || decide ((gt l (i - 1:Int)).to < (gt l i).to))
theorem e_s_l04Near (t0 t1:T) (o:Int) (t3 t4:T) (l:List Near) (t6 t7:T) (h:l.length≤1048576):F_s_l04Near [t0,t1,ii o,t3,t4,.l (l.map eNear),t6,t7]=some [bb (nearOk o l)]:=by
 rw [g_s_l04Near];simp (disch:=omega) only [↓pq,↓pj,ps,pz,↓reduceIte,reduceLE,reduceLT,reduceEq,reduceGT,reduceGE,reduceAdd,reduceSub,reduceMul,reduceNeg,G_s_l04Near_l0,G_s_l04Near]
 refine (iter_allx l.length (fun i=>[bb false,ii i]) (fun i=>inB (gt l i).to 1 6 && !decide ((gt l i).to=o) && inB (gt l i).cost 1 1000 && (!decide ((i:Int) > 0) || decide ((gt l (i - 1:Int)).to < (gt l i).to))) (outF:=some [bb false]) (outT:=some [bb true]) rfl (rounds_lt h) ?_ ?_).trans (ite_bb _ _ _ |>.trans (by unfold nearOk;simp))
 ·intro i hi s
  simp (disch:=omega) only [↓pq,↓pj,ps,pz,↓reduceIte,reduceLE,reduceLT,reduceEq,reduceGT,reduceGE,reduceAdd,reduceSub,reduceMul,reduceNeg,G_s_l04Near_l0,hi,e_s_l01In]
  grind
 ·intro s
  simp (disch:=omega) only [↓pq,↓pj,ps,pz,↓reduceIte,reduceLE,reduceLT,reduceEq,reduceGT,reduceGE,reduceAdd,reduceSub,reduceMul,reduceNeg,G_s_l04Near_l0,]
def recOk (r:Rcd):Bool :=
 inB r.owner 1 6 && inB r.seq 1 100000 &&
 if r.kind=1 then inB r.area 0 2 && decide (r.key=0) && nearOk r.owner r.near && decide (r.cost=0) && !r.far
 else if r.kind=2 then inB r.area 0 2 && inB r.key 1 6 && decide ((r.near.length:Int)=0) && inB r.cost 0 60000 && !r.far
 else if r.kind=3 then decide (r.area=9) && inB r.key 1 9 && decide ((r.near.length:Int)=0) && (inB r.cost 1 1000 || decide (r.cost=60000))
 else false
theorem e_s_RecordOk (a k o y s:Int) (l:List Near) (c:Int) (f:Bool) (h:l.length≤1048576):F_s_RecordOk [ii a,ii k,ii o,ii y,ii s,.l (l.map eNear),ii c,bb f]=some [bb (recOk ⟨a,k,o,y,s,l,c,f⟩)]:=by
 rw [g_s_RecordOk];simp (disch:=omega) only [↓pq,↓pj,ps,pz,↓reduceIte,reduceLE,reduceLT,reduceEq,reduceGT,reduceGE,reduceAdd,reduceSub,reduceMul,reduceNeg,G_s_RecordOk,e_s_l01In,e_s_l04Near,ite_bb];unfold recOk
 grind
def sameKey (a b:Rcd):Bool:=decide (a.area=b.area) && (decide (a.kind=b.kind) && (decide (a.owner=b.owner) && decide (a.key=b.key)))
theorem sameKey_iff {a b:Rcd}:sameKey a b=true↔a.area=b.area∧a.kind=b.kind∧a.owner=b.owner∧a.key=b.key:=by simp [sameKey]
theorem e_s_SameKey (a k o y:Int) (s:T) (l c f:T) (a' k' o' y':Int) (s' l' c' f':T):F_s_SameKey [ii a,ii k,ii o,ii y,s,l,c,f,ii a',ii k',ii o',ii y',s',l',c',f']=some [bb (sameKey ⟨a,k,o,y,0,[],0,false⟩ ⟨a',k',o',y',0,[],0,false⟩)]:=by
 rw [g_s_SameKey];simp (disch:=omega) only [↓pq,↓pj,ps,pz,↓reduceIte,reduceLE,reduceLT,reduceEq,reduceGT,reduceGE,reduceAdd,reduceSub,reduceMul,reduceNeg,G_s_SameKey,ite_bb];unfold sameKey
 grind
def recLt (a b:Rcd):Bool:=decide (a.area < b.area∨a.area=b.area∧(a.kind < b.kind∨a.kind=b.kind∧(a.owner < b.owner∨a.owner=b.owner∧a.key < b.key)))
theorem recLt_iff {a b:Rcd}:recLt a b=true↔a.area < b.area∨a.area=b.area∧(a.kind < b.kind∨a.kind=b.kind∧(a.owner < b.owner∨a.owner=b.owner∧a.key < b.key)):=by simp [recLt]
theorem e_s_Before (a k o y:Int) (s:T) (l c f:T) (a' k' o' y':Int) (s' l' c' f':T):F_s_Before [ii a,ii k,ii o,ii y,s,l,c,f,ii a',ii k',ii o',ii y',s',l',c',f']=some [bb (recLt ⟨a,k,o,y,0,[],0,false⟩ ⟨a',k',o',y',0,[],0,false⟩)]:=by
 rw [g_s_Before];simp (disch:=omega) only [↓pq,↓pj,ps,pz,↓reduceIte,reduceLE,reduceLT,reduceEq,reduceGT,reduceGE,reduceAdd,reduceSub,reduceMul,reduceNeg,G_s_Before,ite_bb];unfold recLt
 grind
theorem recLt_eta (a b:Rcd):recLt ⟨a.area,a.kind,a.owner,a.key,0,[],0,false⟩ ⟨b.area,b.kind,b.owner,b.key,0,[],0,false⟩=recLt a b:=rfl
def storeOk (s:List Rcd):Bool:=decide (s.length≤150) && ascB recOk recLt s
def NearL (s:List Rcd):Prop:=∀ r∈s,r.near.length≤1048576
theorem NearL.gt {s:List Rcd} (h:NearL s) {n:Int} (h0:0≤n) (h1:n < s.length):(Go.Proofs.YtbhplkilhknciaaDoorC.gt s n).near.length≤1048576:=h _ (gt_mem h0 h1)
theorem e_s_StoreOk (s:List Rcd) (h:s.length≤1048576) (hn:NearL s):F_s_StoreOk [.l (s.map eRcd)]=some [bb (storeOk s)]:=by
 rw [g_s_StoreOk];simp (disch:=omega) only [↓pq,↓pj,ps,pz,↓reduceIte,reduceLE,reduceLT,reduceEq,reduceGT,reduceGE,reduceAdd,reduceSub,reduceMul,reduceNeg,G_s_StoreOk_l0,G_s_StoreOk]
 by_cases h1:s.length≤150
 ·have h2:¬ ((s.length:Int) > 150):=by omega
  simp only [h2,if_false]
  refine (iter_allx s.length (fun i=>[bb false,ii i]) (fun i=>recOk (gt s i) && (!decide ((i:Int) > 0) || recLt (gt s (i - 1:Int)) (gt s i))) (outF:=some [bb false]) (outT:=some [bb true]) rfl (rounds_lt h) ?_ ?_).trans (ite_bb _ _ _ |>.trans (by unfold storeOk ascB;grind))
  ·intro i hi s1
   have:=hn.gt (n:=i) (by omega) hi
   simp (disch:=omega) only [↓pq,↓pj,ps,pz,↓reduceIte,reduceLE,reduceLT,reduceEq,reduceGT,reduceGE,reduceAdd,reduceSub,reduceMul,reduceNeg,G_s_StoreOk_l0,hi,e_s_RecordOk,e_s_Before,recLt_eta]
   grind
  ·intro s1
   simp (disch:=omega) only [↓pq,↓pj,ps,pz,↓reduceIte,reduceLE,reduceLT,reduceEq,reduceGT,reduceGE,reduceAdd,reduceSub,reduceMul,reduceNeg,G_s_StoreOk_l0,]
 ·have h2:((s.length:Int) > 150):=by omega
  unfold storeOk
  simp [h2,h1]
end Go.Proofs.YtbhplkilhknciaaDoorC

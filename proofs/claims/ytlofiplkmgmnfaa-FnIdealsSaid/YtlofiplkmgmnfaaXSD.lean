/- What the tests of worlds compute: what was told, who knows the same. Conditions: none. -/
import Derived.Test.YtlofiplkmgmnfaaXSC
namespace Go.Proofs.YtlofiplkmgmnfaaC
open Int (reduceLE reduceLT reduceEq reduceGT reduceGE reduceAdd reduceSub reduceMul reduceNeg)
set_option linter.unusedVariables false
set_option linter.unusedSimpArgs false
def told1 (l:List Rcd) (r:Rcd):Bool:=l.foldl (fun c x=>c || sameBody x r && (x.seq == r.seq)) false
def trueTold (l s:List Rcd):Bool:=allB s.length fun i=>told1 l (gt s i)
theorem e_i_TrueTold (l s:List Rcd) (h1:l.length≤1048576) (h2:s.length≤1048576) (hn:NearL l):F_i_TrueTold [.l (l.map eRcd),.l (s.map eRcd)]=some [bb (trueTold l s)]:=by
 rw [g_i_TrueTold];simp (disch:=omega) only [↓pq,↓pj,ps,pz,↓reduceIte,reduceLE,reduceLT,reduceEq,reduceGT,reduceGE,reduceAdd,reduceSub,reduceMul,reduceNeg,G_i_TrueTold_l0,G_i_TrueTold_l1,G_i_TrueTold]
 refine (iter_allx s.length (fun i=>[bb false,ii i]) (fun i=>told1 l (gt s i)) (outF:=some [bb false]) (outT:=some [bb true]) rfl (rounds_lt h2) ?_ ?_).trans (ite_bb _ _ _ |>.trans (by unfold trueTold;simp))
 ·intro i hi k
  simp (disch:=omega) only [↓pq,↓pj,ps,pz,↓reduceIte,reduceLE,reduceLT,reduceEq,reduceGT,reduceGE,reduceAdd,reduceSub,reduceMul,reduceNeg,G_i_TrueTold_l0,G_i_TrueTold_l1,hi]
  refine (iter_foldlx l (fun j c=>[bb c,ii j]) (fun c x=>c || sameBody x (gt s i) && (x.seq == (gt s i).seq)) (fun c=>if c=true then k [bb false,ii ((i+1:Nat))] else some [bb false]) false (fun _ _=>True) rfl (rounds_lt h1) trivial ?_ ?_).trans ?_
  ·intro j c hj _
   refine ⟨trivial,fun k=>?_⟩
   have:=hn.gt (n:=j) (by omega) hj
   simp (disch:=omega) only [↓pq,↓pj,ps,pz,↓reduceIte,reduceLE,reduceLT,reduceEq,reduceGT,reduceGE,reduceAdd,reduceSub,reduceMul,reduceNeg,G_i_TrueTold_l0,G_i_TrueTold_l1,hj,e_i_SameBody]
   cases c <;> cases sameBody (gt l j) (gt s i) <;> simp
  ·intro c k' _
   simp (disch:=omega) only [↓pq,↓pj,ps,pz,↓reduceIte,reduceLE,reduceLT,reduceEq,reduceGT,reduceGE,reduceAdd,reduceSub,reduceMul,reduceNeg,G_i_TrueTold_l0,G_i_TrueTold_l1,]
   cases c <;> simp
  ·unfold told1;simp (disch:=omega) only [↓pq,↓pj,ps,pz,↓reduceIte,reduceLE,reduceLT,reduceEq,reduceGT,reduceGE,reduceAdd,reduceSub,reduceMul,reduceNeg,G_i_TrueTold_l0,G_i_TrueTold_l1,]
 ·intro k
  simp (disch:=omega) only [↓pq,↓pj,ps,pz,↓reduceIte,reduceLE,reduceLT,reduceEq,reduceGT,reduceGE,reduceAdd,reduceSub,reduceMul,reduceNeg,G_i_TrueTold_l0,G_i_TrueTold_l1,]
structure OkStores (ns:List Node):Prop where
 len:∀ n∈ns,n.self.store.length≤1048576
 near:∀ n∈ns,NearL n.self.store
 heard:∀ n∈ns,n.self.heard.length≤1048576
theorem e_i_copyRecord (a k o y s:Int) (l:List Near) (c:Int) (f:Bool) (h:l.length≤1048576):F_i_copyRecord [ii a,ii k,ii o,ii y,ii s,.l (l.map eNear),ii c,bb f]=some [ii a,ii k,ii o,ii y,ii s,.l (l.map eNear),ii c,bb f]:=by
 rw [g_i_copyRecord];simp (disch:=omega) only [↓pq,↓pj,ps,pz,↓reduceIte,reduceLE,reduceLT,reduceEq,reduceGT,reduceGE,reduceAdd,reduceSub,reduceMul,reduceNeg,G_i_copyRecord]
theorem e_s_l04Copy (a k o y s:Int) (l:List Near) (c:Int) (f:Bool) (h:l.length≤1048576):F_s_l04Copy [ii a,ii k,ii o,ii y,ii s,.l (l.map eNear),ii c,bb f]=some [ii a,ii k,ii o,ii y,ii s,.l (l.map eNear),ii c,bb f]:=by
 rw [g_s_l04Copy];simp (disch:=omega) only [↓pq,↓pj,ps,pz,↓reduceIte,reduceLE,reduceLT,reduceEq,reduceGT,reduceGE,reduceAdd,reduceSub,reduceMul,reduceNeg,G_s_l04Copy]
def inScope (ar:Int) (r:Rcd):Bool:=r.area == ar || r.area == 9
def scope (s:List Rcd) (ar:Int):List Rcd:=s.filter (inScope ar)
end Go.Proofs.YtlofiplkmgmnfaaC

/- Areas and borders of a node. Conditions: none. -/
import Derived.Test.YtbhplkilhknciaaDoorXSO
namespace Go.Proofs.YtbhplkilhknciaaDoorC
open Int (reduceLE reduceLT reduceEq reduceGT reduceGE reduceAdd reduceSub reduceMul reduceNeg)
set_option linter.unusedVariables false
set_option linter.unusedSimpArgs false
theorem netOk_links {x:Net} (h:netOk x=true):ascB (linkOk x.n) linkLt x.links=true∧x.links.length≤12:=by
 unfold netOk at h
 simp only [Bool.and_eq_true,decide_eq_true_eq] at h
 exact ⟨h.1.2,h.1.1.1.2⟩
theorem link_of {n:Int} {ls:List Link} (h:ascB (linkOk n) linkLt ls=true) {l:Link} (hl:l∈ls):(1≤n∧n≤6)∧(1≤l.a∧l.a≤n)∧(1≤l.b∧l.b≤n)∧l.a < l.b∧(1≤l.cost∧l.cost≤1000)∧0≤l.area∧l.area≤2:=by
 obtain ⟨i,hi,rfl⟩:=List.mem_iff_getElem.1 hl
 have:=allB_iff.1 h i hi
 rw [gt_elem hi] at this
 simp only [Bool.and_eq_true,linkOk,inB_iff,decide_eq_true_eq] at this
 omega
def three:List Int:=[0,1,2]
theorem mem_three {x:Int}:x∈three↔0≤x∧x≤2:=by simp [three];omega
def touch (node a:Int) (l:Link):Bool:=l.area == a && (l.a == node || l.b == node)
def areasOf (ls:List Link) (node:Int):List Int:=three.filter fun a=>ls.any (touch node a)
theorem areasOf_len (ls:List Link) (node:Int):(areasOf ls node).length≤3:=List.length_filter_le _ _
def nextTo (ls:List Link) (node a:Int):List Int:=six.filter fun v=>decide (costTo ls node v a > 0)
theorem e_s_NextTo (t0 t2:T) (ls:List Link) (node a:Int) (hl:ls.length≤12):F_s_NextTo [t0,.l (ls.map eLink),t2,ii node,ii a]=some [.l ((nextTo ls node a).map eInt)]:=by
 rw [g_s_NextTo];simp (disch:=omega) only [↓pq,↓pj,ps,pz,↓reduceIte,reduceLE,reduceLT,reduceEq,reduceGT,reduceGE,reduceAdd,reduceSub,reduceMul,reduceNeg,G_s_NextTo_l0,G_s_NextTo]
 refine (iter_uptox 6 (fun i c=>[.l (c.map eInt),ii (i+1)]) (fun c i=>if decide (costTo ls node ((i:Int)+1) a > 0)=true then c++[(i:Int)+1] else c) (fun c=>some [T.l (c.map eInt)]) [] (fun i c=>c.length≤i) rfl (rounds_lt (by omega)) (by simp) ?_ ?_).trans ?_
 ·intro i c hi hc
  have hi':(i:Int)+1≤6:=by omega
  refine ⟨by split;(· simp;omega);(· omega),fun q=>?_⟩
  by_cases k:costTo ls node ((i:Int)+1) a > 0
  ·simp (disch:=omega) only [↓pq,↓pj,ps,pz,↓reduceIte,reduceLE,reduceLT,reduceEq,reduceGT,reduceGE,reduceAdd,reduceSub,reduceMul,reduceNeg,G_s_NextTo_l0,hi',e_s_CostTo _ _ _ _ _ _ (show ls.length≤1048576 by omega),k,decide_true]
  ·simp (disch:=omega) only [↓pq,↓pj,ps,pz,↓reduceIte,reduceLE,reduceLT,reduceEq,reduceGT,reduceGE,reduceAdd,reduceSub,reduceMul,reduceNeg,G_s_NextTo_l0,hi',e_s_CostTo _ _ _ _ _ _ (show ls.length≤1048576 by omega),k,decide_false,Bool.false_eq_true]
 ·intro c q hc
  simp (disch:=omega) only [↓pq,↓pj,ps,pz,↓reduceIte,reduceLE,reduceLT,reduceEq,reduceGT,reduceGE,reduceAdd,reduceSub,reduceMul,reduceNeg,G_s_NextTo_l0,]
 ·unfold nextTo
  rw [foldl_keep (fun i:Nat=>decide (costTo ls node ((i:Int)+1) a > 0)) (fun i:Nat=>(i:Int)+1),six_map,List.filter_map]
  rfl
theorem nextTo_len {n:Int} {ls:List Link} (h:ascB (linkOk n) linkLt ls=true) (node a:Int):(nextTo ls node a).length > 0↔ls.any (touch node a)=true:=by
 unfold nextTo
 rw [show ((six.filter fun v=>decide (costTo ls node v a > 0)).length > 0)↔∃ v∈six,costTo ls node v a > 0 by
  rw [gt_iff_lt,List.length_pos_iff_exists_mem]
  constructor
  ·rintro ⟨v,hv⟩
   have:=List.mem_filter.1 hv
   exact ⟨v,this.1,by simpa using this.2⟩
  ·rintro ⟨v,hv,e⟩
   exact ⟨v,List.mem_filter.2 ⟨hv,by simpa using e⟩⟩,List.any_eq_true]
 have key:∀ v,costTo ls node v a > 0↔∃ x∈ls,joins node v a x=true:=by
  intro v
  have hz:=costTo_zero h node v a
  constructor
  ·intro hc
   have h0:0≤findP (joins node v a) ls:=by
    rcases Int.lt_or_le (findP (joins node v a) ls) 0 with h1 | h1
    ·have:=hz.2 h1;omega
    ·exact h1
   exact ⟨_,gt_mem h0 (findP_lt _ _),findP_spec _ _ h0⟩
  ·rintro ⟨x,hx,e⟩
   have h0:¬ findP (joins node v a) ls < 0:=fun hc=>by
    have:=(findP_none _ _).1 hc x hx
    rw [e] at this;cases this
   have h1:=link_of h (gt_mem (l:=ls) (n:=findP (joins node v a) ls) (by omega) (findP_lt _ _))
   unfold costTo
   rw [if_neg h0]
   omega
 constructor
 ·rintro ⟨v,hv,hc⟩
  obtain ⟨x,hx,e⟩:=(key v).1 hc
  refine ⟨x,hx,?_⟩
  unfold joins at e
  unfold touch
  simp only [Bool.and_eq_true,Bool.or_eq_true,beq_iff_eq] at e ⊢
  rcases e with ⟨e1,e2 | e2⟩
  ·exact ⟨e1,.inl e2.1⟩
  ·exact ⟨e1,.inr e2.2⟩
 ·rintro ⟨x,hx,e⟩
  have hl:=link_of h hx
  unfold touch at e
  simp only [Bool.and_eq_true,Bool.or_eq_true,beq_iff_eq] at e
  rcases e with ⟨e1,e2 | e2⟩
  ·exact ⟨x.b,mem_six.2 (by omega),(key _).2 ⟨x,hx,by unfold joins;simp [e1,e2]⟩⟩
  ·exact ⟨x.a,mem_six.2 (by omega),(key _).2 ⟨x,hx,by unfold joins;simp [e1,e2]⟩⟩
theorem e_s_AreasOf (t0 t2:T) (ls:List Link) (node n:Int) (h:ascB (linkOk n) linkLt ls=true) (hl:ls.length≤12):F_s_AreasOf [t0,.l (ls.map eLink),t2,ii node]=some [.l ((areasOf ls node).map eInt)]:=by
 rw [g_s_AreasOf];simp (disch:=omega) only [↓pq,↓pj,ps,pz,↓reduceIte,reduceLE,reduceLT,reduceEq,reduceGT,reduceGE,reduceAdd,reduceSub,reduceMul,reduceNeg,G_s_AreasOf_l0,G_s_AreasOf]
 refine (iter_uptox 3 (fun i c=>[.l (c.map eInt),ii i]) (fun c i=>if ls.any (touch node (i:Int))=true then c++[(i:Int)] else c) (fun c=>some [T.l (c.map eInt)]) [] (fun i c=>c.length≤i) rfl (rounds_lt (by omega)) (by simp) ?_ ?_).trans ?_
 ·intro i c hi hc
  have hi':(i:Int)≤2:=by omega
  refine ⟨by split;(· simp;omega);(· omega),fun q=>?_⟩
  have hn:=nextTo_len h node (i:Int)
  by_cases k:ls.any (touch node (i:Int))=true
  ·have h1:((nextTo ls node (i:Int)).length:Int) > 0:=by have:=hn.2 k;omega
   simp (disch:=omega) only [↓pq,↓pj,ps,pz,↓reduceIte,reduceLE,reduceLT,reduceEq,reduceGT,reduceGE,reduceAdd,reduceSub,reduceMul,reduceNeg,G_s_AreasOf_l0,hi',e_s_NextTo _ _ _ _ _ hl,k,h1]
  ·have h1:¬ ((nextTo ls node (i:Int)).length:Int) > 0:=by
    intro hc
    exact k (hn.1 (by omega))
   simp (disch:=omega) only [↓pq,↓pj,ps,pz,↓reduceIte,reduceLE,reduceLT,reduceEq,reduceGT,reduceGE,reduceAdd,reduceSub,reduceMul,reduceNeg,G_s_AreasOf_l0,hi',e_s_NextTo _ _ _ _ _ hl,k,h1,Bool.false_eq_true]
 ·intro c q hc
  simp (disch:=omega) only [↓pq,↓pj,ps,pz,↓reduceIte,reduceLE,reduceLT,reduceEq,reduceGT,reduceGE,reduceAdd,reduceSub,reduceMul,reduceNeg,G_s_AreasOf_l0,]
 ·unfold areasOf
  rw [foldl_keep (fun i:Nat=>ls.any (touch node (i:Int))) (fun i:Nat=>(i:Int)),show three=(List.range 3).map (fun i:Nat=>(i:Int)) from rfl,List.filter_map]
  rfl
def border (ls:List Link) (node:Int):Bool:=(areasOf ls node).contains 0 && decide ((areasOf ls node).length > 1)
theorem e_s_Border (t0 t2:T) (ls:List Link) (node n:Int) (h:ascB (linkOk n) linkLt ls=true) (hl:ls.length≤12):F_s_Border [t0,.l (ls.map eLink),t2,ii node]=some [bb (border ls node)]:=by
 have hal:=areasOf_len ls node
 rw [g_s_Border];simp (disch:=omega) only [↓pq,↓pj,ps,pz,↓reduceIte,reduceLE,reduceLT,reduceEq,reduceGT,reduceGE,reduceAdd,reduceSub,reduceMul,reduceNeg,G_s_Border,e_s_AreasOf _ _ _ _ _ h hl]
 unfold border
 by_cases k:((areasOf ls node).length:Int) > 1
 ·have k':(areasOf ls node).length > 1:=by omega
  have h0:∀ (p:Int→Bool),(three.filter p).length > 1→(three.filter p).contains 0=decide (gt (three.filter p) 0=0):=by
   intro p hp
   unfold three at hp ⊢
   simp only [List.filter_cons,List.filter_nil] at hp ⊢
   revert hp
   cases p 0 <;> cases p 1 <;> cases p 2 <;> first | (intro _;rfl) | (intro h;exact absurd h (by decide))
  rw [show (areasOf ls node).contains 0=decide (gt (areasOf ls node) 0=0) from h0 _ k']
  simp (disch:=omega) only [↓pq,↓pj,ps,pz,↓reduceIte,reduceLE,reduceLT,reduceEq,reduceGT,reduceGE,reduceAdd,reduceSub,reduceMul,reduceNeg,k,k',decide_true,Bool.and_true]
  rfl
 ·have k':¬ (areasOf ls node).length > 1:=by omega
  simp (disch:=omega) only [↓pq,↓pj,ps,pz,↓reduceIte,reduceLE,reduceLT,reduceEq,reduceGT,reduceGE,reduceAdd,reduceSub,reduceMul,reduceNeg,k,k',decide_false,Bool.and_false]
end Go.Proofs.YtbhplkilhknciaaDoorC

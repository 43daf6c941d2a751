/- What is told between nodes, and how hops are put together. Conditions: none. -/
import Derived.Test.YtbhplkilhknciaaDoorXSE
namespace Go.Proofs.YtbhplkilhknciaaDoorC
open Int (reduceLE reduceLT reduceEq reduceGT reduceGE reduceAdd reduceSub reduceMul reduceNeg)
set_option linter.unusedVariables false
set_option linter.unusedSimpArgs false
def six:List Int:=[1,2,3,4,5,6]
def HopsOk (l:List Int):Prop:=l.Pairwise (· < ·)∧∀ x∈l,1≤x∧x≤6
theorem asc_ext:∀ {a b:List Int},a.Pairwise (· < ·)→b.Pairwise (· < ·)→(∀ x,x∈a↔x∈b)→a=b
 | [],[],_,_,_=>rfl
 | [],y :: b,_,_,h=>absurd ((h y).2 (.head _)) (by simp)
 | x :: a,[],_,_,h=>absurd ((h x).1 (.head _)) (by simp)
 | x :: a,y :: b,ha,hb,h=>by
  have ha':=List.pairwise_cons.1 ha
  have hb':=List.pairwise_cons.1 hb
  have hxy:x=y:=by
   rcases List.mem_cons.1 ((h x).1 (.head _)) with e | e
   ·exact e
   ·rcases List.mem_cons.1 ((h y).2 (.head _)) with e' | e'
    ·exact e'.symm
    ·have:=hb'.1 x e;have:=ha'.1 y e';omega
  subst hxy
  have:a=b:=asc_ext ha'.2 hb'.2 fun z=>by
   constructor
   ·intro hz
    rcases List.mem_cons.1 ((h z).1 (.tail _ hz)) with e | e
    ·subst e;have:=ha'.1 z hz;omega
    ·exact e
   ·intro hz
    rcases List.mem_cons.1 ((h z).2 (.tail _ hz)) with e | e
    ·subst e;have:=hb'.1 z hz;omega
    ·exact e
  rw [this]
def uni (a b:List Int):List Int:=six.filter fun x=>a.contains x || b.contains x
theorem six_asc:six.Pairwise (· < ·):=by unfold six;simp
theorem uni_ok (a b:List Int):HopsOk (uni a b):=by
 refine ⟨six_asc.filter _,fun x hx=>?_⟩
 have:=(List.mem_filter.1 hx).1
 simp [six] at this
 omega
theorem mem_six {x:Int}:x∈six↔1≤x∧x≤6:=by simp [six];omega
theorem mem_uni {a b:List Int} {x:Int}:x∈uni a b↔(1≤x∧x≤6)∧(x∈a∨x∈b):=by
 unfold uni
 rw [List.mem_filter,mem_six]
 simp
theorem uni_nil {a:List Int} (h:HopsOk a):uni [] a=a :=
 asc_ext (uni_ok _ _).1 h.1 fun x=>by
  rw [mem_uni]
  exact ⟨fun h'=>h'.2.resolve_left (by simp),fun h'=>⟨h.2 x h',.inr h'⟩⟩
theorem hops_len {a:List Int} (h:HopsOk a):a.length≤6:=by
 have e:uni [] a=a:=uni_nil h
 rw [← e]
 exact List.length_filter_le _ _
theorem hops_nil:HopsOk []:=⟨.nil,by simp⟩
theorem hops_one {n:Int} (h:1≤n) (h':n≤6):HopsOk [n]:=⟨by simp,by simp;omega⟩
theorem e_s_l03In (l:List Int) (n:Int) (h:l.length≤1048576):F_s_l03In [.l (l.map eInt),ii n]=some [bb (l.contains n)]:=by
 rw [g_s_l03In];simp (disch:=omega) only [↓pq,↓pj,ps,pz,↓reduceIte,reduceLE,reduceLT,reduceEq,reduceGT,reduceGE,reduceAdd,reduceSub,reduceMul,reduceNeg,G_s_l03In_l0,G_s_l03In]
 refine (iter_findPx l (fun i=>[bb false,ii i]) (fun x=>x == n) (fun _=>some [bb true]) (outN:=some [bb false]) rfl (rounds_lt h) ?_ ?_).trans ?_
 ·intro i hi q
  simp (disch:=omega) only [↓pq,↓pj,ps,pz,↓reduceIte,reduceLE,reduceLT,reduceEq,reduceGT,reduceGE,reduceAdd,reduceSub,reduceMul,reduceNeg,G_s_l03In_l0,hi]
 ·intro q
  simp (disch:=omega) only [↓pq,↓pj,ps,pz,↓reduceIte,reduceLE,reduceLT,reduceEq,reduceGT,reduceGE,reduceAdd,reduceSub,reduceMul,reduceNeg,G_s_l03In_l0,]
 ·rw [ite_bb]
  congr 3
  by_cases hf:findP (fun x=>x == n) l < 0
  ·rw [if_pos hf]
   have:=(findP_none _ _).1 hf
   cases hc:l.contains n with
   | false=>rfl
   | true =>
    have hm:=List.contains_iff_mem.1 hc
    have:=this n hm
    simp at this
  ·rw [if_neg hf]
   have:=findP_spec _ _ (by omega:0≤findP (fun x=>x == n) l)
   have hm:=gt_mem (l:=l) (n:=findP (fun x=>x == n) l) (by omega) (findP_lt _ _)
   rw [beq_iff_eq] at this
   rw [this] at hm
   exact (List.contains_iff_mem.2 hm).symm
theorem e_s_l06Copy (a b:Int) (l:List Int) (h:l.length≤1048576):F_s_l06Copy [ii a,ii b,.l (l.map eInt)]=some [ii a,ii b,.l (l.map eInt)]:=by
 rw [g_s_l06Copy];simp (disch:=omega) only [↓pq,↓pj,ps,pz,↓reduceIte,reduceLE,reduceLT,reduceEq,reduceGT,reduceGE,reduceAdd,reduceSub,reduceMul,reduceNeg,G_s_l06Copy]
def wayP (l:List Way) (to:Int):Int:=findP (fun w=>w.to == to) l
theorem e_s_WayTo (l:List Way) (to:Int) (h:l.length≤1048576) (hl:∀ w∈l,w.hops.length≤1048576):F_s_WayTo [.l (l.map eWay),ii to]=if wayP l to < 0 then some [ii 0,ii 0,.l [],bb false] else some (eWay (gt l (wayP l to))++[bb true]):=by
 rw [g_s_WayTo];simp (disch:=omega) only [↓pq,↓pj,ps,pz,↓reduceIte,reduceLE,reduceLT,reduceEq,reduceGT,reduceGE,reduceAdd,reduceSub,reduceMul,reduceNeg,G_s_WayTo_l0,G_s_WayTo]
 refine iter_findPx l (fun i=>[bb false,ii i]) (fun w=>w.to == to) (fun i=>some (eWay (gt l i)++[bb true])) (outN:=some [ii 0,ii 0,.l [],bb false]) rfl (rounds_lt h) ?_ ?_
 ·intro i hi q
  have:=hl _ (gt_mem (n:=i) (by omega) hi)
  simp (disch:=omega) only [↓pq,↓pj,ps,pz,↓reduceIte,reduceLE,reduceLT,reduceEq,reduceGT,reduceGE,reduceAdd,reduceSub,reduceMul,reduceNeg,G_s_WayTo_l0,hi,e_s_l06Copy]
  rfl
 ·intro q
  simp (disch:=omega) only [↓pq,↓pj,ps,pz,↓reduceIte,reduceLE,reduceLT,reduceEq,reduceGT,reduceGE,reduceAdd,reduceSub,reduceMul,reduceNeg,G_s_WayTo_l0,]
def tog (a b:Way):Way:=if b.cost > a.cost then a else if a.cost > b.cost then b else ⟨a.to,a.cost,uni a.hops b.hops⟩
end Go.Proofs.YtbhplkilhknciaaDoorC

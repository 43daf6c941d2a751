/- What the small functions compute: words, nets, records, stores. Conditions: none. -/
import Derived.Test.YtbhplkilhknciaaDoorXGS
namespace Go.Proofs.YtbhplkilhknciaaDoorC
open Int (reduceLE reduceLT reduceEq reduceGT reduceGE reduceAdd reduceSub reduceMul reduceNeg)
set_option linter.unusedVariables false
set_option linter.unusedSimpArgs false
theorem ite_bb (p:Prop) [Decidable p] (x y:Bool):(if p then some [bb x] else some [bb y])=some [bb (if p then x else y)]:=by by_cases h:p <;> simp [h]
def inB (a lo hi:Int):Bool:=decide (lo≤a) && decide (a≤hi)
theorem inB_iff {a lo hi:Int}:inB a lo hi=true↔lo≤a∧a≤hi:=by simp [inB]
theorem e_s_l01In (a lo hi:Int):F_s_l01In [ii a,ii lo,ii hi]=some [bb (inB a lo hi)]:=by
 rw [g_s_l01In];simp (disch:=omega) only [↓pq,↓pj,ps,pz,↓reduceIte,reduceLE,reduceLT,reduceEq,reduceGT,reduceGE,reduceAdd,reduceSub,reduceMul,reduceNeg,G_s_l01In,ite_bb];unfold inB
 by_cases h:a ≥ lo <;> simp [h] <;> omega
def linkOk (n:Int) (l:Link):Bool:=inB n 1 6 && inB l.a 1 n && inB l.b 1 n && decide (l.a < l.b) && inB l.cost 1 1000 && inB l.area 0 2
theorem e_s_LinkOk (n a b c ar:Int):F_s_LinkOk [ii n,ii a,ii b,ii c,ii ar]=some [bb (linkOk n ⟨a,b,c,ar⟩)]:=by
 rw [g_s_LinkOk];simp (disch:=omega) only [↓pq,↓pj,ps,pz,↓reduceIte,reduceLE,reduceLT,reduceEq,reduceGT,reduceGE,reduceAdd,reduceSub,reduceMul,reduceNeg,G_s_LinkOk,e_s_l01In,ite_bb];unfold linkOk
 grind
def linkLt (x y:Link):Bool:=decide (x.a < y.a∨x.a=y.a∧(x.b < y.b∨x.b=y.b∧x.area < y.area))
theorem e_s_l03Ahead (a b c d a' b' c' d':Int):F_s_l03Ahead [ii a,ii b,ii c,ii d,ii a',ii b',ii c',ii d']=some [bb (linkLt ⟨a,b,c,d⟩ ⟨a',b',c',d'⟩)]:=by
 rw [g_s_l03Ahead];simp (disch:=omega) only [↓pq,↓pj,ps,pz,↓reduceIte,reduceLE,reduceLT,reduceEq,reduceGT,reduceGE,reduceAdd,reduceSub,reduceMul,reduceNeg,G_s_l03Ahead,ite_bb];unfold linkLt
 grind
def thingLt (x y:Thing):Bool:=decide (x.key < y.key∨x.key=y.key∧x.owner < y.owner)
theorem e_s_l03Thing (a b c a' b' c':Int) (d d':Bool):F_s_l03Thing [ii a,ii b,ii c,bb d,ii a',ii b',ii c',bb d']=some [bb (thingLt ⟨a,b,c,d⟩ ⟨a',b',c',d'⟩)]:=by
 rw [g_s_l03Thing];simp (disch:=omega) only [↓pq,↓pj,ps,pz,↓reduceIte,reduceLE,reduceLT,reduceEq,reduceGT,reduceGE,reduceAdd,reduceSub,reduceMul,reduceNeg,G_s_l03Thing,ite_bb];unfold thingLt
 grind
def ascB {α:Type} [Inhabited α] (ok:α→Bool) (lt:α→α→Bool) (l:List α):Bool :=
 allB l.length fun i=>ok (gt l i) && (!decide ((i:Int) > 0) || lt (gt l (i - 1:Int)) (gt l i))
def thingOk (n:Int) (t:Thing):Bool:=inB t.owner 1 n && inB t.key 1 9 && inB t.cost 1 1000
def netOk (x:Net):Bool:=inB x.n 1 6 && decide (x.links.length≤12) && decide (x.things.length≤4) && ascB (linkOk x.n) linkLt x.links && ascB (thingOk x.n) thingLt x.things
theorem e_s_NetOk (n:Int) (ls:List Link) (ts:List Thing) (h1:ls.length≤1048576) (h2:ts.length≤1048576):F_s_NetOk [ii n,.l (ls.map eLink),.l (ts.map eThing)]=some [bb (netOk ⟨n,ls,ts⟩)]:=by
 rw [g_s_NetOk];simp (disch:=omega) only [↓pq,↓pj,ps,pz,↓reduceIte,reduceLE,reduceLT,reduceEq,reduceGT,reduceGE,reduceAdd,reduceSub,reduceMul,reduceNeg,G_s_NetOk_l0,G_s_NetOk_l1,G_s_NetOk,e_s_l01In]
 rw [show iter _ _ _=(some [bb (ascB (linkOk n) linkLt ls && ascB (thingOk n) thingLt ts)]:Option (List T)) from ?_]
 ·simp (disch:=omega) only [↓pq,↓pj,ps,pz,↓reduceIte,reduceLE,reduceLT,reduceEq,reduceGT,reduceGE,reduceAdd,reduceSub,reduceMul,reduceNeg,G_s_NetOk_l0,G_s_NetOk_l1,ite_bb];unfold netOk;grind
 refine (iter_all ls.length (fun i=>[bb false,ii i]) (fun i=>linkOk n (gt ls i) && (!decide ((i:Int) > 0) || linkLt (gt ls (i - 1:Int)) (gt ls i))) (outF:=some [bb false]) (outT:=some [bb (ascB (thingOk n) thingLt ts)]) ?_ ?_ (by unfold rounds;omega)).trans ?_
 ·intro i hi s
  simp (disch:=omega) only [↓pq,↓pj,ps,pz,↓reduceIte,reduceLE,reduceLT,reduceEq,reduceGT,reduceGE,reduceAdd,reduceSub,reduceMul,reduceNeg,G_s_NetOk_l0,G_s_NetOk_l1,hi,e_s_LinkOk,e_s_l03Ahead]
  grind
 ·intro s
  simp (disch:=omega) only [↓pq,↓pj,ps,pz,↓reduceIte,reduceLE,reduceLT,reduceEq,reduceGT,reduceGE,reduceAdd,reduceSub,reduceMul,reduceNeg,G_s_NetOk_l0,G_s_NetOk_l1,]
  refine (iter_all ts.length (fun i=>[bb false,ii i]) (fun i=>thingOk n (gt ts i) && (!decide ((i:Int) > 0) || thingLt (gt ts (i - 1:Int)) (gt ts i))) (outF:=some [bb false]) (outT:=some [bb true]) ?_ ?_ (by unfold rounds;omega)).trans ?_
  ·intro i hi s
   simp (disch:=omega) only [↓pq,↓pj,ps,pz,↓reduceIte,reduceLE,reduceLT,reduceEq,reduceGT,reduceGE,reduceAdd,reduceSub,reduceMul,reduceNeg,G_s_NetOk_l0,G_s_NetOk_l1,hi,e_s_l01In,e_s_l03Thing]
   unfold thingOk
   grind
  ·intro s
   simp (disch:=omega) only [↓pq,↓pj,ps,pz,↓reduceIte,reduceLE,reduceLT,reduceEq,reduceGT,reduceGE,reduceAdd,reduceSub,reduceMul,reduceNeg,G_s_NetOk_l0,G_s_NetOk_l1,]
  ·rw [ite_bb];unfold ascB;simp
 ·rw [ite_bb];unfold ascB;simp
def joins (a b ar:Int) (l:Link):Bool:=l.area == ar && (l.a == a && l.b == b || l.a == b && l.b == a)
theorem findP_ite {α:Type} (p:α→Bool) (l:List α):(if findP p l < 0 then some [ii (-1)] else some [ii (findP p l)])=some [ii (findP p l)]:=by
 have h:=findP_ge p l
 by_cases h':findP p l < 0
 ·rw [if_pos h',show findP p l=-1 by omega]
 ·rw [if_neg h']
def costTo (ls:List Link) (a b ar:Int):Int:=if findP (joins a b ar) ls < 0 then 0 else (gt ls (findP (joins a b ar) ls)).cost
theorem e_s_CostTo (t0 t2:T) (ls:List Link) (a b ar:Int) (h1:ls.length≤1048576):F_s_CostTo [t0,.l (ls.map eLink),t2,ii a,ii b,ii ar]=some [ii (costTo ls a b ar)]:=by
 rw [g_s_CostTo];simp (disch:=omega) only [↓pq,↓pj,ps,pz,↓reduceIte,reduceLE,reduceLT,reduceEq,reduceGT,reduceGE,reduceAdd,reduceSub,reduceMul,reduceNeg,G_s_CostTo_l0,G_s_CostTo]
 refine (iter_findP ls (fun i=>[ii 0,ii i]) (joins a b ar) (fun i=>some [ii (gt ls i).cost]) (outN:=some [ii 0]) ?_ ?_ (by unfold rounds;omega)).trans ?_
 ·intro i hi s
  simp (disch:=omega) only [↓pq,↓pj,ps,pz,↓reduceIte,reduceLE,reduceLT,reduceEq,reduceGT,reduceGE,reduceAdd,reduceSub,reduceMul,reduceNeg,G_s_CostTo_l0,hi]
  unfold joins
  grind
 ·intro s
  simp (disch:=omega) only [↓pq,↓pj,ps,pz,↓reduceIte,reduceLE,reduceLT,reduceEq,reduceGT,reduceGE,reduceAdd,reduceSub,reduceMul,reduceNeg,G_s_CostTo_l0,]
 ·unfold costTo
  split <;> rfl
theorem costTo_zero {ls:List Link} {n:Int} (h:ascB (linkOk n) linkLt ls=true) (a b ar:Int):costTo ls a b ar=0↔findP (joins a b ar) ls < 0:=by
 unfold costTo
 by_cases h':findP (joins a b ar) ls < 0
 ·simp [h']
 ·rw [if_neg h']
  have hl:=findP_lt (joins a b ar) ls
  have:=allB_iff.1 h (findP (joins a b ar) ls).toNat (by omega)
  rw [show (((findP (joins a b ar) ls).toNat:Nat):Int)=findP (joins a b ar) ls by omega] at this
  simp only [Bool.and_eq_true,linkOk,inB_iff] at this
  omega
end Go.Proofs.YtbhplkilhknciaaDoorC

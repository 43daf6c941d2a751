/- What the small functions compute: words, nets, records, stores. Conditions: none. -/
import Derived.Test.YtlofiplkmgmnfaaXGA
namespace Go.Proofs.YtlofiplkmgmnfaaC
open Int (reduceLE reduceLT reduceEq reduceGT reduceGE reduceAdd reduceSub reduceMul reduceNeg)
set_option linter.unusedVariables false
set_option linter.unusedSimpArgs false
theorem ite_bb (p:Prop) [Decidable p] (x y:Bool):(if p then some [bb x] else some [bb y])=some [bb (if p then x else y)]:=by by_cases h:p <;> simp [h]
def inB (a lo hi:Int):Bool:=decide (lo≤a) && decide (a≤hi)
theorem inB_iff {a lo hi:Int}:inB a lo hi=true↔lo≤a∧a≤hi:=by simp [inB]
theorem e_i_in (a lo hi:Int):F_i_in [ii a,ii lo,ii hi]=some [bb (inB a lo hi)]:=by
 rw [g_i_in];simp (disch:=omega) only [↓pq,ps,pz,↓reduceIte,reduceLE,reduceLT,reduceEq,reduceGT,reduceGE,reduceAdd,reduceSub,reduceMul,reduceNeg,G_i_in,ite_bb];unfold inB
 by_cases h:a ≥ lo <;> simp [h] <;> omega
theorem e_s_l01In (a lo hi:Int):F_s_l01In [ii a,ii lo,ii hi]=some [bb (inB a lo hi)]:=by
 rw [g_s_l01In];simp (disch:=omega) only [↓pq,ps,pz,↓reduceIte,reduceLE,reduceLT,reduceEq,reduceGT,reduceGE,reduceAdd,reduceSub,reduceMul,reduceNeg,G_s_l01In,ite_bb];unfold inB
 by_cases h:a ≥ lo <;> simp [h] <;> omega
def ascB {α:Type} [Inhabited α] (ok:α→Bool) (lt:α→α→Bool) (l:List α):Bool :=
 allB l.length fun i=>ok (gt l i) && (!decide ((i:Int) > 0) || lt (gt l (i - 1:Int)) (gt l i))
def joins (a b ar:Int) (l:Link):Bool:=l.area == ar && (l.a == a && l.b == b || l.a == b && l.b == a)
theorem findP_ite {α:Type} (p:α→Bool) (l:List α):(if findP p l < 0 then some [ii (-1)] else some [ii (findP p l)])=some [ii (findP p l)]:=by
 have h:=findP_ge p l
 by_cases h':findP p l < 0
 ·rw [if_pos h',show findP p l=-1 by omega]
 ·rw [if_neg h']
end Go.Proofs.YtlofiplkmgmnfaaC

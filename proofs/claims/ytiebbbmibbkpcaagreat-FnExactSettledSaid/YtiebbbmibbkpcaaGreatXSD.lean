/- What the tests of worlds compute: what was told, who knows the same. Conditions: none. -/
import Derived.Test.YtiebbbmibbkpcaaGreatXSC
namespace Go.Proofs.YtiebbbmibbkpcaaGreatC
open Int (reduceLE reduceLT reduceEq reduceGT reduceGE reduceAdd reduceSub reduceMul reduceNeg)
set_option linter.unusedVariables false
set_option linter.unusedSimpArgs false
def upB (u:List Bool) (k:Nat) (n:Int):Bool:=inB n 1 u.length && (decide (n≤k) && gt u (n - 1))
theorem aww_ (t0 t1 t2 t3:T) (u:List Bool) (t5:T) (ns:List Node) (t7 t8 t9:T) (n:Int) (h:u.length≤1048576) :
  ud_ [t0,t1,t2,t3,.l (u.map zC_),t5,.l (ns.map yF_),t7,t8,t9,ii n]=some [bb (upB u ns.length n),t0,t1,t2,t3,.l (u.map zC_),t5,.l (ns.map yF_),t7,t8,t9]:=by
 rw [axq_];simp (disch:=omega) only [↓pq,ps,pz,↓reduceIte,reduceLE,reduceLT,reduceEq,reduceGT,reduceGE,reduceAdd,reduceSub,reduceMul,reduceNeg,ab6_,jk_]
 unfold upB
 cases hi:inB n 1 u.length with
 | false=>simp
 | true =>
  have:=inB_iff.1 hi
  simp (disch:=omega) only [↓pq,ps,pz,↓reduceIte,reduceLE,reduceLT,reduceEq,reduceGT,reduceGE,reduceAdd,reduceSub,reduceMul,reduceNeg,Bool.true_and]
  by_cases hk:n≤ns.length <;> simp [hk]
theorem aMj_ {u:List Bool} {k i:Nat} (hi:i < k):upB u k (i+1)=(decide (i < u.length) && gt u i):=by
 unfold upB inB
 have h1:((1:Int)≤i+1):=by omega
 have h2:((i:Int)+1≤k):=by omega
 have h3:(i:Int)+1 - 1=i:=by omega
 have h4:((i:Int)+1≤u.length)=(i < u.length):=by simp only [eq_iff_iff];omega
 simp [h1,h2,h3,h4]
structure OkStores (ns:List Node):Prop where
 len:∀ n∈ns,n.self.store.length≤1048576
 near:∀ n∈ns,NearL n.self.store
 heard:∀ n∈ns,n.self.heard.length≤1048576
theorem kR_ (a k o y s:Int) (l:List Near) (c:Int) (f:Bool) (h:l.length≤1048576):xX_ [ii a,ii k,ii o,ii y,ii s,.l (l.map z8_),ii c,bb f]=some [ii a,ii k,ii o,ii y,ii s,.l (l.map z8_),ii c,bb f]:=by
 rw [asp_];simp (disch:=omega) only [↓pq,ps,pz,↓reduceIte,reduceLE,reduceLT,reduceEq,reduceGT,reduceGE,reduceAdd,reduceSub,reduceMul,reduceNeg,kX_]
theorem aC4_ (a k o y s:Int) (l:List Near) (c:Int) (f:Bool) (h:l.length≤1048576):u2_ [ii a,ii k,ii o,ii y,ii s,.l (l.map z8_),ii c,bb f]=some [ii a,ii k,ii o,ii y,ii s,.l (l.map z8_),ii c,bb f]:=by
 rw [aEx_];simp (disch:=omega) only [↓pq,ps,pz,↓reduceIte,reduceLE,reduceLT,reduceEq,reduceGT,reduceGE,reduceAdd,reduceSub,reduceMul,reduceNeg,ae7_]
def aSi_ (ar:Int) (r:Rcd):Bool:=r.area == ar || r.area == 9
def scope (s:List Rcd) (ar:Int):List Rcd:=s.filter (aSi_ ar)
end Go.Proofs.YtiebbbmibbkpcaaGreatC

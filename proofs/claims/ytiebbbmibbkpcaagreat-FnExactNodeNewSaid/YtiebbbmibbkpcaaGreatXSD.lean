/- What the tests of worlds compute: what was told, who knows the same. Conditions: none. -/
import Derived.Test.YtiebbbmibbkpcaaGreatXSC
namespace Go.Proofs.YtiebbbmibbkpcaaGreatC
open Int (reduceLE reduceLT reduceEq reduceGT reduceGE reduceAdd reduceSub reduceMul reduceNeg)
set_option linter.unusedVariables false
set_option linter.unusedSimpArgs false
structure OkStores (ns:List Node):Prop where
 len:∀ n∈ns,n.self.store.length≤1048576
 near:∀ n∈ns,NearL n.self.store
 heard:∀ n∈ns,n.self.heard.length≤1048576
theorem kU_ (a k o y s:Int) (l:List Near) (c:Int) (f:Bool) (h:l.length≤1048576):xZ_ [ii a,ii k,ii o,ii y,ii s,.l (l.map zF_),ii c,bb f]=some [ii a,ii k,ii o,ii y,ii s,.l (l.map zF_),ii c,bb f]:=by
 rw [arh_];simp (disch:=omega) only [↓pq,ps,pz,↓reduceIte,reduceLE,reduceLT,reduceEq,reduceGT,reduceGE,reduceAdd,reduceSub,reduceMul,reduceNeg,kO_]
theorem aev_ (a k o y s:Int) (l:List Near) (c:Int) (f:Bool) (h:l.length≤1048576):xX_ [ii a,ii k,ii o,ii y,ii s,.l (l.map zF_),ii c,bb f]=some [ii a,ii k,ii o,ii y,ii s,.l (l.map zF_),ii c,bb f]:=by
 rw [az4_];simp (disch:=omega) only [↓pq,ps,pz,↓reduceIte,reduceLE,reduceLT,reduceEq,reduceGT,reduceGE,reduceAdd,reduceSub,reduceMul,reduceNeg,aei_]
def aQ9_ (ar:Int) (r:Rcd):Bool:=r.area == ar || r.area == 9
def scope (s:List Rcd) (ar:Int):List Rcd:=s.filter (aQ9_ ar)
end Go.Proofs.YtiebbbmibbkpcaaGreatC

/- What the tests of worlds compute: what was told, who knows the same. Conditions: none. -/
import Derived.Test.YtjimmglpkndemaaGreatXSC
namespace Go.Proofs.YtjimmglpkndemaaGreatC
open Int renaming reduceLE → Q0_, reduceLT → Q1_, reduceEq → Q2_, reduceGT → Q3_, reduceGE → Q4_, reduceAdd → Q5_, reduceSub → Q6_, reduceMul → Q7_, reduceNeg → Q8_
set_option linter.unusedVariables false
set_option linter.unusedSimpArgs false
structure OkStores (ns:List Node):Prop where
 len:∀ n∈ns,n.self.store.length≤1048576
 near:∀ n∈ns,NearL n.self.store
 heard:∀ n∈ns,n.self.heard.length≤1048576
theorem kp_ (a k o y s:Int) (l:List Near) (c:Int) (f:Bool) (h:l.length≤1048576):x7_ [ii a,ii k,ii o,ii y,ii s,.l (l.map zu_),ii c,bb f]=some [ii a,ii k,ii o,ii y,ii s,.l (l.map zu_),ii c,bb f]:=by
 rw [aqc_];simp (disch:=omega) only [↓pq,↓pj,ps,pz,↓reduceIte,Q0_,Q1_,Q2_,Q3_,Q4_,Q5_,Q6_,Q7_,Q8_,ku_]
theorem kQ_ (a k o y s:Int) (l:List Near) (c:Int) (f:Bool) (h:l.length≤1048576):x1_ [ii a,ii k,ii o,ii y,ii s,.l (l.map zu_),ii c,bb f]=some [ii a,ii k,ii o,ii y,ii s,.l (l.map zu_),ii c,bb f]:=by
 rw [ayt_];simp (disch:=omega) only [↓pq,↓pj,ps,pz,↓reduceIte,Q0_,Q1_,Q2_,Q3_,Q4_,Q5_,Q6_,Q7_,Q8_,ad7_]
def aNg_ (ar:Int) (r:Rcd):Bool:=r.area == ar || r.area == 9
def scope (s:List Rcd) (ar:Int):List Rcd:=s.filter (aNg_ ar)
end Go.Proofs.YtjimmglpkndemaaGreatC

/- What the tests of worlds compute: what was told, who knows the same. Conditions: none. -/
import Derived.Test.YtbhplkilhknciaaDoorXSC
namespace Go.Proofs.YtbhplkilhknciaaDoorC
open Int (reduceLE reduceLT reduceEq reduceGT reduceGE reduceAdd reduceSub reduceMul reduceNeg)
set_option linter.unusedVariables false
set_option linter.unusedSimpArgs false
structure OkStores (ns:List Node):Prop where
 len:∀ n∈ns,n.self.store.length≤1048576
 near:∀ n∈ns,NearL n.self.store
 heard:∀ n∈ns,n.self.heard.length≤1048576
theorem e_s_l04Copy (a k o y s:Int) (l:List Near) (c:Int) (f:Bool) (h:l.length≤1048576):F_s_l04Copy [ii a,ii k,ii o,ii y,ii s,.l (l.map eNear),ii c,bb f]=some [ii a,ii k,ii o,ii y,ii s,.l (l.map eNear),ii c,bb f]:=by
 rw [g_s_l04Copy];simp (disch:=omega) only [↓pq,↓pj,ps,pz,↓reduceIte,reduceLE,reduceLT,reduceEq,reduceGT,reduceGE,reduceAdd,reduceSub,reduceMul,reduceNeg,G_s_l04Copy]
def inScope (ar:Int) (r:Rcd):Bool:=r.area == ar || r.area == 9
def scope (s:List Rcd) (ar:Int):List Rcd:=s.filter (inScope ar)
end Go.Proofs.YtbhplkilhknciaaDoorC

/- FnExactSettled: what the plain programs say. Conditions: none. -/
import Derived.Test.YtiebbbmibbkpcaaGreatXMR
import Derived.Test.YtiebbbmibbkpcaaGreatXSV
namespace Go.Proofs.YtiebbbmibbkpcaaGreatC
open Int (reduceLE reduceLT reduceEq reduceGT reduceGE reduceAdd reduceSub reduceMul reduceNeg)
set_option linter.unusedVariables false
set_option linter.unusedSimpArgs false
def aaw_:List Ty:=aNz_
theorem ajn_ (ts:List T) (h:WTs aaw_ ts):vq_ ts=some [.c (.bool true)]:=by
 obtain ⟨x,rfl,hx⟩:=aUm_ ts h
 obtain ⟨n,e1,b1,c1⟩:=aKb_ _ 1048576 h (by omega) (by omega)
 rw [ax2_] at c1
 rw [show vq_ (yf_ x)=_ from ang_ ..]
 simp only [yf_,List.cons_append,List.nil_append] at e1
 by_cases q:n < 0
 ·simp (disch:=omega) only [↓pq,ps,pz,↓reduceIte,reduceLE,reduceLT,reduceEq,reduceGT,reduceGE,reduceAdd,reduceSub,reduceMul,reduceNeg,uB_,e1,q]
 have c2:=c1 (by omega)
 have hb:ah5_ x≤1048576:=by omega
 have e2:=aJ9_ _ h (by rw [ax2_];exact hb)
 have e3:=aKr_ _ h (by rw [ax2_];exact hb)
 simp only [yf_,List.cons_append,List.nil_append] at e2 e3
 unfold ah5_ at hb
 have h1:=vy_ (f:=afg_) x.up
 have h2:=vy_ (f:=kV_) x.nodes
 have h3:=vy_ (f:=kU_) x.net.links
 have h4:=vy_ (f:=jJ_) x.net.things
 have a1:=aEd_ x.net.n x.net.links x.net.things x.links x.up (.l (x.boots.map eInt)) x.nodes (.l (x.flying.map z6_)) (.l (x.told.map eRcd)) (ii x.errors) (by omega) (by omega) (by omega) (by omega) fun y hy=>apw_ (by omega) hy
 have a2:=aCt_ x.net.n x.net.links x.net.things x.links x.up (.l (x.boots.map eInt)) x.nodes (.l (x.flying.map z6_)) (.l (x.told.map eRcd)) (ii x.errors) (by omega) (by omega) (by omega) (by omega) fun y hy=>apw_ (by omega) hy
 simp (disch:=omega) only [↓pq,ps,pz,↓reduceIte,reduceLE,reduceLT,reduceEq,reduceGT,reduceGE,reduceAdd,reduceSub,reduceMul,reduceNeg,uB_,e1,e2,e3,a1,a2,q,not_true_eq_false]
end Go.Proofs.YtiebbbmibbkpcaaGreatC

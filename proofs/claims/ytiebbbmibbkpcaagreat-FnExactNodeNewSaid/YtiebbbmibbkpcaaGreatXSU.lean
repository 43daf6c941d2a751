/- The aSu_ store and the routes out of it, by both programs. Conditions: none. -/
import Derived.Test.YtiebbbmibbkpcaaGreatXST
namespace Go.Proofs.YtiebbbmibbkpcaaGreatC
open Int (reduceLE reduceLT reduceEq reduceGT reduceGE reduceAdd reduceSub reduceMul reduceNeg)
set_option linter.unusedVariables false
set_option linter.unusedSimpArgs false
def aS3_ (ls:List Link) (L U:List Bool) (v a:Int):Rcd:=⟨a,1,v,0,1,aS1_ ls L U v a,0,false⟩
def aR1_ (t:Thing):Rcd:=⟨9,3,t.owner,t.key,1,[],t.cost,t.far⟩
theorem aNz_ {n:Int} {ts:List Thing} (h:ascB (vE_ n) vm_ ts=true) {t:Thing} (ht:t∈ts):(1≤t.owner∧t.owner≤n)∧(1≤t.key∧t.key≤9)∧(1≤t.cost∧t.cost≤1000):=by
 obtain ⟨i,hi,rfl⟩:=List.mem_iff_getElem.1 ht
 have:=allB_iff.1 h i hi
 rw [zm_ hi] at this
 simp only [Bool.and_eq_true,vE_,inB_iff] at this
 omega
def aSk_ (ls:List Link) (L U:List Bool) (c:List Rcd) (i:Nat):List Rcd :=
 if gt U ((i:Int)+1 - 1)=true then (z1_ ls ((i:Int)+1)).foldl (fun c a=>putR c (aS3_ ls L U ((i:Int)+1) a)) c else c
def aSb_ (U:List Bool) (c:List Rcd) (t:Thing):List Rcd:=if gt U (t.owner - 1)=true then putR c (aR1_ t) else c
def aSq_ (ls:List Link) (U:List Bool) (c:List Rcd) (i:Nat):List Rcd :=
 if gt U ((i:Int)+1 - 1)=true then (if vO_ ls ((i:Int)+1)=true then aMl_ c (z1_ ls ((i:Int)+1)) ((i:Int)+1) else c) else c
def aR0_ (n:Int) (ls:List Link) (U:List Bool) (c:List Rcd) (_:Nat):List Rcd:=(List.range n.toNat).foldl (aSq_ ls U) c
def aSu_ (x:Net) (L U:List Bool):List Rcd:=(List.range 3).foldl (aR0_ x.n x.links U) (x.things.foldl (aSb_ U) ((List.range x.n.toNat).foldl (aSk_ x.links L U) []))
theorem wS_ {x:Net} (h:vV_ x=true):(1≤x.n∧x.n≤6)∧x.links.length≤12∧x.things.length≤4∧ascB (xq_ x.n) xH_ x.links=true∧ascB (vE_ x.n) vm_ x.things=true:=by
 unfold vV_ at h
 simp only [Bool.and_eq_true,decide_eq_true_eq,inB_iff] at h
 exact ⟨h.1.1.1.1,h.1.1.1.2,h.1.1.2,h.1.2,h.2⟩
section
variable {n:Int} {ls:List Link} {L U:List Bool} (h:ascB (xq_ n) xH_ ls=true) (hn:n≤6)
include h hn
end
end Go.Proofs.YtiebbbmibbkpcaaGreatC

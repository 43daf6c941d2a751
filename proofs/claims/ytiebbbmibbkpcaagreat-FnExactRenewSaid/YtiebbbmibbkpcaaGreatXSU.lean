/- The aRx_ store and the routes out of it, by both programs. Conditions: none. -/
import Derived.Test.YtiebbbmibbkpcaaGreatXST
namespace Go.Proofs.YtiebbbmibbkpcaaGreatC
open Int (reduceLE reduceLT reduceEq reduceGT reduceGE reduceAdd reduceSub reduceMul reduceNeg)
set_option linter.unusedVariables false
set_option linter.unusedSimpArgs false
def aRt_ (ls:List Link) (L U:List Bool) (v a:Int):Rcd:=⟨a,1,v,0,1,aR7_ ls L U v a,0,false⟩
def aQr_ (t:Thing):Rcd:=⟨9,3,t.owner,t.key,1,[],t.cost,t.far⟩
theorem aMl_ {n:Int} {ts:List Thing} (h:ascB (vt_ n) vb_ ts=true) {t:Thing} (ht:t∈ts):(1≤t.owner∧t.owner≤n)∧(1≤t.key∧t.key≤9)∧(1≤t.cost∧t.cost≤1000):=by
 obtain ⟨i,hi,rfl⟩:=List.mem_iff_getElem.1 ht
 have:=allB_iff.1 h i hi
 rw [zm_ hi] at this
 simp only [Bool.and_eq_true,vt_,inB_iff] at this
 omega
def aRo_ (ls:List Link) (L U:List Bool) (c:List Rcd) (i:Nat):List Rcd :=
 if gt U ((i:Int)+1 - 1)=true then (z3_ ls ((i:Int)+1)).foldl (fun c a=>putR c (aRt_ ls L U ((i:Int)+1) a)) c else c
def aQy_ (U:List Bool) (c:List Rcd) (t:Thing):List Rcd:=if gt U (t.owner - 1)=true then putR c (aQr_ t) else c
def aRy_ (ls:List Link) (U:List Bool) (c:List Rcd) (i:Nat):List Rcd :=
 if gt U ((i:Int)+1 - 1)=true then (if vE_ ls ((i:Int)+1)=true then aMi_ c (z3_ ls ((i:Int)+1)) ((i:Int)+1) else c) else c
def aRf_ (n:Int) (ls:List Link) (U:List Bool) (c:List Rcd) (_:Nat):List Rcd:=(List.range n.toNat).foldl (aRy_ ls U) c
def aRx_ (x:Net) (L U:List Bool):List Rcd:=(List.range 3).foldl (aRf_ x.n x.links U) (x.things.foldl (aQy_ U) ((List.range x.n.toNat).foldl (aRo_ x.links L U) []))
theorem ur_ {x:Net} (h:uF_ x=true):(1≤x.n∧x.n≤6)∧x.links.length≤12∧x.things.length≤4∧ascB (xj_ x.n) xD_ x.links=true∧ascB (vt_ x.n) vb_ x.things=true:=by
 unfold uF_ at h
 simp only [Bool.and_eq_true,decide_eq_true_eq,inB_iff] at h
 exact ⟨h.1.1.1.1,h.1.1.1.2,h.1.1.2,h.1.2,h.2⟩
section
variable {n:Int} {ls:List Link} {L U:List Bool} (h:ascB (xj_ n) xD_ ls=true) (hn:n≤6)
include h hn
end
end Go.Proofs.YtiebbbmibbkpcaaGreatC

/- What the records are that there would be; links are seen from both ends. Conditions: none. -/
import Derived.Test.YtlofiplkmgmnfaaXSDe
namespace Go.Proofs.YtlofiplkmgmnfaaC
set_option linter.unusedVariables false
set_option linter.unusedSimpArgs false
theorem mem_putAll {f:Rcd→Rcd} {x:Rcd}:∀ {l s:List Rcd},x∈putAll f s l→x∈s∨∃ r∈l,x=f r
 | [],s,h=>.inl h
 | r :: l,s,h=>by
  have h:x∈putAll f (putR s (f r)) l:=h
  rcases mem_putAll h with h | ⟨y,hy,e⟩
  ·rcases mem_putR h with h | h
   ·exact .inr ⟨r,.head _,h⟩
   ·exact .inl h
  ·exact .inr ⟨y,.tail _ hy,e⟩
theorem foldl_all {α β:Type} {P:β→Prop} {g:β→α→β}:∀ {l:List α} {c:β},(∀ a∈l,∀ c,P c→P (g c a))→P c→P (l.foldl g c)
 | [],c,_,h=>h
 | a :: l,c,hg,h=>by rw [List.foldl_cons];exact foldl_all (fun b hb=>hg b (.tail _ hb)) (hg a (.head _) c h)
section
variable {x:Net} {L U:List Bool}
def IdP (x:Net) (L U:List Bool) (r:Rcd):Prop :=
 gt U (r.owner - 1)=true∧r.seq=1∧(1≤r.owner∧r.owner≤x.n)∧(r.kind=1→r=rNode x.links L U r.owner r.area∧r.area∈areasOf x.links r.owner)∧(r.kind=3→∃ t∈x.things,r=rThing t) ∧
  (r.kind=2→border x.links r.owner=true)
theorem ideal_rec (h:netOk x=true):∀ r∈ideal x L U,IdP x L U r:=by
 obtain ⟨hn,_,_,hA,hT⟩:=netOk_all h
 unfold ideal
 refine foldl_all (P:=fun c=>∀ r∈c,IdP x L U r) (fun k _ c hc=>?_) ?_
 ·unfold round1
  refine foldl_all (P:=fun c=>∀ r∈c,IdP x L U r) (fun i hi c hc=>?_) hc
  have hi:=List.mem_range.1 hi
  unfold bord1
  split
  ·rename_i hu
   split
   ·rename_i hb
    intro r hr
    unfold insteadR at hr
    rcases mem_putAll hr with hr | ⟨y,hy,e⟩
    ·exact hc r (List.mem_filter.1 hr).1
    ·obtain ⟨a,ha,hy⟩:=List.mem_flatMap.1 hy
     obtain ⟨q1,q2,q3,q4,q5,q6,_⟩:=beyondR_rec hy
     have e1:r.owner=(i:Int)+1:=by rw [e];exact q3
     have e2:r.kind=2:=by rw [e];exact q2
     have e3:r.seq=1:=by rw [e];rfl
     refine ⟨by rw [e1];exact hu,e3,by omega,fun h=>by omega,fun h=>by omega,fun _=>by rw [e1];exact hb⟩
   ·exact hc
  ·exact hc
 ·refine foldl_all (P:=fun c=>∀ r∈c,IdP x L U r) (fun t ht c hc=>?_) ?_
  ·unfold thing1
   split
   ·rename_i hu
    intro r hr
    rcases mem_putR hr with e | hr
    ·have:=thing_of hT ht
     rw [e]
     exact ⟨hu,rfl,this.1,fun h=>absurd h (by show (3:Int)≠1;decide),fun _=>⟨t,ht,rfl⟩,fun h=>absurd h (by show (3:Int)≠2;decide)⟩
    ·exact hc r hr
   ·exact hc
  ·refine foldl_all (P:=fun c=>∀ r∈c,IdP x L U r) (fun i hi c hc=>?_) (by simp)
   have hi:=List.mem_range.1 hi
   unfold node1
   split
   ·rename_i hu
    refine foldl_all (P:=fun c=>∀ r∈c,IdP x L U r) (fun a ha c hc=>?_) hc
    intro r hr
    rcases mem_putR hr with e | hr
    ·rw [e]
     exact ⟨hu,rfl,by show 1≤(i:Int)+1∧(i:Int)+1≤x.n;omega,fun _=>⟨rfl,ha⟩,fun h=>absurd h (by show (1:Int)≠3;decide),fun h=>absurd h (by show (1:Int)≠2;decide)⟩
    ·exact hc r hr
   ·exact hc
end
end Go.Proofs.YtlofiplkmgmnfaaC

/- What the records are that there would be; links are seen from both ends. Conditions: none. -/
import Derived.Test.YtjimmglpkndemaaGreatXSDe
namespace Go.Proofs.YtjimmglpkndemaaGreatC
set_option linter.unusedVariables false
set_option linter.unusedSimpArgs false
theorem am9_ {f:Rcd→Rcd} {x:Rcd}:∀ {l s:List Rcd},x∈zq_ f s l→x∈s∨∃ r∈l,x=f r
 | [],s,h=>.inl h
 | r :: l,s,h=>by
  have h:x∈zq_ f (putR s (f r)) l:=h
  rcases am9_ h with h | ⟨y,hy,e⟩
  ·rcases wA_ h with h | h
   ·exact .inr ⟨r,.head _,h⟩
   ·exact .inl h
  ·exact .inr ⟨y,.tail _ hy,e⟩
theorem qA_ {α β:Type} {P:β→Prop} {g:β→α→β}:∀ {l:List α} {c:β},(∀ a∈l,∀ c,P c→P (g c a))→P c→P (l.foldl g c)
 | [],c,_,h=>h
 | a :: l,c,hg,h=>by rw [List.foldl_cons];exact qA_ (fun b hb=>hg b (.tail _ hb)) (hg a (.head _) c h)
section
variable {x:Net} {L U:List Bool}
def IdP (x:Net) (L U:List Bool) (r:Rcd):Prop :=
 gt U (r.owner - 1)=true∧r.seq=1∧(1≤r.owner∧r.owner≤x.n)∧(r.kind=1→r=akh_ x.links L U r.owner r.area∧r.area∈zP_ x.links r.owner)∧(r.kind=3→∃ t∈x.things,r=aol_ t) ∧
  (r.kind=2→v1_ x.links r.owner=true)
theorem aG1_ (h:wn_ x=true):∀ r∈ah0_ x L U,IdP x L U r:=by
 obtain ⟨hn,_,_,hA,hT⟩:=w0_ h
 unfold ah0_
 refine qA_ (P:=fun c=>∀ r∈c,IdP x L U r) (fun k _ c hc=>?_) ?_
 ·unfold aca_
  refine qA_ (P:=fun c=>∀ r∈c,IdP x L U r) (fun i hi c hc=>?_) hc
  have hi:=List.mem_range.1 hi
  unfold akq_
  split
  ·rename_i hu
   split
   ·rename_i hb
    intro r hr
    unfold kx_ at hr
    rcases am9_ hr with hr | ⟨y,hy,e⟩
    ·exact hc r (List.mem_filter.1 hr).1
    ·obtain ⟨a,ha,hy⟩:=List.mem_flatMap.1 hy
     obtain ⟨q1,q2,q3,q4,q5,q6,_⟩:=u3_ hy
     have e1:r.owner=(i:Int)+1:=by rw [e];exact q3
     have e2:r.kind=2:=by rw [e];exact q2
     have e3:r.seq=1:=by rw [e];rfl
     refine ⟨by rw [e1];exact hu,e3,by omega,fun h=>by omega,fun h=>by omega,fun _=>by rw [e1];exact hb⟩
   ·exact hc
  ·exact hc
 ·refine qA_ (P:=fun c=>∀ r∈c,IdP x L U r) (fun t ht c hc=>?_) ?_
  ·unfold kY_
   split
   ·rename_i hu
    intro r hr
    rcases wA_ hr with e | hr
    ·have:=ag7_ hT ht
     rw [e]
     exact ⟨hu,rfl,this.1,fun h=>absurd h (by show (3:Int)≠1;decide),fun _=>⟨t,ht,rfl⟩,fun h=>absurd h (by show (3:Int)≠2;decide)⟩
    ·exact hc r hr
   ·exact hc
  ·refine qA_ (P:=fun c=>∀ r∈c,IdP x L U r) (fun i hi c hc=>?_) (by simp)
   have hi:=List.mem_range.1 hi
   unfold aa6_
   split
   ·rename_i hu
    refine qA_ (P:=fun c=>∀ r∈c,IdP x L U r) (fun a ha c hc=>?_) hc
    intro r hr
    rcases wA_ hr with e | hr
    ·rw [e]
     exact ⟨hu,rfl,by show 1≤(i:Int)+1∧(i:Int)+1≤x.n;omega,fun _=>⟨rfl,ha⟩,fun h=>absurd h (by show (1:Int)≠3;decide),fun h=>absurd h (by show (1:Int)≠2;decide)⟩
    ·exact hc r hr
   ·exact hc
end
end Go.Proofs.YtjimmglpkndemaaGreatC

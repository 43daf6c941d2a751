/- What the records are that there would be; links are seen from both ends. Conditions: none. -/
import Derived.Test.YtlofiplkmgmnfaaXSDe
namespace Go.Proofs.YtlofiplkmgmnfaaC
set_option linter.unusedVariables false
set_option linter.unusedSimpArgs false
def NoKey (r x:Rcd):Prop:=recLt x r=true∨recLt r x=true
theorem putR_self (s:List Rcd) (r:Rcd):r∈putR s r:=by unfold putR;simp
theorem putR_keep {s:List Rcd} {r x:Rcd} (h:x∈s) (hk:NoKey r x):x∈putR s r:=by
 unfold putR
 simp only [List.mem_append,List.mem_filter,List.mem_singleton]
 rcases hk with hk | hk
 ·exact .inl ⟨h,hk⟩
 ·exact .inr (.inr ⟨h,hk⟩)
theorem noKey_of {r x:Rcd} (h:¬ (x.area=r.area∧x.kind=r.kind∧x.owner=r.owner∧x.key=r.key)):NoKey r x:=by
 unfold NoKey
 rw [recLt_iff,recLt_iff]
 omega
theorem mem_putAll {f:Rcd→Rcd} {x:Rcd}:∀ {l s:List Rcd},x∈putAll f s l→x∈s∨∃ r∈l,x=f r
 | [],s,h=>.inl h
 | r :: l,s,h=>by
  have h:x∈putAll f (putR s (f r)) l:=h
  rcases mem_putAll h with h | ⟨y,hy,e⟩
  ·rcases mem_putR h with h | h
   ·exact .inr ⟨r,.head _,h⟩
   ·exact .inl h
  ·exact .inr ⟨y,.tail _ hy,e⟩
theorem putAll_keep {f:Rcd→Rcd} {x:Rcd}:∀ {l s:List Rcd},x∈s→(∀ r∈l,NoKey (f r) x)→x∈putAll f s l
 | [],s,h,_=>h
 | r :: l,s,h,hk=>by
  show x∈putAll f (putR s (f r)) l
  exact putAll_keep (putR_keep h (hk r (.head _))) fun y hy=>hk y (.tail _ hy)
theorem foldl_all {α β:Type} {P:β→Prop} {g:β→α→β}:∀ {l:List α} {c:β},(∀ a∈l,∀ c,P c→P (g c a))→P c→P (l.foldl g c)
 | [],c,_,h=>h
 | a :: l,c,hg,h=>by rw [List.foldl_cons];exact foldl_all (fun b hb=>hg b (.tail _ hb)) (hg a (.head _) c h)
theorem foldl_get {α β:Type} {P:β→Prop} {g:β→α→β} {a:α}:∀ {l:List α} {c:β},a∈l→(∀ c,P (g c a))→(∀ b∈l,∀ c,P c→P (g c b))→P (l.foldl g c)
 | [],c,h,_,_=>by cases h
 | b :: l,c,h,h1,h2=>by
  rw [List.foldl_cons]
  rcases List.mem_cons.1 h with h | h
  ·subst h;exact foldl_all (fun b hb=>h2 b (.tail _ hb)) (h1 c)
  ·exact foldl_get h h1 fun b hb=>h2 b (.tail _ hb)
section
variable {x:Net} {L U:List Bool}
def IdP (x:Net) (L U:List Bool) (r:Rcd):Prop :=
 gt U (r.owner - 1)=true∧r.seq=1∧(1≤r.owner∧r.owner≤x.n)∧(r.kind=1→r=rNode x.links L U r.owner r.area∧r.area∈areasOf x.links r.owner)∧(r.kind=3→∃ t∈x.things,r=rThing t) ∧
  (r.kind=2→border x.links r.owner=true)
theorem ideal_rec (h:netOk x=true):∀ r∈ideal x L U,IdP x L U r:=by
 obtain ⟨hn,_,_,hA,hT⟩:=netOk_all h
 unfold ideal
 refine foldl_all (P:=fun c=>∀ r∈c,IdP x L U r) (fun k _ c hc=>?_) ?_
 ·unfold round1
  refine foldl_all (P:=fun c=>∀ r∈c,IdP x L U r) (fun i hi c hc=>?_) hc
  have hi:=List.mem_range.1 hi
  unfold bord1
  split
  ·rename_i hu
   split
   ·rename_i hb
    intro r hr
    unfold insteadR at hr
    rcases mem_putAll hr with hr | ⟨y,hy,e⟩
    ·exact hc r (List.mem_filter.1 hr).1
    ·obtain ⟨a,ha,hy⟩:=List.mem_flatMap.1 hy
     obtain ⟨q1,q2,q3,q4,q5,q6,_⟩:=beyondR_rec hy
     have e1:r.owner=(i:Int)+1:=by rw [e];exact q3
     have e2:r.kind=2:=by rw [e];exact q2
     have e3:r.seq=1:=by rw [e];rfl
     refine ⟨by rw [e1];exact hu,e3,by omega,fun h=>by omega,fun h=>by omega,fun _=>by rw [e1];exact hb⟩
   ·exact hc
  ·exact hc
 ·refine foldl_all (P:=fun c=>∀ r∈c,IdP x L U r) (fun t ht c hc=>?_) ?_
  ·unfold thing1
   split
   ·rename_i hu
    intro r hr
    rcases mem_putR hr with e | hr
    ·have:=thing_of hT ht
     rw [e]
     exact ⟨hu,rfl,this.1,fun h=>absurd h (by show (3:Int)≠1;decide),fun _=>⟨t,ht,rfl⟩,fun h=>absurd h (by show (3:Int)≠2;decide)⟩
    ·exact hc r hr
   ·exact hc
  ·refine foldl_all (P:=fun c=>∀ r∈c,IdP x L U r) (fun i hi c hc=>?_) (by simp)
   have hi:=List.mem_range.1 hi
   unfold node1
   split
   ·rename_i hu
    refine foldl_all (P:=fun c=>∀ r∈c,IdP x L U r) (fun a ha c hc=>?_) hc
    intro r hr
    rcases mem_putR hr with e | hr
    ·rw [e]
     exact ⟨hu,rfl,by show 1≤(i:Int)+1∧(i:Int)+1≤x.n;omega,fun _=>⟨rfl,ha⟩,fun h=>absurd h (by show (1:Int)≠3;decide),fun h=>absurd h (by show (1:Int)≠2;decide)⟩
    ·exact hc r hr
   ·exact hc
theorem rounds_keep {r:Rcd} (hk:r.kind≠2) {c:List Rcd} (hc:r∈c):r∈(List.range 3).foldl (round1 x.n x.links U) c:=by
 refine foldl_all (P:=fun c=>r∈c) (fun k _ c hc=>?_) hc
 unfold round1
 refine foldl_all (P:=fun c=>r∈c) (fun i _ c hc=>?_) hc
 unfold bord1
 split
 ·split
  ·unfold insteadR
   refine putAll_keep (List.mem_filter.2 ⟨hc,by unfold notOf;simp [hk]⟩) fun y hy=>?_
   obtain ⟨a,ha,hy⟩:=List.mem_flatMap.1 hy
   have e2:(seq1 y).kind=2:=(beyondR_rec hy).2.1
   exact noKey_of fun e=>hk (e.2.1.trans e2)
  ·exact hc
 ·exact hc
theorem things_one (h:netOk x=true) {t t':Thing} (ht:t∈x.things) (ht':t'∈x.things) (hk:t.key=t'.key) (ho:t.owner=t'.owner):t=t':=by
 have hp:=asc_pairs thingLt_tr (netOk_all h).2.2.2.2
 obtain ⟨i,hi,e1⟩:=List.mem_iff_getElem.1 ht
 obtain ⟨j,hj,e2⟩:=List.mem_iff_getElem.1 ht'
 have hp:=List.pairwise_iff_getElem.1 hp
 rcases Nat.lt_trichotomy i j with hij | hij | hij
 ·have:=hp i j hi hj hij
  rw [e1,e2] at this
  simp only [thingLt,decide_eq_true_eq] at this
  omega
 ·subst hij;rw [← e1,← e2]
 ·have:=hp j i hj hi hij
  rw [e1,e2] at this
  simp only [thingLt,decide_eq_true_eq] at this
  omega
theorem ideal_thing (h:netOk x=true) {t:Thing} (ht:t∈x.things) (hu:gt U (t.owner - 1)=true):rThing t∈ideal x L U:=by
 unfold ideal
 refine rounds_keep (by show (3:Int)≠2;decide) ?_
 refine foldl_get (P:=fun c=>rThing t∈c) ht (fun c=>?_) fun t' ht' c hc=>?_
 ·unfold thing1
  rw [if_pos hu];exact putR_self _ _
 ·unfold thing1
  split
  ·by_cases he:t'.key=t.key∧t'.owner=t.owner
   ·rw [things_one h ht' ht he.1 he.2];exact putR_self _ _
   ·exact putR_keep hc (noKey_of fun e=>he ⟨e.2.2.2.symm,e.2.2.1.symm⟩)
  ·exact hc
theorem ideal_nodeP (h:netOk x=true) {ar v:Int} (h0:0≤nodeP (ideal x L U) ar v):gt (ideal x L U) (nodeP (ideal x L U) ar v)=rNode x.links L U v ar∧gt U (v - 1)=true∧(1≤v∧v≤x.n)∧ar∈areasOf x.links v:=by
 have hlt:=nodeP_lt (ideal x L U) ar v
 have hm:=gt_mem (l:=ideal x L U) h0 hlt
 obtain ⟨p1,p2,p3,p4,p5,p6⟩:=ideal_rec h _ hm
 have hs:=findP_spec (fun r:Rcd=>sameKey r ⟨ar,1,v,0,0,[],0,false⟩) (ideal x L U) h0
 have hs:=sameKey_iff.1 hs
 unfold nodeP at *
 simp only at hs
 obtain ⟨s1,s2,s3,s4⟩:=hs
 obtain ⟨p4,p7⟩:=p4 s2
 rw [s3,s1] at p4 p7
 rw [s3] at p1 p3
 exact ⟨p4,p1,p3,p7⟩
end
end Go.Proofs.YtlofiplkmgmnfaaC

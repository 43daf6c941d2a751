/- A drawn node's own is renewed as is wanted. Conditions: none. -/
import Derived.Test.YtjimmglpkndemaaGreatXSGa
namespace Go.Proofs.YtjimmglpkndemaaGreatC
set_option linter.unusedVariables false
set_option linter.unusedSimpArgs false
theorem atl_ {f:Rcd→Rcd} {x:Rcd}:∀ {l s:List Rcd},x∈zq_ f s l→x∈s∨∃ y∈l,x=f y
 | [],s,h=>.inl h
 | a :: l,s,h=>by
  rcases atl_ (l:=l) h with h | ⟨y,hy,e⟩
  ·rcases wA_ h with h | h
   ·exact .inr ⟨a,.head _,h⟩
   ·exact .inl h
  ·exact .inr ⟨y,.tail _ hy,e⟩
theorem aJd_ {x:Self} {S:List Rcd} {w:Rcd} (h:w∈y8_ x S):w∈ownL x∨w∈beyL x S∨w∈thL x:=by
 rcases atl_ h with h | ⟨y,hy,e⟩
 ·cases h
 ·rw [e]
  rcases List.mem_append.1 hy with hy | hy
  ·rcases List.mem_append.1 hy with hy | hy
   ·exact .inl hy
   ·exact .inr (.inl hy)
  ·exact .inr (.inr hy)
theorem q5_ (x:Self) (S:List Rcd):zG_ (y8_ x S):=wo_ .nil
theorem aq5_ {x:Self} {S:List Rcd} {w:Rcd} (h:w∈y8_ x S):w.owner=x.id∧(w.kind=3→w∈thL x):=by
 rcases aJd_ h with h | h | h
 ·have:=jW_ h
  exact ⟨this.2.2.1,fun hk=>by omega⟩
 ·unfold beyL at h
  split at h
  ·obtain ⟨a,_,h⟩:=List.mem_flatMap.1 h
   have:=u3_ h
   exact ⟨this.2.2.1,fun hk=>by omega⟩
  ·cases h
 ·refine ⟨?_,fun _=>h⟩
  obtain ⟨t,_,rfl⟩:=List.mem_map.1 h
  rfl
section
variable {x:Self} (h:xu_ x=true) (hb:x.boot≤1) (hq:∀ r∈x.store,r.seq≤5) (h3:(x.store.filter wz_).length≤13) (ht:x.net.things.length≤2)
def newS (x:Self):List Rcd:=y7_ x (y8_ x (byR x.store x.id (ownL x)))
def newY (x:Self):List Rcd:=zq_ same x.store (newS x)
theorem ag6_ (h:xu_ x=true) {r:Rcd} (hr:r∈newS x):r.owner=x.id:=by
 have hso:=yD_ (yU_ h).2.2.2.2.2
 rcases (uw_ (q5_ _ _) hso).1 hr with ⟨w,hw,_,e⟩ | ⟨o,_,hg,e⟩
 ·rw [e];exact (aq5_ hw).1
 ·unfold qi_ at hg
  simp only [bA_,beq_iff_eq] at hg
  rw [e,← hg.1]
  exact (sameKey_iff.1 (uP_ x o)).2.2.1
include h hb hq in
theorem at3_ {r:Rcd} (hr:r∈newS x):r.seq≤1001∧1000 * x.boot < r.seq∧xV_ x.store r < r.seq:=by
 obtain ⟨hN,hid,hbt,hev,hpr,hst⟩:=yU_ h
 have hso:=yD_ hst
 have ho:∀ q:Rcd,0≤xV_ x.store q∧xV_ x.store q≤5:=by
  intro q
  refine ⟨(kk_ hst q).1,?_⟩
  unfold xV_
  split
  ·omega
  ·exact hq _ (ac2_ (s:=x.store) (r:=q) (by omega)).1
 have hs:∀ q:Rcd,wr_ x q≤1001∧1000 * x.boot < wr_ x q∧xV_ x.store q < wr_ x q:=by
  intro q
  have:=ho q
  unfold wr_
  split <;> omega
 have hk:∀ {a b:Rcd},zb_ a b=true→xV_ x.store a=xV_ x.store b:=by
  intro a b hab
  have e:keyP x.store a=keyP x.store b:=by
   unfold keyP
   congr 1
   funext y
   rw [Bool.eq_iff_iff]
   exact ⟨fun hh=>yA_ hh hab,fun hh=>yA_ hh (xs_ hab)⟩
  unfold xV_
  rw [e]
 rcases (uw_ (q5_ _ _) hso).1 hr with ⟨w,hw,_,e⟩ | ⟨o,_,hg,e⟩
 ·rw [hk (e ▸ vv_ x w:zb_ r w=true),e]
  exact hs w
 ·rw [hk (e ▸ uP_ x o:zb_ r o=true),e]
  exact hs o
include h hb hq in
theorem aBl_:((newS x).all fun r=>decide (r.seq≤100000))=true:=by
 rw [List.all_eq_true]
 intro r hr
 have:=at3_ h hb hq hr
 rw [decide_eq_true_eq];omega
include h hb hq in
theorem aJ9_ {r:Rcd} (hr:r∈newY x):zE_ r=true:=by
 have hst:=(yU_ h).2.2.2.2.2
 rcases (jN_ (us_ _ _)).1 hr with hr | ⟨hr,_⟩
 ·exact aLi_ h _ (aBl_ h hb hq) r hr
 ·exact xI_ hst hr
include h h3 ht in
theorem aFa_:((newY x).filter wz_).length≤15:=by
 have hst:=(yU_ h).2.2.2.2.2
 have hso:=yD_ hst
 have f1:Fit 13 (x.store.filter wz_):=⟨hso.filter _,fun r hr=>j4_ hst r (List.mem_filter.1 hr).1,h3⟩
 have hl:=aA4_ x
 have f2:=Fit.puts (f:=same) (l:=thL x) (fun r hr=>by obtain ⟨t,_,rfl⟩:=List.mem_map.1 hr;simp [same,xt_]) f1
 refine Nat.le_trans (vZ_ ((wo_ hso).filter wz_) f2.so fun r hr=>?_) (Nat.le_trans f2.len (by omega))
 obtain ⟨hr,hk⟩:=List.mem_filter.1 hr
 have hk':r.kind=3:=by simpa [wz_] using hk
 rcases (jN_ (us_ _ _)).1 hr with hr | ⟨hr,_⟩
 ·rcases (uw_ (q5_ _ _) hso).1 hr with ⟨w,hw,_,e⟩ | ⟨o,ho,_,e⟩
  ·exact HasKey.puts_new (z:=w) (e ▸ vv_ x w) ((aq5_ hw).2 (by rw [e] at hk';exact hk'))
  ·have hek:=uP_ x o
   refine HasKey.puts ⟨o,List.mem_filter.2 ⟨ho,?_⟩,e ▸ hek⟩
   have:=(sameKey_iff.1 hek).2.1
   rw [e] at hk'
   simp [wz_,← this,hk']
 ·exact HasKey.puts ⟨r,List.mem_filter.2 ⟨hr,hk⟩,wc_ r⟩
include h hb hq h3 ht in
theorem af1_:Sto 15 (newY x):=⟨wo_ (yD_ (yU_ h).2.2.2.2.2),fun r hr=>aJ9_ h hb hq hr,aFa_ h h3 ht⟩
include h hb hq h3 ht in
theorem axk_:vf_ x=({ x with store:=newY x },newS x):=by
 unfold vf_
 rw [if_pos h]
 unfold v3_
 have:=(af1_ h hb hq h3 ht).len
 exact if_pos ⟨aBl_ h hb hq,by show (newY x).length≤150;omega⟩
theorem byR_mem {s:List Rcd} {r:Rcd}:r∈byR s x.id (ownL x)↔(∃ o∈ownL x,r=seq1 o)∨(r∈s.filter (ui_ x.id)∧∀ o∈ownL x,zb_ r (seq1 o)=false) :=
 vq_ (f:=seq1) (s:=s.filter (ui_ x.id)) (k7_ x ate_)
theorem aFl_ {s:List Rcd} (h:xu_ x=true) (hs:Sto 15 s):ze_ (byR s x.id (ownL x))=true:=by
 have hsort:zG_ (byR s x.id (ownL x)):=wo_ (hs.1.filter _)
 have hr:∀ r∈byR s x.id (ownL x),zE_ r=true:=by
  intro r hr
  rcases byR_mem.1 hr with ⟨o,ho,e⟩ | ⟨h1,_⟩
  ·rw [e,← (jW_ ho).1];exact aig_ h ho
  ·exact hs.2.1 r (List.mem_filter.1 h1).1
 have h3:((byR s x.id (ownL x)).filter wz_).length≤15:=by
  refine Nat.le_trans (vZ_ (hsort.filter wz_) (hs.1.filter wz_) fun r hr=>?_) hs.2.2
  obtain ⟨hr,hk⟩:=List.mem_filter.1 hr
  rcases byR_mem.1 hr with ⟨o,ho,e⟩ | ⟨h1,_⟩
  ·have h4:=(jW_ ho).2.1
   rw [e] at hk
   simp [wz_,seq1,h4] at hk
  ·exact ⟨r,List.mem_filter.2 ⟨(List.mem_filter.1 h1).1,hk⟩,wc_ r⟩
 exact Sto.ok (k:=15) ⟨hsort,hr,h3⟩ (by decide)
include h hb hq h3 ht in
theorem ans_:y8_ { x with store:=newY x } (byR (newY x) x.id (ownL x))=y8_ x (byR x.store x.id (ownL x)):=by
 have hst:=(yU_ h).2.2.2.2.2
 have hso:=yD_ hst
 have s1:Sto 15 x.store:=⟨hso,fun r hr=>xI_ hst hr,by omega⟩
 have s2:=af1_ h hb hq h3 ht
 have e:beyL { x with store:=newY x } (byR (newY x) x.id (ownL x))=beyL x (byR x.store x.id (ownL x)):=by
  show (if v1_ x.net.links x.id=true then (zP_ x.net.links x.id).flatMap fun a=>beyondR (byR (newY x) x.id (ownL x)) (zP_ x.net.links x.id) x.id a else [])=beyL x _
  unfold beyL
  rw [jl_ fun a ha=>aI2_ (s:=byR (newY x) x.id (ownL x)) (s':=byR x.store x.id (ownL x)) (fr:=x.id) (wo_ (s2.1.filter _)) (wo_ (hso.filter _)) ((aFl_ h s2).trans (aFl_ h s1).symm) (fun r hk=>?_) (zP_ x.net.links x.id) a]
  rw [byR_mem,byR_mem]
  have key:ui_ x.id r=true→(r∈newY x↔r∈x.store):=by
   intro hn
   have ho:r.owner≠x.id:=by
    unfold ui_ at hn
    rcases hk with hk | hk
    ·simpa [hk] using hn
    ·exact hk
   constructor
   ·intro hr
    rcases (jN_ (us_ _ _)).1 hr with hr | hr
    ·exact absurd (ag6_ h hr) ho
    ·exact hr.1
   ·intro hr
    refine (jN_ (us_ _ _)).2 (.inr ⟨hr,fun o ho'=>afd_ fun hc=>ho ?_⟩)
    rw [(sameKey_iff.1 hc).2.2.1]
    exact ag6_ h ho'
  simp only [List.mem_filter]
  constructor
  ·rintro (h1 | ⟨⟨h1,h2⟩,h4⟩)
   ·exact .inl h1
   ·exact .inr ⟨⟨(key h2).1 h1,h2⟩,h4⟩
  ·rintro (h1 | ⟨⟨h1,h2⟩,h4⟩)
   ·exact .inl h1
   ·exact .inr ⟨⟨(key h2).2 h1,h2⟩,h4⟩
 show zq_ same [] (ownL x++beyL { x with store:=newY x } (byR (newY x) x.id (ownL x))++thL x)=_
 rw [e]
 rfl
include h hb hq h3 ht in
theorem azn_:vf_ { x with store:=newY x }=({ x with store:=newY x },[]):=by
 have hso:=yD_ (yU_ h).2.2.2.2.2
 have s2:=af1_ h hb hq h3 ht
 unfold vf_
 rw [if_pos (alg_ h (s2.ok (by decide)))]
 show v3_ { x with store:=newY x } (y8_ { x with store:=newY x } (byR (newY x) x.id (ownL x)))=_
 rw [ans_ h hb hq h3 ht]
 have e:y7_ { x with store:=newY x } (y8_ x (byR x.store x.id (ownL x)))=[]:=ax8_ (q5_ _ _) hso
 unfold v3_
 rw [e]
 have:=s2.len
 rw [if_pos ⟨rfl,by show (newY x).length≤150;omega⟩]
 rfl
end
end Go.Proofs.YtjimmglpkndemaaGreatC

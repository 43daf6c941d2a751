/- What a node renews: what it is; that both stores in which ways are looked for lead to the same. Conditions: none. -/
import Derived.Test.YtjimmglpkndemaaGreatXSY
namespace Go.Proofs.YtjimmglpkndemaaGreatC
set_option linter.unusedVariables false
set_option linter.unusedSimpArgs false
theorem xs_ {a b:Rcd} (h:zb_ a b=true):zb_ b a=true:=by rw [sameKey_iff] at *;omega
theorem yA_ {a b c:Rcd} (h:zb_ a b=true) (h':zb_ b c=true):zb_ a c=true:=by rw [sameKey_iff] at *;omega
theorem wc_ (a:Rcd):zb_ a a=true:=by rw [sameKey_iff];omega
theorem mem_putR_iff {s:List Rcd} {r x:Rcd}:x∈putR s r↔x=r∨(x∈s∧zb_ x r=false):=by
 unfold putR
 simp only [List.mem_append,List.mem_filter,List.mem_singleton]
 constructor
 ·rintro (⟨h,q⟩ | h | ⟨h,q⟩)
  ·exact .inr ⟨h,un_ q⟩
  ·exact .inl h
  ·refine .inr ⟨h,?_⟩
   cases hc:zb_ x r with
   | false=>rfl
   | true=>have:=xs_ hc;rw [un_ q] at this;cases this
 ·rintro (h | ⟨h,q⟩)
  ·exact .inr (.inl h)
  ·cases hl:zx_ x r with
   | true=>exact .inl ⟨h,rfl⟩
   | false=>exact .inr (.inr ⟨h,aq1_ hl q⟩)
def HasKey (s:List Rcd) (r:Rcd):Prop:=∃ x∈s,zb_ r x=true
theorem HasKey.put {s:List Rcd} {y:Rcd} (h:HasKey s y) (r:Rcd):HasKey (putR s r) y:=by
 obtain ⟨x,hx,hk⟩:=h
 cases hc:zb_ x r with
 | true=>exact ⟨r,mem_putR_iff.2 (.inl rfl),yA_ hk hc⟩
 | false=>exact ⟨x,mem_putR_iff.2 (.inr ⟨hx,hc⟩),hk⟩
theorem HasKey.new {s:List Rcd} {y r:Rcd} (h:zb_ y r=true):HasKey (putR s r) y:=⟨r,mem_putR_iff.2 (.inl rfl),h⟩
theorem HasKey.puts {f:Rcd→Rcd} {y:Rcd}:∀ {l s:List Rcd},HasKey s y→HasKey (zq_ f s l) y
 | [],_,h=>h
 | x :: l,s,h=>HasKey.puts (l:=l) (h.put (f x))
theorem HasKey.puts_new {f:Rcd→Rcd} {y z:Rcd} (hz:zb_ y (f z)=true):∀ {l s:List Rcd},z∈l→HasKey (zq_ f s l) y
 | x :: l,s,h=>by
  rcases List.mem_cons.1 h with rfl | h
  ·exact HasKey.puts (l:=l) (HasKey.new hz)
  ·exact HasKey.puts_new hz (l:=l) h
theorem vZ_:∀ {s t:List Rcd},zG_ s→zG_ t→(∀ r∈s,HasKey t r)→s.length≤t.length
 | [],t,_,_,_=>by simp
 | x :: s,t,hs,ht,h=>by
  have ps:=List.pairwise_cons.1 hs
  obtain ⟨y,hy,hk⟩:=h x (.head _)
  obtain ⟨t1,t2,rfl⟩:=List.append_of_mem hy
  have pt:=List.pairwise_append.1 ht
  have pt2:=List.pairwise_cons.1 pt.2.1
  have ih:=vZ_ (s:=s) (t:=t2) ps.2 pt2.2 fun r hr=>by
   obtain ⟨z,hz,hkz⟩:=h r (.tail _ hr)
   have hlt:zx_ y z=true:=by
    have h1:=ps.1 r hr
    rw [yp_] at *
    rw [sameKey_iff] at hk hkz
    omega
   rcases List.mem_append.1 hz with hz | hz
   ·have h2:=pt.2.2 z hz y (.head _)
    rw [k1_ hlt] at h2;cases h2
   ·rcases List.mem_cons.1 hz with e | hz
    ·subst e
     rw [adg_] at hlt;cases hlt
    ·exact ⟨z,hz,hkz⟩
  simp only [List.length_append,List.length_cons]
  omega
theorem vq_ {f:Rcd→Rcd} {r:Rcd}:∀ {l s:List Rcd},l.Pairwise (fun a b=>zb_ (f a) (f b)=false)→(r∈zq_ f s l↔(∃ o∈l,r=f o)∨(r∈s∧∀ o∈l,zb_ r (f o)=false))
 | [],s,_=>by simp [zq_]
 | x :: l,s,h=>by
  have hp:=List.pairwise_cons.1 h
  rw [show zq_ f s (x :: l)=zq_ f (putR s (f x)) l from rfl,vq_ hp.2,mem_putR_iff]
  constructor
  ·rintro (⟨o,ho,e⟩ | ⟨e | ⟨h1,h2⟩,h3⟩)
   ·exact .inl ⟨o,.tail _ ho,e⟩
   ·exact .inl ⟨x,.head _,e⟩
   ·refine .inr ⟨h1,fun o ho=>?_⟩
    rcases List.mem_cons.1 ho with rfl | ho
    ·exact h2
    ·exact h3 o ho
  ·rintro (⟨o,ho,e⟩ | ⟨h1,h2⟩)
   ·rcases List.mem_cons.1 ho with rfl | ho
    ·exact .inr ⟨.inl e,fun o' ho'=>by rw [e];exact hp.1 o' ho'⟩
    ·exact .inl ⟨o,ho,e⟩
   ·exact .inr ⟨.inr ⟨h1,h2 x (.head _)⟩,fun o ho=>h2 o (.tail _ ho)⟩
def xV_ (s:List Rcd) (r:Rcd):Int:=if keyP s r < 0 then 0 else (gt s (keyP s r)).seq
def wr_ (x:Self) (r:Rcd):Int:=if 1000 * x.boot+1 > xV_ x.store r+1 then 1000 * x.boot+1 else xV_ x.store r+1
def newB (s:List Rcd) (r:Rcd):Bool:=decide (keyP s r < 0) || !xD_ (gt s (keyP s r)) r
def jE_ (x:Self) (r:Rcd):Rcd:={ r with seq:=wr_ x r }
def xQ_ (x:Self) (c:List Rcd) (r:Rcd):List Rcd:=if newB x.store r=true then putR c (jE_ x r) else c
def zF_ (r:Rcd):Rcd:=if r.kind=1 then { r with near:=[] } else { r with near:=[],cost:=60000 }
def qi_ (x:Self) (W:List Rcd) (r:Rcd):Bool:=(r.owner == x.id) && (decide (keyP W r < 0) && !xD_ (zF_ r) r)
def k8_ (x:Self) (r:Rcd):Rcd:={ zF_ r with seq:=wr_ x r }
def wy_ (x:Self) (W:List Rcd) (c:List Rcd) (r:Rcd):List Rcd:=if qi_ x W r=true then putR c (k8_ x r) else c
def y7_ (x:Self) (W:List Rcd):List Rcd:=x.store.foldl (wy_ x W) (W.foldl (xQ_ x) [])
def v3_ (x:Self) (W:List Rcd):Self × List Rcd :=
 if (y7_ x W).all (fun r=>decide (r.seq≤100000))=true∧(zq_ same x.store (y7_ x W)).length≤150 then ({ x with store:=zq_ same x.store (y7_ x W) },y7_ x W) else (x,[])
theorem ks_ {α:Type} {y:Rcd} {g:List Rcd→α→List Rcd} (hg:∀ c a,HasKey c y→HasKey (g c a) y):∀ {l:List α} {c:List Rcd},HasKey c y→HasKey (l.foldl g c) y
 | [],_,h=>h
 | a :: l,c,h=>ks_ hg (l:=l) (hg c a h)
theorem aCf_ {x:Self} {y:Rcd} (c:List Rcd) (r:Rcd) (h:HasKey c y):HasKey (xQ_ x c r) y:=by
 unfold xQ_;split
 ·exact h.put _
 ·exact h
theorem aEn_ {x:Self} {W:List Rcd} {y:Rcd} (c:List Rcd) (r:Rcd) (h:HasKey c y):HasKey (wy_ x W c r) y:=by
 unfold wy_;split
 ·exact h.put _
 ·exact h
theorem aov_ {x:Self} {w:Rcd} (hw:newB x.store w=true):∀ {l c:List Rcd},w∈l→HasKey (l.foldl (xQ_ x) c) w
 | a :: l,c,h=>by
  rcases List.mem_cons.1 h with rfl | h
  ·rw [List.foldl_cons]
   refine ks_ aCf_ ?_
   unfold xQ_
   rw [if_pos hw]
   exact HasKey.new (by rw [sameKey_iff];exact ⟨rfl,rfl,rfl,rfl⟩)
  ·exact aov_ hw (l:=l) h
theorem aKf_ {s:List Rcd} {r:Rcd} (h:¬ keyP s r < 0):HasKey s r:=by
 unfold keyP at h
 have h0:0≤zn_ (fun x=>zb_ x r) s:=by omega
 exact ⟨_,zS_ (l:=s) h0 (y9_ _ _),xs_ (yE_ (fun x=>zb_ x r) s h0)⟩
theorem ao8_ (x:Self) (W:List Rcd) {y:Rcd} (h:HasKey x.store y∨HasKey W y):HasKey (zq_ same x.store (y7_ x W)) y:=by
 rcases h with h | ⟨w,hw,hk⟩
 ·exact h.puts
 ·by_cases hn:newB x.store w=true
  ·obtain ⟨z,hz,hkz⟩:HasKey (y7_ x W) w:=ks_ aEn_ (aov_ hn hw)
   exact HasKey.puts_new (z:=z) (yA_ hk hkz) hz
  ·unfold newB at hn
   simp only [Bool.or_eq_true,decide_eq_true_eq,not_or] at hn
   obtain ⟨z,hz,hkz⟩:=aKf_ hn.1
   exact HasKey.puts ⟨z,hz,yA_ hk hkz⟩
theorem k7_ (x:Self) {f:Rcd→Rcd} (hf:∀ r,zb_ (f r) r=true):(ownL x).Pairwise fun a b=>zb_ (f a) (f b)=false:=by
 unfold ownL
 rw [List.pairwise_map]
 have h:(zP_ x.net.links x.id).Pairwise (· < ·):=three_asc.filter _
 refine h.imp fun {a b} hab=>?_
 cases hc:zb_ (f (ve_ x.net.links x.id x.heard a)) (f (ve_ x.net.links x.id x.heard b)) with
 | false=>rfl
 | true =>
  have:=yA_ (yA_ (xs_ (hf _)) hc) (hf _)
  rw [sameKey_iff] at this
  have e:a=b:=this.1
  omega
theorem jW_ {x:Self} {o:Rcd} (ho:o∈ownL x):seqZ o=seq1 o∧o.kind=1∧o.owner=x.id∧o.key=0∧(zP_ x.net.links x.id).contains o.area=true:=by
 obtain ⟨a,ha,rfl⟩:=List.mem_map.1 ho
 exact ⟨rfl,rfl,rfl,rfl,List.contains_iff_mem.2 ha⟩
theorem aCj_ {x:Self} (h:xu_ x=true) (a:Int):w5_ x.id (abc_ x.net.links x.id x.heard a)=true:=by
 obtain ⟨hN,hid,hbt,hev,hpr,hst⟩:=yU_ h
 obtain ⟨n1,hl,ht,hA,hT⟩:=w0_ hN
 have hk:=fun k hk=>allB_iff.1 hpr k hk
 unfold abc_
 refine aj6_ ?_ ?_
 ·intro y hy
  obtain ⟨k,hk1,rfl⟩:=List.mem_map.1 hy
  obtain ⟨hk2,hk3⟩:=List.mem_filter.1 hk1
  rw [List.mem_range] at hk2
  rw [decide_eq_true_eq] at hk3
  have h1:=hk k hk2
  simp only [bA_,decide_eq_true_eq] at h1
  rw [hk3] at h1
  have h2:=yE_ _ _ h1.1
  have hm:=zS_ (l:=x.net.links) (n:=zn_ (zt_ x.id (gt x.heard (2 * (k:Int))) a) x.net.links) h1.1 (y9_ _ _)
  have h3:=vy_ hA hm
  have h4:yM_ x.net.links x.id (gt x.heard (2 * (k:Int))) a=(gt x.net.links (zn_ (zt_ x.id (gt x.heard (2 * (k:Int))) a) x.net.links)).cost:=by unfold yM_;rw [if_neg (by omega)]
  rw [joins_iff] at h2
  simp only
  rw [h4]
  omega
 ·rw [List.pairwise_map]
  have hstep:∀ k,k+1 < x.heard.length / 2→gt x.heard (2 * (k:Int)) * 4+gt x.heard (2 * (k:Int)+1) < gt x.heard (2 * ((k+1:Nat):Int)) * 4+gt x.heard (2 * ((k+1:Nat):Int)+1):=by
   intro k hk'
   have h1:=hk (k+1) hk'
   have h0:=hk k (by omega)
   simp only [bA_,Bool.or_eq_true,decide_eq_true_eq,Bool.not_eq_true',decide_eq_false_iff_not] at h1 h0
   have b1:=vy_ hA (zS_ (l:=x.net.links) h1.1 (y9_ _ _))
   have c1:=joins_iff.1 (yE_ _ _ h1.1)
   have b0:=vy_ hA (zS_ (l:=x.net.links) h0.1 (y9_ _ _))
   have c0:=joins_iff.1 (yE_ _ _ h0.1)
   have h2:=h1.2.resolve_left (by omega)
   rw [show (2:Int) * ((k+1:Nat):Int) - 2=2 * (k:Int) by omega,show (2:Int) * ((k+1:Nat):Int) - 1=2 * (k:Int)+1 by omega] at h2
   omega
  have hmono:∀ d k,k+1+d < x.heard.length / 2→gt x.heard (2 * (k:Int)) * 4+gt x.heard (2 * (k:Int)+1) < gt x.heard (2 * ((k+1+d:Nat):Int)) * 4+gt x.heard (2 * ((k+1+d:Nat):Int)+1):=by
   intro d
   induction d with
   | zero=>intro k hk';exact hstep k hk'
   | succ d ih=>intro k hk';exact Int.lt_trans (ih k (by omega)) (hstep (k+1+d) hk')
  refine (List.pairwise_lt_range.filter _).imp_of_mem fun {i j} hi hj hij=>?_
  obtain ⟨hi1,hi2⟩:=List.mem_filter.1 hi
  obtain ⟨hj1,hj2⟩:=List.mem_filter.1 hj
  rw [List.mem_range] at hi1 hj1
  rw [decide_eq_true_eq] at hi2 hj2
  have:=hmono (j - i - 1) i (by omega)
  rw [show i+1+(j - i - 1)=j by omega,hi2,hj2] at this
  show gt x.heard (2 * (i:Int)) < gt x.heard (2 * (j:Int))
  omega
theorem aig_ {x:Self} (h:xu_ x=true) {o:Rcd} (ho:o∈ownL x):zE_ (seqZ o)=true:=by
 have hid:=(yU_ h).2.1
 have hN:=(w0_ (yU_ h).1).1
 obtain ⟨a,ha,rfl⟩:=List.mem_map.1 ho
 have h2:=je_ ha
 have h3:=aCj_ h a
 unfold zE_
 simp only [ve_,seqZ,if_true,bA_,inB_iff]
 refine ⟨⟨by omega,by omega⟩,?_⟩
 simp [inB_iff,h2,h3]
theorem acz_ (r:Rcd):zb_ (seqZ r) r=true:=by
 rw [sameKey_iff]
 unfold seqZ
 split <;> exact ⟨rfl,rfl,rfl,rfl⟩
theorem ate_ (r:Rcd):zb_ (seq1 r) r=true:=by rw [sameKey_iff];exact ⟨rfl,rfl,rfl,rfl⟩
theorem aC1_ {x:Self} (h:xu_ x=true):Cut (zP_ x.net.links x.id) (qd_ x) (byR x.store x.id (ownL x)):=by
 have hst:=(yU_ h).2.2.2.2.2
 have hso:=yD_ hst
 have p1:zG_ (qd_ x):=by
  unfold qd_ zq_
  have:∀ (l s:List Rcd),zG_ s→zG_ (l.foldl (fun c r=>putR c (seqZ r)) s):=by
   intro l;induction l with
   | nil=>intro s h;exact h
   | cons a l ih=>intro s h;exact ih _ (vt_ h _)
  exact this _ _ hso
 have p2:zG_ (byR x.store x.id (ownL x)):=by
  unfold byR zq_
  have:∀ (l s:List Rcd),zG_ s→zG_ (l.foldl (fun c r=>putR c (seq1 r)) s):=by
   intro l;induction l with
   | nil=>intro s h;exact h
   | cons a l ih=>intro s h;exact ih _ (vt_ h _)
  exact this _ _ (hso.filter _)
 have m1:=fun r=>vq_ (f:=seqZ) (r:=r) (s:=x.store) (k7_ x acz_)
 have m2:=fun r=>vq_ (f:=seq1) (r:=r) (s:=x.store.filter (ui_ x.id)) (k7_ x ate_)
 refine ⟨p1,fun r hr=>?_,p2,fun r hr hn=>?_⟩
 ·rcases (m2 r).1 hr with ⟨o,ho,e⟩ | ⟨h1,h2⟩
  ·exact (m1 r).2 (.inl ⟨o,ho,by rw [e,(jW_ ho).1]⟩)
  ·exact (m1 r).2 (.inr ⟨(List.mem_filter.1 h1).1,fun o ho=>by rw [(jW_ ho).1];exact h2 o ho⟩)
 ·rcases (m1 r).1 hr with ⟨o,ho,e⟩ | ⟨h1,h2⟩
  ·exact absurd ((m2 r).2 (.inl ⟨o,ho,by rw [e,(jW_ ho).1]⟩)) hn
  ·have hm:¬ ui_ x.id r=true:=fun hm=>hn ((m2 r).2 (.inr ⟨List.mem_filter.2 ⟨h1,hm⟩,fun o ho=>by rw [← (jW_ ho).1];exact h2 o ho⟩))
   have hm:r.kind=1∧r.owner=x.id:=by
    unfold ui_ at hm
    simpa using hm
   refine ⟨hm.1,?_⟩
   cases hc:(zP_ x.net.links x.id).contains r.area with
   | false=>rfl
   | true =>
    have ha:=List.contains_iff_mem.1 hc
    have h3:=h2 (ve_ x.net.links x.id x.heard r.area) (List.mem_map.2 ⟨_,ha,rfl⟩)
    have hk:=alt_ (xI_ hst h1)
    have:zb_ r (seqZ (ve_ x.net.links x.id x.heard r.area))=true:=by
     refine yA_ ?_ (xs_ (acz_ _))
     rw [sameKey_iff]
     exact ⟨rfl,hm.1,hm.2,by show r.key=0;omega⟩
    rw [this] at h3;cases h3
theorem auw_ {x:Self} {S:List Rcd} {o:Rcd} (ho:o∈ownL x):HasKey (y8_ x S) o :=
 HasKey.puts_new (z:=o) (wc_ o) (List.mem_append.2 (.inl (List.mem_append.2 (.inl ho))))
theorem aFb_ {x:Self} (h:xu_ x=true):v3_ x (y8_ x (qd_ x))=v3_ x (y8_ x (byR x.store x.id (ownL x))):=by
 have hc:=aC1_ h
 have hst:=(yU_ h).2.2.2.2.2
 have hso:=yD_ hst
 by_cases hlen:(qd_ x).length≤150
 ·have hr:∀ r∈qd_ x,zE_ r=true:=by
   intro r hr
   rcases (vq_ (f:=seqZ) (r:=r) (s:=x.store) (k7_ x acz_)).1 hr with ⟨o,ho,e⟩ | ⟨h1,_⟩
   ·rw [e];exact aig_ h ho
   ·exact xI_ hst h1
  have h1:ze_ (qd_ x)=true:=by unfold ze_;rw [bA_,decide_eq_true_eq];exact ⟨hlen,ajb_ hr hc.so⟩
  have h2:ze_ (byR x.store x.id (ownL x))=true:=by
   unfold ze_;rw [bA_,decide_eq_true_eq]
   exact ⟨Nat.le_trans (vZ_ hc.so' hc.so fun r hr=>⟨r,hc.sub r hr,wc_ r⟩) hlen,ajb_ (fun r hr'=>hr r (hc.sub r hr')) hc.so'⟩
  have e:beyL x (qd_ x)=beyL x (byR x.store x.id (ownL x)):=by
   unfold beyL
   rw [jl_ fun a ha=>hc.beyondR (h1.trans h2.symm) (List.contains_iff_mem.2 ha) x.id]
  unfold y8_
  rw [e]
 ·have big:∀ S,v3_ x (y8_ x S)=(x,[]):=by
   intro S
   unfold v3_
   rw [if_neg]
   rintro ⟨_,h2⟩
   have hsT:zG_ (zq_ same x.store (y7_ x (y8_ x S))):=by
    unfold zq_
    have:∀ (l s:List Rcd),zG_ s→zG_ (l.foldl (fun c r=>putR c (same r)) s):=by
     intro l;induction l with
     | nil=>intro s h;exact h
     | cons a l ih=>intro s h;exact ih _ (vt_ h _)
    exact this _ _ hso
   have:=vZ_ hc.so hsT fun r hr=>by
    rcases (vq_ (f:=seqZ) (r:=r) (s:=x.store) (k7_ x acz_)).1 hr with ⟨o,ho,e⟩ | ⟨h1,_⟩
    ·obtain ⟨z,hz,hk⟩:=ao8_ x (y8_ x S) (y:=o) (.inr (auw_ ho))
     exact ⟨z,hz,by rw [e];exact yA_ (acz_ o) hk⟩
    ·exact ao8_ x (y8_ x S) (.inl ⟨r,h1,wc_ r⟩)
   omega
  rw [big,big]
end Go.Proofs.YtjimmglpkndemaaGreatC

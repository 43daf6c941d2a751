/- What a node renews: what it is; that both stores in which ways are looked for lead to the same. Conditions: none. -/
import Derived.Test.YtiebbbmibbkpcaaGreatXSY
namespace Go.Proofs.YtiebbbmibbkpcaaGreatC
set_option linter.unusedVariables false
set_option linter.unusedSimpArgs false
theorem qe_ {a b:Rcd} (h:zn_ a b=true):zn_ b a=true:=by rw [y6_] at *;omega
theorem wT_ {a b c:Rcd} (h:zn_ a b=true) (h':zn_ b c=true):zn_ a c=true:=by rw [y6_] at *;omega
theorem j7_ (a:Rcd):zn_ a a=true:=by rw [y6_];omega
theorem mem_putR_iff {s:List Rcd} {r x:Rcd}:x∈putR s r↔x=r∨(x∈s∧zn_ x r=false):=by
 unfold putR
 simp only [List.mem_append,List.mem_filter,List.mem_singleton]
 constructor
 ·rintro (⟨h,q⟩ | h | ⟨h,q⟩)
  ·exact .inr ⟨h,qW_ q⟩
  ·exact .inl h
  ·refine .inr ⟨h,?_⟩
   cases hc:zn_ x r with
   | false=>rfl
   | true=>have:=qe_ hc;rw [qW_ q] at this;cases this
 ·rintro (h | ⟨h,q⟩)
  ·exact .inr (.inl h)
  ·cases hl:zA_ x r with
   | true=>exact .inl ⟨h,rfl⟩
   | false=>exact .inr (.inr ⟨h,asp_ hl q⟩)
def HasKey (s:List Rcd) (r:Rcd):Prop:=∃ x∈s,zn_ r x=true
theorem HasKey.put {s:List Rcd} {y:Rcd} (h:HasKey s y) (r:Rcd):HasKey (putR s r) y:=by
 obtain ⟨x,hx,hk⟩:=h
 cases hc:zn_ x r with
 | true=>exact ⟨r,mem_putR_iff.2 (.inl rfl),wT_ hk hc⟩
 | false=>exact ⟨x,mem_putR_iff.2 (.inr ⟨hx,hc⟩),hk⟩
theorem HasKey.new {s:List Rcd} {y r:Rcd} (h:zn_ y r=true):HasKey (putR s r) y:=⟨r,mem_putR_iff.2 (.inl rfl),h⟩
theorem HasKey.puts {f:Rcd→Rcd} {y:Rcd}:∀ {l s:List Rcd},HasKey s y→HasKey (zB_ f s l) y
 | [],_,h=>h
 | x :: l,s,h=>HasKey.puts (l:=l) (h.put (f x))
theorem HasKey.puts_new {f:Rcd→Rcd} {y z:Rcd} (hz:zn_ y (f z)=true):∀ {l s:List Rcd},z∈l→HasKey (zB_ f s l) y
 | x :: l,s,h=>by
  rcases List.mem_cons.1 h with rfl | h
  ·exact HasKey.puts (l:=l) (HasKey.new hz)
  ·exact HasKey.puts_new hz (l:=l) h
theorem kn_:∀ {s t:List Rcd},yQ_ s→yQ_ t→(∀ r∈s,HasKey t r)→s.length≤t.length
 | [],t,_,_,_=>by simp
 | x :: s,t,hs,ht,h=>by
  have ps:=List.pairwise_cons.1 hs
  obtain ⟨y,hy,hk⟩:=h x (.head _)
  obtain ⟨t1,t2,rfl⟩:=List.append_of_mem hy
  have pt:=List.pairwise_append.1 ht
  have pt2:=List.pairwise_cons.1 pt.2.1
  have ih:=kn_ (s:=s) (t:=t2) ps.2 pt2.2 fun r hr=>by
   obtain ⟨z,hz,hkz⟩:=h r (.tail _ hr)
   have hlt:zA_ y z=true:=by
    have h1:=ps.1 r hr
    rw [yY_] at *
    rw [y6_] at hk hkz
    omega
   rcases List.mem_append.1 hz with hz | hz
   ·have h2:=pt.2.2 z hz y (.head _)
    rw [aan_ hlt] at h2;cases h2
   ·rcases List.mem_cons.1 hz with e | hz
    ·subst e
     rw [ad2_] at hlt;cases hlt
    ·exact ⟨z,hz,hkz⟩
  simp only [List.length_append,List.length_cons]
  omega
theorem kb_ {f:Rcd→Rcd} {r:Rcd}:∀ {l s:List Rcd},l.Pairwise (fun a b=>zn_ (f a) (f b)=false)→(r∈zB_ f s l↔(∃ o∈l,r=f o)∨(r∈s∧∀ o∈l,zn_ r (f o)=false))
 | [],s,_=>by simp [zB_]
 | x :: l,s,h=>by
  have hp:=List.pairwise_cons.1 h
  rw [show zB_ f s (x :: l)=zB_ f (putR s (f x)) l from rfl,kb_ hp.2,mem_putR_iff]
  constructor
  ·rintro (⟨o,ho,e⟩ | ⟨e | ⟨h1,h2⟩,h3⟩)
   ·exact .inl ⟨o,.tail _ ho,e⟩
   ·exact .inl ⟨x,.head _,e⟩
   ·refine .inr ⟨h1,fun o ho=>?_⟩
    rcases List.mem_cons.1 ho with rfl | ho
    ·exact h2
    ·exact h3 o ho
  ·rintro (⟨o,ho,e⟩ | ⟨h1,h2⟩)
   ·rcases List.mem_cons.1 ho with rfl | ho
    ·exact .inr ⟨.inl e,fun o' ho'=>by rw [e];exact hp.1 o' ho'⟩
    ·exact .inl ⟨o,ho,e⟩
   ·exact .inr ⟨.inr ⟨h1,h2 x (.head _)⟩,fun o ho=>h2 o (.tail _ ho)⟩
def ul_ (s:List Rcd) (r:Rcd):Int:=if keyP s r < 0 then 0 else (gt s (keyP s r)).seq
def v7_ (x:Self) (r:Rcd):Int:=if 1000 * x.boot+1 > ul_ x.store r+1 then 1000 * x.boot+1 else ul_ x.store r+1
def newB (s:List Rcd) (r:Rcd):Bool:=decide (keyP s r < 0) || !wU_ (gt s (keyP s r)) r
def aPd_ (x:Self) (r:Rcd):Rcd:={ r with seq:=v7_ x r }
def ww_ (x:Self) (c:List Rcd) (r:Rcd):List Rcd:=if newB x.store r=true then putR c (aPd_ x r) else c
def zG_ (r:Rcd):Rcd:=if r.kind=1 then { r with near:=[] } else { r with near:=[],cost:=60000 }
def aFr_ (x:Self) (W:List Rcd) (r:Rcd):Bool:=(r.owner == x.id) && (decide (keyP W r < 0) && !wU_ (zG_ r) r)
def aQ7_ (x:Self) (r:Rcd):Rcd:={ zG_ r with seq:=v7_ x r }
def wx_ (x:Self) (W:List Rcd) (c:List Rcd) (r:Rcd):List Rcd:=if aFr_ x W r=true then putR c (aQ7_ x r) else c
def wl_ (x:Self) (W:List Rcd):List Rcd:=x.store.foldl (wx_ x W) (W.foldl (ww_ x) [])
def um_ (x:Self) (W:List Rcd):Self × List Rcd :=
 if (wl_ x W).all (fun r=>decide (r.seq≤100000))=true∧(zB_ same x.store (wl_ x W)).length≤150 then ({ x with store:=zB_ same x.store (wl_ x W) },wl_ x W) else (x,[])
theorem kP_ {α:Type} {y:Rcd} {g:List Rcd→α→List Rcd} (hg:∀ c a,HasKey c y→HasKey (g c a) y):∀ {l:List α} {c:List Rcd},HasKey c y→HasKey (l.foldl g c) y
 | [],_,h=>h
 | a :: l,c,h=>kP_ hg (l:=l) (hg c a h)
theorem aGl_ {x:Self} {y:Rcd} (c:List Rcd) (r:Rcd) (h:HasKey c y):HasKey (ww_ x c r) y:=by
 unfold ww_;split
 ·exact h.put _
 ·exact h
theorem aGg_ {x:Self} {W:List Rcd} {y:Rcd} (c:List Rcd) (r:Rcd) (h:HasKey c y):HasKey (wx_ x W c r) y:=by
 unfold wx_;split
 ·exact h.put _
 ·exact h
theorem aoa_ {x:Self} {w:Rcd} (hw:newB x.store w=true):∀ {l c:List Rcd},w∈l→HasKey (l.foldl (ww_ x) c) w
 | a :: l,c,h=>by
  rcases List.mem_cons.1 h with rfl | h
  ·rw [List.foldl_cons]
   refine kP_ aGl_ ?_
   unfold ww_
   rw [if_pos hw]
   exact HasKey.new (by rw [y6_];exact ⟨rfl,rfl,rfl,rfl⟩)
  ·exact aoa_ hw (l:=l) h
theorem aLa_ {s:List Rcd} {r:Rcd} (h:¬ keyP s r < 0):HasKey s r:=by
 unfold keyP at h
 have h0:0≤zv_ (fun x=>zn_ x r) s:=by omega
 exact ⟨_,z2_ (l:=s) h0 (wi_ _ _),qe_ (xs_ (fun x=>zn_ x r) s h0)⟩
theorem aps_ (x:Self) (W:List Rcd) {y:Rcd} (h:HasKey x.store y∨HasKey W y):HasKey (zB_ same x.store (wl_ x W)) y:=by
 rcases h with h | ⟨w,hw,hk⟩
 ·exact h.puts
 ·by_cases hn:newB x.store w=true
  ·obtain ⟨z,hz,hkz⟩:HasKey (wl_ x W) w:=kP_ aGg_ (aoa_ hn hw)
   exact HasKey.puts_new (z:=z) (wT_ hk hkz) hz
  ·unfold newB at hn
   simp only [Bool.or_eq_true,decide_eq_true_eq,not_or] at hn
   obtain ⟨z,hz,hkz⟩:=aLa_ hn.1
   exact HasKey.puts ⟨z,hz,wT_ hk hkz⟩
theorem ade_ (x:Self) {f:Rcd→Rcd} (hf:∀ r,zn_ (f r) r=true):(ownL x).Pairwise fun a b=>zn_ (f a) (f b)=false:=by
 unfold ownL
 rw [List.pairwise_map]
 have h:(z3_ x.net.links x.id).Pairwise (· < ·):=three_asc.filter _
 refine h.imp fun {a b} hab=>?_
 cases hc:zn_ (f (wV_ x.net.links x.id x.heard a)) (f (wV_ x.net.links x.id x.heard b)) with
 | false=>rfl
 | true =>
  have:=wT_ (wT_ (qe_ (hf _)) hc) (hf _)
  rw [y6_] at this
  have e:a=b:=this.1
  omega
theorem afw_ {x:Self} {o:Rcd} (ho:o∈ownL x):seqZ o=seq1 o∧o.kind=1∧o.owner=x.id∧o.key=0∧(z3_ x.net.links x.id).contains o.area=true:=by
 obtain ⟨a,ha,rfl⟩:=List.mem_map.1 ho
 exact ⟨rfl,rfl,rfl,rfl,List.contains_iff_mem.2 ha⟩
theorem aD0_ {x:Self} (h:xv_ x=true) (a:Int):vd_ x.id (abn_ x.net.links x.id x.heard a)=true:=by
 obtain ⟨hN,hid,hbt,hev,hpr,hst⟩:=wd_ h
 obtain ⟨n1,hl,ht,hA,hT⟩:=ur_ hN
 have hk:=fun k hk=>allB_iff.1 hpr k hk
 unfold abn_
 refine aJu_ ?_ ?_
 ·intro y hy
  obtain ⟨k,hk1,rfl⟩:=List.mem_map.1 hy
  obtain ⟨hk2,hk3⟩:=List.mem_filter.1 hk1
  rw [List.mem_range] at hk2
  rw [decide_eq_true_eq] at hk3
  have h1:=hk k hk2
  simp only [Bool.and_eq_true,decide_eq_true_eq] at h1
  rw [hk3] at h1
  have h2:=xs_ _ _ h1.1
  have hm:=z2_ (l:=x.net.links) (n:=zv_ (ys_ x.id (gt x.heard (2 * (k:Int))) a) x.net.links) h1.1 (wi_ _ _)
  have h3:=kC_ hA hm
  have h4:y8_ x.net.links x.id (gt x.heard (2 * (k:Int))) a=(gt x.net.links (zv_ (ys_ x.id (gt x.heard (2 * (k:Int))) a) x.net.links)).cost:=by unfold y8_;rw [if_neg (by omega)]
  rw [joins_iff] at h2
  simp only
  rw [h4]
  omega
 ·rw [List.pairwise_map]
  have hstep:∀ k,k+1 < x.heard.length / 2→gt x.heard (2 * (k:Int)) * 4+gt x.heard (2 * (k:Int)+1) < gt x.heard (2 * ((k+1:Nat):Int)) * 4+gt x.heard (2 * ((k+1:Nat):Int)+1):=by
   intro k hk'
   have h1:=hk (k+1) hk'
   have h0:=hk k (by omega)
   simp only [Bool.and_eq_true,Bool.or_eq_true,decide_eq_true_eq,Bool.not_eq_true',decide_eq_false_iff_not] at h1 h0
   have b1:=kC_ hA (z2_ (l:=x.net.links) h1.1 (wi_ _ _))
   have c1:=joins_iff.1 (xs_ _ _ h1.1)
   have b0:=kC_ hA (z2_ (l:=x.net.links) h0.1 (wi_ _ _))
   have c0:=joins_iff.1 (xs_ _ _ h0.1)
   have h2:=h1.2.resolve_left (by omega)
   rw [show (2:Int) * ((k+1:Nat):Int) - 2=2 * (k:Int) by omega,show (2:Int) * ((k+1:Nat):Int) - 1=2 * (k:Int)+1 by omega] at h2
   omega
  have hmono:∀ d k,k+1+d < x.heard.length / 2→gt x.heard (2 * (k:Int)) * 4+gt x.heard (2 * (k:Int)+1) < gt x.heard (2 * ((k+1+d:Nat):Int)) * 4+gt x.heard (2 * ((k+1+d:Nat):Int)+1):=by
   intro d
   induction d with
   | zero=>intro k hk';exact hstep k hk'
   | succ d ih=>intro k hk';exact Int.lt_trans (ih k (by omega)) (hstep (k+1+d) hk')
  refine (List.pairwise_lt_range.filter _).imp_of_mem fun {i j} hi hj hij=>?_
  obtain ⟨hi1,hi2⟩:=List.mem_filter.1 hi
  obtain ⟨hj1,hj2⟩:=List.mem_filter.1 hj
  rw [List.mem_range] at hi1 hj1
  rw [decide_eq_true_eq] at hi2 hj2
  have:=hmono (j - i - 1) i (by omega)
  rw [show i+1+(j - i - 1)=j by omega,hi2,hj2] at this
  show gt x.heard (2 * (i:Int)) < gt x.heard (2 * (j:Int))
  omega
theorem ar3_ {x:Self} (h:xv_ x=true) {o:Rcd} (ho:o∈ownL x):zV_ (seqZ o)=true:=by
 have hid:=(wd_ h).2.1
 have hN:=(ur_ (wd_ h).1).1
 obtain ⟨a,ha,rfl⟩:=List.mem_map.1 ho
 have h2:=amw_ ha
 have h3:=aD0_ h a
 unfold zV_
 simp only [wV_,seqZ,if_true,Bool.and_eq_true,inB_iff]
 refine ⟨⟨by omega,by omega⟩,?_⟩
 simp [inB_iff,h2,h3]
theorem ac4_ (r:Rcd):zn_ (seqZ r) r=true:=by
 rw [y6_]
 unfold seqZ
 split <;> exact ⟨rfl,rfl,rfl,rfl⟩
theorem aN1_ (r:Rcd):zn_ (seq1 r) r=true:=by rw [y6_];exact ⟨rfl,rfl,rfl,rfl⟩
theorem aGt_ {x:Self} (h:xv_ x=true):Cut (z3_ x.net.links x.id) (u9_ x) (byR x.store x.id (ownL x)):=by
 have hst:=(wd_ h).2.2.2.2.2
 have hso:=qI_ hst
 have p1:yQ_ (u9_ x):=by
  unfold u9_ zB_
  have:∀ (l s:List Rcd),yQ_ s→yQ_ (l.foldl (fun c r=>putR c (seqZ r)) s):=by
   intro l;induction l with
   | nil=>intro s h;exact h
   | cons a l ih=>intro s h;exact ih _ (u1_ h _)
  exact this _ _ hso
 have p2:yQ_ (byR x.store x.id (ownL x)):=by
  unfold byR zB_
  have:∀ (l s:List Rcd),yQ_ s→yQ_ (l.foldl (fun c r=>putR c (seq1 r)) s):=by
   intro l;induction l with
   | nil=>intro s h;exact h
   | cons a l ih=>intro s h;exact ih _ (u1_ h _)
  exact this _ _ (hso.filter _)
 have m1:=fun r=>kb_ (f:=seqZ) (r:=r) (s:=x.store) (ade_ x ac4_)
 have m2:=fun r=>kb_ (f:=seq1) (r:=r) (s:=x.store.filter (kE_ x.id)) (ade_ x aN1_)
 refine ⟨p1,fun r hr=>?_,p2,fun r hr hn=>?_⟩
 ·rcases (m2 r).1 hr with ⟨o,ho,e⟩ | ⟨h1,h2⟩
  ·exact (m1 r).2 (.inl ⟨o,ho,by rw [e,(afw_ ho).1]⟩)
  ·exact (m1 r).2 (.inr ⟨(List.mem_filter.1 h1).1,fun o ho=>by rw [(afw_ ho).1];exact h2 o ho⟩)
 ·rcases (m1 r).1 hr with ⟨o,ho,e⟩ | ⟨h1,h2⟩
  ·exact absurd ((m2 r).2 (.inl ⟨o,ho,by rw [e,(afw_ ho).1]⟩)) hn
  ·have hm:¬ kE_ x.id r=true:=fun hm=>hn ((m2 r).2 (.inr ⟨List.mem_filter.2 ⟨h1,hm⟩,fun o ho=>by rw [← (afw_ ho).1];exact h2 o ho⟩))
   have hm:r.kind=1∧r.owner=x.id:=by
    unfold kE_ at hm
    simpa using hm
   refine ⟨hm.1,?_⟩
   cases hc:(z3_ x.net.links x.id).contains r.area with
   | false=>rfl
   | true =>
    have ha:=List.contains_iff_mem.1 hc
    have h3:=h2 (wV_ x.net.links x.id x.heard r.area) (List.mem_map.2 ⟨_,ha,rfl⟩)
    have hk:=ags_ (wq_ hst h1)
    have:zn_ r (seqZ (wV_ x.net.links x.id x.heard r.area))=true:=by
     refine wT_ ?_ (qe_ (ac4_ _))
     rw [y6_]
     exact ⟨rfl,hm.1,hm.2,by show r.key=0;omega⟩
    rw [this] at h3;cases h3
theorem aNr_ {x:Self} {S:List Rcd} {o:Rcd} (ho:o∈ownL x):HasKey (xE_ x S) o :=
 HasKey.puts_new (z:=o) (j7_ o) (List.mem_append.2 (.inl (List.mem_append.2 (.inl ho))))
theorem aF9_ {x:Self} (h:xv_ x=true):um_ x (xE_ x (u9_ x))=um_ x (xE_ x (byR x.store x.id (ownL x))):=by
 have hc:=aGt_ h
 have hst:=(wd_ h).2.2.2.2.2
 have hso:=qI_ hst
 by_cases hlen:(u9_ x).length≤150
 ·have hr:∀ r∈u9_ x,zV_ r=true:=by
   intro r hr
   rcases (kb_ (f:=seqZ) (r:=r) (s:=x.store) (ade_ x ac4_)).1 hr with ⟨o,ho,e⟩ | ⟨h1,_⟩
   ·rw [e];exact ar3_ h ho
   ·exact wq_ hst h1
  have h1:zk_ (u9_ x)=true:=by unfold zk_;rw [Bool.and_eq_true,decide_eq_true_eq];exact ⟨hlen,aun_ hr hc.so⟩
  have h2:zk_ (byR x.store x.id (ownL x))=true:=by
   unfold zk_;rw [Bool.and_eq_true,decide_eq_true_eq]
   exact ⟨Nat.le_trans (kn_ hc.so' hc.so fun r hr=>⟨r,hc.sub r hr,j7_ r⟩) hlen,aun_ (fun r hr'=>hr r (hc.sub r hr')) hc.so'⟩
  have e:beyL x (u9_ x)=beyL x (byR x.store x.id (ownL x)):=by
   unfold beyL
   rw [ajg_ fun a ha=>hc.beyondR (h1.trans h2.symm) (List.contains_iff_mem.2 ha) x.id]
  unfold xE_
  rw [e]
 ·have big:∀ S,um_ x (xE_ x S)=(x,[]):=by
   intro S
   unfold um_
   rw [if_neg]
   rintro ⟨_,h2⟩
   have hsT:yQ_ (zB_ same x.store (wl_ x (xE_ x S))):=by
    unfold zB_
    have:∀ (l s:List Rcd),yQ_ s→yQ_ (l.foldl (fun c r=>putR c (same r)) s):=by
     intro l;induction l with
     | nil=>intro s h;exact h
     | cons a l ih=>intro s h;exact ih _ (u1_ h _)
    exact this _ _ hso
   have:=kn_ hc.so hsT fun r hr=>by
    rcases (kb_ (f:=seqZ) (r:=r) (s:=x.store) (ade_ x ac4_)).1 hr with ⟨o,ho,e⟩ | ⟨h1,_⟩
    ·obtain ⟨z,hz,hk⟩:=aps_ x (xE_ x S) (y:=o) (.inr (aNr_ ho))
     exact ⟨z,hz,by rw [e];exact wT_ (ac4_ o) hk⟩
    ·exact aps_ x (xE_ x S) (.inl ⟨r,h1,j7_ r⟩)
   omega
  rw [big,big]
end Go.Proofs.YtiebbbmibbkpcaaGreatC

/- What a node renews: what it is; that both stores in which ways are looked for lead to the same. Conditions: none. -/
import Derived.Test.YtiebbbmibbkpcaaGreatXSY
namespace Go.Proofs.YtiebbbmibbkpcaaGreatC
set_option linter.unusedVariables false
set_option linter.unusedSimpArgs false
theorem qw_ {a b:Rcd} (h:zp_ a b=true):zp_ b a=true:=by rw [xa_] at *;omega
theorem w1_ {a b c:Rcd} (h:zp_ a b=true) (h':zp_ b c=true):zp_ a c=true:=by rw [xa_] at *;omega
theorem ky_ (a:Rcd):zp_ a a=true:=by rw [xa_];omega
theorem mem_putR_iff {s:List Rcd} {r x:Rcd}:x∈putR s r↔x=r∨(x∈s∧zp_ x r=false):=by
 unfold putR
 simp only [List.mem_append,List.mem_filter,List.mem_singleton]
 constructor
 ·rintro (⟨h,q⟩ | h | ⟨h,q⟩)
  ·exact .inr ⟨h,qI_ q⟩
  ·exact .inl h
  ·refine .inr ⟨h,?_⟩
   cases hc:zp_ x r with
   | false=>rfl
   | true=>have:=qw_ hc;rw [qI_ q] at this;cases this
 ·rintro (h | ⟨h,q⟩)
  ·exact .inr (.inl h)
  ·cases hl:zC_ x r with
   | true=>exact .inl ⟨h,rfl⟩
   | false=>exact .inr (.inr ⟨h,asl_ hl q⟩)
def HasKey (s:List Rcd) (r:Rcd):Prop:=∃ x∈s,zp_ r x=true
theorem HasKey.put {s:List Rcd} {y:Rcd} (h:HasKey s y) (r:Rcd):HasKey (putR s r) y:=by
 obtain ⟨x,hx,hk⟩:=h
 cases hc:zp_ x r with
 | true=>exact ⟨r,mem_putR_iff.2 (.inl rfl),w1_ hk hc⟩
 | false=>exact ⟨x,mem_putR_iff.2 (.inr ⟨hx,hc⟩),hk⟩
theorem HasKey.new {s:List Rcd} {y r:Rcd} (h:zp_ y r=true):HasKey (putR s r) y:=⟨r,mem_putR_iff.2 (.inl rfl),h⟩
theorem HasKey.puts {f:Rcd→Rcd} {y:Rcd}:∀ {l s:List Rcd},HasKey s y→HasKey (zv_ f s l) y
 | [],_,h=>h
 | x :: l,s,h=>HasKey.puts (l:=l) (h.put (f x))
theorem HasKey.puts_new {f:Rcd→Rcd} {y z:Rcd} (hz:zp_ y (f z)=true):∀ {l s:List Rcd},z∈l→HasKey (zv_ f s l) y
 | x :: l,s,h=>by
  rcases List.mem_cons.1 h with rfl | h
  ·exact HasKey.puts (l:=l) (HasKey.new hz)
  ·exact HasKey.puts_new hz (l:=l) h
theorem ke_:∀ {s t:List Rcd},yR_ s→yR_ t→(∀ r∈s,HasKey t r)→s.length≤t.length
 | [],t,_,_,_=>by simp
 | x :: s,t,hs,ht,h=>by
  have ps:=List.pairwise_cons.1 hs
  obtain ⟨y,hy,hk⟩:=h x (.head _)
  obtain ⟨t1,t2,rfl⟩:=List.append_of_mem hy
  have pt:=List.pairwise_append.1 ht
  have pt2:=List.pairwise_cons.1 pt.2.1
  have ih:=ke_ (s:=s) (t:=t2) ps.2 pt2.2 fun r hr=>by
   obtain ⟨z,hz,hkz⟩:=h r (.tail _ hr)
   have hlt:zC_ y z=true:=by
    have h1:=ps.1 r hr
    rw [y0_] at *
    rw [xa_] at hk hkz
    omega
   rcases List.mem_append.1 hz with hz | hz
   ·have h2:=pt.2.2 z hz y (.head _)
    rw [aad_ hlt] at h2;cases h2
   ·rcases List.mem_cons.1 hz with e | hz
    ·subst e
     rw [adu_] at hlt;cases hlt
    ·exact ⟨z,hz,hkz⟩
  simp only [List.length_append,List.length_cons]
  omega
theorem km_ {f:Rcd→Rcd} {r:Rcd}:∀ {l s:List Rcd},l.Pairwise (fun a b=>zp_ (f a) (f b)=false)→(r∈zv_ f s l↔(∃ o∈l,r=f o)∨(r∈s∧∀ o∈l,zp_ r (f o)=false))
 | [],s,_=>by simp [zv_]
 | x :: l,s,h=>by
  have hp:=List.pairwise_cons.1 h
  rw [show zv_ f s (x :: l)=zv_ f (putR s (f x)) l from rfl,km_ hp.2,mem_putR_iff]
  constructor
  ·rintro (⟨o,ho,e⟩ | ⟨e | ⟨h1,h2⟩,h3⟩)
   ·exact .inl ⟨o,.tail _ ho,e⟩
   ·exact .inl ⟨x,.head _,e⟩
   ·refine .inr ⟨h1,fun o ho=>?_⟩
    rcases List.mem_cons.1 ho with rfl | ho
    ·exact h2
    ·exact h3 o ho
  ·rintro (⟨o,ho,e⟩ | ⟨h1,h2⟩)
   ·rcases List.mem_cons.1 ho with rfl | ho
    ·exact .inr ⟨.inl e,fun o' ho'=>by rw [e];exact hp.1 o' ho'⟩
    ·exact .inl ⟨o,ho,e⟩
   ·exact .inr ⟨.inr ⟨h1,h2 x (.head _)⟩,fun o ho=>h2 o (.tail _ ho)⟩
def uh_ (s:List Rcd) (r:Rcd):Int:=if keyP s r < 0 then 0 else (gt s (keyP s r)).seq
def ub_ (x:Self) (r:Rcd):Int:=if 1000 * x.boot+1 > uh_ x.store r+1 then 1000 * x.boot+1 else uh_ x.store r+1
def newB (s:List Rcd) (r:Rcd):Bool:=decide (keyP s r < 0) || !w0_ (gt s (keyP s r)) r
def aQu_ (x:Self) (r:Rcd):Rcd:={ r with seq:=ub_ x r }
def wz_ (x:Self) (c:List Rcd) (r:Rcd):List Rcd:=if newB x.store r=true then putR c (aQu_ x r) else c
def zI_ (r:Rcd):Rcd:=if r.kind=1 then { r with near:=[] } else { r with near:=[],cost:=60000 }
def aGm_ (x:Self) (W:List Rcd) (r:Rcd):Bool:=(r.owner == x.id) && (decide (keyP W r < 0) && !w0_ (zI_ r) r)
def aRn_ (x:Self) (r:Rcd):Rcd:={ zI_ r with seq:=ub_ x r }
def wy_ (x:Self) (W:List Rcd) (c:List Rcd) (r:Rcd):List Rcd:=if aGm_ x W r=true then putR c (aRn_ x r) else c
def wa_ (x:Self) (W:List Rcd):List Rcd:=x.store.foldl (wy_ x W) (W.foldl (wz_ x) [])
def vL_ (x:Self) (W:List Rcd):Self × List Rcd :=
 if (wa_ x W).all (fun r=>decide (r.seq≤100000))=true∧(zv_ same x.store (wa_ x W)).length≤150 then ({ x with store:=zv_ same x.store (wa_ x W) },wa_ x W) else (x,[])
theorem kW_ {α:Type} {y:Rcd} {g:List Rcd→α→List Rcd} (hg:∀ c a,HasKey c y→HasKey (g c a) y):∀ {l:List α} {c:List Rcd},HasKey c y→HasKey (l.foldl g c) y
 | [],_,h=>h
 | a :: l,c,h=>kW_ hg (l:=l) (hg c a h)
theorem aEd_ {x:Self} {y:Rcd} (c:List Rcd) (r:Rcd) (h:HasKey c y):HasKey (wz_ x c r) y:=by
 unfold wz_;split
 ·exact h.put _
 ·exact h
theorem aEm_ {x:Self} {W:List Rcd} {y:Rcd} (c:List Rcd) (r:Rcd) (h:HasKey c y):HasKey (wy_ x W c r) y:=by
 unfold wy_;split
 ·exact h.put _
 ·exact h
theorem aor_ {x:Self} {w:Rcd} (hw:newB x.store w=true):∀ {l c:List Rcd},w∈l→HasKey (l.foldl (wz_ x) c) w
 | a :: l,c,h=>by
  rcases List.mem_cons.1 h with rfl | h
  ·rw [List.foldl_cons]
   refine kW_ aEd_ ?_
   unfold wz_
   rw [if_pos hw]
   exact HasKey.new (by rw [xa_];exact ⟨rfl,rfl,rfl,rfl⟩)
  ·exact aor_ hw (l:=l) h
theorem aNg_ {s:List Rcd} {r:Rcd} (h:¬ keyP s r < 0):HasKey s r:=by
 unfold keyP at h
 have h0:0≤zu_ (fun x=>zp_ x r) s:=by omega
 exact ⟨_,zX_ (l:=s) h0 (x7_ _ _),qw_ (xv_ (fun x=>zp_ x r) s h0)⟩
theorem aoi_ (x:Self) (W:List Rcd) {y:Rcd} (h:HasKey x.store y∨HasKey W y):HasKey (zv_ same x.store (wa_ x W)) y:=by
 rcases h with h | ⟨w,hw,hk⟩
 ·exact h.puts
 ·by_cases hn:newB x.store w=true
  ·obtain ⟨z,hz,hkz⟩:HasKey (wa_ x W) w:=kW_ aEm_ (aor_ hn hw)
   exact HasKey.puts_new (z:=z) (w1_ hk hkz) hz
  ·unfold newB at hn
   simp only [Bool.or_eq_true,decide_eq_true_eq,not_or] at hn
   obtain ⟨z,hz,hkz⟩:=aNg_ hn.1
   exact HasKey.puts ⟨z,hz,w1_ hk hkz⟩
theorem ady_ (x:Self) {f:Rcd→Rcd} (hf:∀ r,zp_ (f r) r=true):(ownL x).Pairwise fun a b=>zp_ (f a) (f b)=false:=by
 unfold ownL
 rw [List.pairwise_map]
 have h:(z1_ x.net.links x.id).Pairwise (· < ·):=three_asc.filter _
 refine h.imp fun {a b} hab=>?_
 cases hc:zp_ (f (w4_ x.net.links x.id x.heard a)) (f (w4_ x.net.links x.id x.heard b)) with
 | false=>rfl
 | true =>
  have:=w1_ (w1_ (qw_ (hf _)) hc) (hf _)
  rw [xa_] at this
  have e:a=b:=this.1
  omega
theorem af4_ {x:Self} {o:Rcd} (ho:o∈ownL x):seqZ o=seq1 o∧o.kind=1∧o.owner=x.id∧o.key=0∧(z1_ x.net.links x.id).contains o.area=true:=by
 obtain ⟨a,ha,rfl⟩:=List.mem_map.1 ho
 exact ⟨rfl,rfl,rfl,rfl,List.contains_iff_mem.2 ha⟩
theorem aE6_ {x:Self} (h:xd_ x=true) (a:Int):vt_ x.id (abv_ x.net.links x.id x.heard a)=true:=by
 obtain ⟨hN,hid,hbt,hev,hpr,hst⟩:=xf_ h
 obtain ⟨n1,hl,ht,hA,hT⟩:=wS_ hN
 have hk:=fun k hk=>allB_iff.1 hpr k hk
 unfold abv_
 refine aKc_ ?_ ?_
 ·intro y hy
  obtain ⟨k,hk1,rfl⟩:=List.mem_map.1 hy
  obtain ⟨hk2,hk3⟩:=List.mem_filter.1 hk1
  rw [List.mem_range] at hk2
  rw [decide_eq_true_eq] at hk3
  have h1:=hk k hk2
  simp only [Bool.and_eq_true,decide_eq_true_eq] at h1
  rw [hk3] at h1
  have h2:=xv_ _ _ h1.1
  have hm:=zX_ (l:=x.net.links) (n:=zu_ (yk_ x.id (gt x.heard (2 * (k:Int))) a) x.net.links) h1.1 (x7_ _ _)
  have h3:=j4_ hA hm
  have h4:yY_ x.net.links x.id (gt x.heard (2 * (k:Int))) a=(gt x.net.links (zu_ (yk_ x.id (gt x.heard (2 * (k:Int))) a) x.net.links)).cost:=by unfold yY_;rw [if_neg (by omega)]
  rw [joins_iff] at h2
  simp only
  rw [h4]
  omega
 ·rw [List.pairwise_map]
  have hstep:∀ k,k+1 < x.heard.length / 2→gt x.heard (2 * (k:Int)) * 4+gt x.heard (2 * (k:Int)+1) < gt x.heard (2 * ((k+1:Nat):Int)) * 4+gt x.heard (2 * ((k+1:Nat):Int)+1):=by
   intro k hk'
   have h1:=hk (k+1) hk'
   have h0:=hk k (by omega)
   simp only [Bool.and_eq_true,Bool.or_eq_true,decide_eq_true_eq,Bool.not_eq_true',decide_eq_false_iff_not] at h1 h0
   have b1:=j4_ hA (zX_ (l:=x.net.links) h1.1 (x7_ _ _))
   have c1:=joins_iff.1 (xv_ _ _ h1.1)
   have b0:=j4_ hA (zX_ (l:=x.net.links) h0.1 (x7_ _ _))
   have c0:=joins_iff.1 (xv_ _ _ h0.1)
   have h2:=h1.2.resolve_left (by omega)
   rw [show (2:Int) * ((k+1:Nat):Int) - 2=2 * (k:Int) by omega,show (2:Int) * ((k+1:Nat):Int) - 1=2 * (k:Int)+1 by omega] at h2
   omega
  have hmono:∀ d k,k+1+d < x.heard.length / 2→gt x.heard (2 * (k:Int)) * 4+gt x.heard (2 * (k:Int)+1) < gt x.heard (2 * ((k+1+d:Nat):Int)) * 4+gt x.heard (2 * ((k+1+d:Nat):Int)+1):=by
   intro d
   induction d with
   | zero=>intro k hk';exact hstep k hk'
   | succ d ih=>intro k hk';exact Int.lt_trans (ih k (by omega)) (hstep (k+1+d) hk')
  refine (List.pairwise_lt_range.filter _).imp_of_mem fun {i j} hi hj hij=>?_
  obtain ⟨hi1,hi2⟩:=List.mem_filter.1 hi
  obtain ⟨hj1,hj2⟩:=List.mem_filter.1 hj
  rw [List.mem_range] at hi1 hj1
  rw [decide_eq_true_eq] at hi2 hj2
  have:=hmono (j - i - 1) i (by omega)
  rw [show i+1+(j - i - 1)=j by omega,hi2,hj2] at this
  show gt x.heard (2 * (i:Int)) < gt x.heard (2 * (j:Int))
  omega
theorem asy_ {x:Self} (h:xd_ x=true) {o:Rcd} (ho:o∈ownL x):zR_ (seqZ o)=true:=by
 have hid:=(xf_ h).2.1
 have hN:=(wS_ (xf_ h).1).1
 obtain ⟨a,ha,rfl⟩:=List.mem_map.1 ho
 have h2:=amu_ ha
 have h3:=aE6_ h a
 unfold zR_
 simp only [w4_,seqZ,if_true,Bool.and_eq_true,inB_iff]
 refine ⟨⟨by omega,by omega⟩,?_⟩
 simp [inB_iff,h2,h3]
theorem acw_ (r:Rcd):zp_ (seqZ r) r=true:=by
 rw [xa_]
 unfold seqZ
 split <;> exact ⟨rfl,rfl,rfl,rfl⟩
theorem aOd_ (r:Rcd):zp_ (seq1 r) r=true:=by rw [xa_];exact ⟨rfl,rfl,rfl,rfl⟩
theorem aF9_ {x:Self} (h:xd_ x=true):Cut (z1_ x.net.links x.id) (qc_ x) (byR x.store x.id (ownL x)):=by
 have hst:=(xf_ h).2.2.2.2.2
 have hso:=jb_ hst
 have p1:yR_ (qc_ x):=by
  unfold qc_ zv_
  have:∀ (l s:List Rcd),yR_ s→yR_ (l.foldl (fun c r=>putR c (seqZ r)) s):=by
   intro l;induction l with
   | nil=>intro s h;exact h
   | cons a l ih=>intro s h;exact ih _ (uY_ h _)
  exact this _ _ hso
 have p2:yR_ (byR x.store x.id (ownL x)):=by
  unfold byR zv_
  have:∀ (l s:List Rcd),yR_ s→yR_ (l.foldl (fun c r=>putR c (seq1 r)) s):=by
   intro l;induction l with
   | nil=>intro s h;exact h
   | cons a l ih=>intro s h;exact ih _ (uY_ h _)
  exact this _ _ (hso.filter _)
 have m1:=fun r=>km_ (f:=seqZ) (r:=r) (s:=x.store) (ady_ x acw_)
 have m2:=fun r=>km_ (f:=seq1) (r:=r) (s:=x.store.filter (kG_ x.id)) (ady_ x aOd_)
 refine ⟨p1,fun r hr=>?_,p2,fun r hr hn=>?_⟩
 ·rcases (m2 r).1 hr with ⟨o,ho,e⟩ | ⟨h1,h2⟩
  ·exact (m1 r).2 (.inl ⟨o,ho,by rw [e,(af4_ ho).1]⟩)
  ·exact (m1 r).2 (.inr ⟨(List.mem_filter.1 h1).1,fun o ho=>by rw [(af4_ ho).1];exact h2 o ho⟩)
 ·rcases (m1 r).1 hr with ⟨o,ho,e⟩ | ⟨h1,h2⟩
  ·exact absurd ((m2 r).2 (.inl ⟨o,ho,by rw [e,(af4_ ho).1]⟩)) hn
  ·have hm:¬ kG_ x.id r=true:=fun hm=>hn ((m2 r).2 (.inr ⟨List.mem_filter.2 ⟨h1,hm⟩,fun o ho=>by rw [← (af4_ ho).1];exact h2 o ho⟩))
   have hm:r.kind=1∧r.owner=x.id:=by
    unfold kG_ at hm
    simpa using hm
   refine ⟨hm.1,?_⟩
   cases hc:(z1_ x.net.links x.id).contains r.area with
   | false=>rfl
   | true =>
    have ha:=List.contains_iff_mem.1 hc
    have h3:=h2 (w4_ x.net.links x.id x.heard r.area) (List.mem_map.2 ⟨_,ha,rfl⟩)
    have hk:=ag5_ (wv_ hst h1)
    have:zp_ r (seqZ (w4_ x.net.links x.id x.heard r.area))=true:=by
     refine w1_ ?_ (qw_ (acw_ _))
     rw [xa_]
     exact ⟨rfl,hm.1,hm.2,by show r.key=0;omega⟩
    rw [this] at h3;cases h3
theorem aL0_ {x:Self} {S:List Rcd} {o:Rcd} (ho:o∈ownL x):HasKey (xC_ x S) o :=
 HasKey.puts_new (z:=o) (ky_ o) (List.mem_append.2 (.inl (List.mem_append.2 (.inl ho))))
theorem aFk_ {x:Self} (h:xd_ x=true):vL_ x (xC_ x (qc_ x))=vL_ x (xC_ x (byR x.store x.id (ownL x))):=by
 have hc:=aF9_ h
 have hst:=(xf_ h).2.2.2.2.2
 have hso:=jb_ hst
 by_cases hlen:(qc_ x).length≤150
 ·have hr:∀ r∈qc_ x,zR_ r=true:=by
   intro r hr
   rcases (km_ (f:=seqZ) (r:=r) (s:=x.store) (ady_ x acw_)).1 hr with ⟨o,ho,e⟩ | ⟨h1,_⟩
   ·rw [e];exact asy_ h ho
   ·exact wv_ hst h1
  have h1:zk_ (qc_ x)=true:=by unfold zk_;rw [Bool.and_eq_true,decide_eq_true_eq];exact ⟨hlen,awe_ hr hc.so⟩
  have h2:zk_ (byR x.store x.id (ownL x))=true:=by
   unfold zk_;rw [Bool.and_eq_true,decide_eq_true_eq]
   exact ⟨Nat.le_trans (ke_ hc.so' hc.so fun r hr=>⟨r,hc.sub r hr,ky_ r⟩) hlen,awe_ (fun r hr'=>hr r (hc.sub r hr')) hc.so'⟩
  have e:beyL x (qc_ x)=beyL x (byR x.store x.id (ownL x)):=by
   unfold beyL
   rw [ajd_ fun a ha=>hc.beyondR (h1.trans h2.symm) (List.contains_iff_mem.2 ha) x.id]
  unfold xC_
  rw [e]
 ·have big:∀ S,vL_ x (xC_ x S)=(x,[]):=by
   intro S
   unfold vL_
   rw [if_neg]
   rintro ⟨_,h2⟩
   have hsT:yR_ (zv_ same x.store (wa_ x (xC_ x S))):=by
    unfold zv_
    have:∀ (l s:List Rcd),yR_ s→yR_ (l.foldl (fun c r=>putR c (same r)) s):=by
     intro l;induction l with
     | nil=>intro s h;exact h
     | cons a l ih=>intro s h;exact ih _ (uY_ h _)
    exact this _ _ hso
   have:=ke_ hc.so hsT fun r hr=>by
    rcases (km_ (f:=seqZ) (r:=r) (s:=x.store) (ady_ x acw_)).1 hr with ⟨o,ho,e⟩ | ⟨h1,_⟩
    ·obtain ⟨z,hz,hk⟩:=aoi_ x (xC_ x S) (y:=o) (.inr (aL0_ ho))
     exact ⟨z,hz,by rw [e];exact w1_ (acw_ o) hk⟩
    ·exact aoi_ x (xC_ x S) (.inl ⟨r,h1,ky_ r⟩)
   omega
  rw [big,big]
end Go.Proofs.YtiebbbmibbkpcaaGreatC

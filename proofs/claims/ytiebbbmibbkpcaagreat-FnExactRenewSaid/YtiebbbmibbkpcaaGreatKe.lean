/- The walk by reflection: a part of its laws, for any function. Conditions: none. -/
import Derived.Test.YtiebbbmibbkpcaaGreatKd
namespace Go.Proofs.YtiebbbmibbkpcaaGreatC
set_option linter.unusedVariables false
set_option linter.unusedSimpArgs false
set_option linter.defProp false
theorem pz:(∀ p:Prop,(p∨p)=p)∧(∀ p:Prop,(p∨True)=True)∧(∀ p:Prop,(True∨p)=True)∧(∀ p:Prop,(p∨False)=p)∧(∀ p:Prop,(False∨p)=p)∧(¬ True)=False∧(¬ False)=True∧(∀ a:Int,(a < a)=False) :=
 ⟨or_self,or_true,true_or,or_false,false_or,not_true_eq_false,not_false_eq_true,fun a=>eq_false (Int.lt_irrefl a)⟩
@[congr] theorem aSd_ {α β:Type} {F:(α→Option β)→α→Option β} {R:Nat} {x y:α} (h:x=y):iter F R x=iter F R y:=by rw [h]
@[congr] theorem aSc_ {α β:Type} {o o':Option α} {f:α→Option β} (h:o=o'):o.bind f=o'.bind f:=by rw [h]
@[congr] theorem aSg_ {t t':T} {x y:Option (List T)} (h:t=t'):ifT t x y=ifT t' x y:=by rw [h]
@[congr] theorem aSs_ {k:Sem1} {b:Sem1→Option (List T)}:jn k b=jn k b:=rfl
@[congr] theorem aSn_ {o o':Option (List T)} {k:T→Option (List T)} (h:o=o'):cl1 o k=cl1 o' k:=by rw [h]
@[congr] theorem aSj_ {k:T→Option (List T)} {l l':List T} (h:l=l'):ar1 k l=ar1 k l':=by rw [h]
@[congr] theorem aSk_ {k:T→T→Option (List T)} {l l':List T} (h:l=l'):ar2 k l=ar2 k l':=by rw [h]
@[congr] theorem aSe_ {o o':Option (List T)} {k:T→T→T→Option (List T)} (h:o=o'):cl3 o k=cl3 o' k:=by rw [h]
@[congr] theorem aSi_ {k:T→T→T→Option (List T)} {l l':List T} (h:l=l'):ar3 k l=ar3 k l':=by rw [h]
@[congr] theorem aSm_ {o o':Option (List T)} {k:T→T→T→T→Option (List T)} (h:o=o'):cl4 o k=cl4 o' k:=by rw [h]
@[congr] theorem aSp_ {k:T→T→T→T→Option (List T)} {l l':List T} (h:l=l'):ar4 k l=ar4 k l':=by rw [h]
@[congr] theorem aSh_ {k:T→T→T→T→T→Option (List T)} {l l':List T} (h:l=l'):ar5 k l=ar5 k l':=by rw [h]
@[congr] theorem aSl_ {k:T→T→T→T→T→T→Option (List T)} {l l':List T} (h:l=l'):ar6 k l=ar6 k l':=by rw [h]
@[congr] theorem aSf_ {o o':Option (List T)} {k:T→T→T→T→T→T→T→Option (List T)} (h:o=o'):cl7 o k=cl7 o' k:=by rw [h]
@[congr] theorem aSr_ {k:T→T→T→T→T→T→T→Option (List T)} {l l':List T} (h:l=l'):ar7 k l=ar7 k l':=by rw [h]
@[congr] theorem aSq_ {o o':Option (List T)} {k:T→T→T→T→T→T→T→T→Option (List T)} (h:o=o'):cl8 o k=cl8 o' k:=by rw [h]
@[congr] theorem aSo_ {o o':Option (List T)} {k:T→T→T→T→T→T→T→T→T→Option (List T)} (h:o=o'):cl9 o k=cl9 o' k:=by rw [h]
@[congr] theorem aSb_ {k:T→T→T→T→T→T→T→T→T→T→Option (List T)} {l l':List T} (h:l=l'):ar10 k l=ar10 k l':=by rw [h]
theorem aOb_ (b:Bool) (x y:Option (List T)):ifT (bb b) x y=if b=true then x else y:=by cases b <;> rfl
theorem aPw_:Prim.ev .len [.l []]=some (ii 0):=rfl
theorem aNy_ (a b:Int) (h:b≠0):Prim.ev (.bin .rem) [ii a,ii b]=some (ii (a.tmod b)):=by
 simp only [Prim.ev,T.val,binV,Option.bind_some,if_true,h,if_false]
theorem aPb_ (a b:Int):Prim.ev .mx [ii a,ii b]=some (ii (if b > a then b else a)):=rfl
theorem aPv_ (a b:Int):Prim.ev .mn [ii a,ii b]=some (ii (if b < a then b else a)):=rfl
theorem aPo_ (a b c d a' b' c' d':Int):Prim.ev (.eqs [1,1,1,1]) [ii a,ii b,ii c,ii d,ii a',ii b',ii c',ii d']=some (bb (a == a' && (b == b' && (c == c' && (d == d'))))):=by
 simp [Prim.ev,eqT,eqV]
theorem aNo_ (a b c a' b' c':Int) (d d':Bool):Prim.ev (.eqs [1,1,1,4]) [ii a,ii b,ii c,bb d,ii a',ii b',ii c',bb d']=some (bb (a == a' && (b == b' && (c == c' && (d == d'))))):=by
 simp [Prim.ev,eqT,eqV]
theorem aPj_ {w:Nat} (h:0 < w):Prim.ev (.lit w []) []=some (.l []):=by
 simp [Prim.ev,wC_,x7_,h]
theorem aMb_ (a b:Int):Prim.ev (.lit 1 [true,true]) [ii a,ii b]=some (.l ([a,b].map eInt)):=by simp [Prim.ev,wC_,x7_,scal,eInt]
theorem aHd_ (a b:Int):Prim.ev (.lit 1 []) [ii a,ii b]=some (.l ([a,b].map eInt)):=by simp [Prim.ev,wC_,x7_,eInt]
theorem aN4_ {l:List Int} {x y:Int} (h:l.length < 4294967294):Prim.ev (.app true 1) [.l (l.map eInt),.l ([x,y].map eInt)]=some (.l ((l++[x,y]).map eInt)):=xk_ (by simp;omega)
theorem aO1_ (a b:Int):((a == b)=true)=(a=b):=by simp
theorem aPq_ (a b:Int):((a != b)=true)=¬ (a=b):=by simp
theorem aRm_ (b:Bool):((!b)=true)=¬ (b=true):=by simp
theorem aRj_ (a b:Bool):((a != b)=true)=¬ ((a=true)=(b=true)):=by cases a <;> cases b <;> simp
theorem aR5_ (a b:Bool):((a == b)=true)=((a=true)=(b=true)):=by cases a <;> cases b <;> simp
theorem acs_ (a b:Nat):((a+b:Nat):Int)=(a:Int)+b:=by simp
theorem ajj_:((1:Nat):Int)=1:=rfl
theorem aQq_:((2:Nat):Int)=2:=rfl
theorem aQ2_:((3:Nat):Int)=3:=rfl
theorem aRh_:((5:Nat):Int)=5:=rfl
theorem aQi_:((6:Nat):Int)=6:=rfl
theorem aQv_:((7:Nat):Int)=7:=rfl
theorem aQz_:((9:Nat):Int)=9:=rfl
theorem avy_:((0:Nat):Int)=0:=rfl
theorem aob_ {α:Type} {p q:Prop} [Decidable p] [Decidable q] (h:p↔q) (x y:α):(if p then x else y)=if q then x else y:=by
 by_cases hq:q
 ·rw [if_pos (h.2 hq),if_pos hq]
 ·rw [if_neg (fun hp=>hq (h.1 hp)),if_neg hq]
def allB (n:Nat) (p:Nat→Bool):Bool:=(List.range n).all p
theorem allB_iff {n:Nat} {p:Nat→Bool}:allB n p=true↔∀ i,i < n→p i=true:=by
 simp [allB]
theorem acy_ {β σ:Type} {F:(σ→Option β)→σ→Option β} (n:Nat) (st:Nat→σ) (p:Nat→Bool) {outT outF:Option β}
  (step:∀ i:Nat,(i:Int) < (n:Int)→∀ s,F s (st i)=if p i=true then s (st (i+1)) else outF) (fin:∀ s,F s (st n)=outT) {R:Nat} (hR:n < R) :
  iter F R (st 0)=if allB n p=true then outT else outF:=by
 classical
 have:∀ (d i:Nat),i+d=n→∀ R,d < R→iter F R (st i)=if (∀ j,i≤j→j < n→p j=true) then outT else outF:=by
  intro d
  induction d with
  | zero =>
   intro i hi R hR
   cases R with
   | zero=>omega
   | succ R =>
    have hi:i=n:=hi
    subst hi
    rw [if_pos (fun j h1 h2=>absurd h1 (by omega))]
    exact fin _
  | succ d ih =>
   intro i hi R hR
   cases R with
   | zero=>omega
   | succ R =>
    unfold iter
    rw [step i (by omega)]
    by_cases hp:p i=true
    ·rw [if_pos hp,ih (i+1) (by omega) R (by omega)]
     refine aob_ ⟨fun h j h1 h2=>?_,fun h j h1 h2=>h j (by omega) h2⟩ _ _
     rcases Nat.lt_or_ge i j with h3 | h3
     ·exact h j h3 h2
     ·have:j=i:=by omega
      subst this;exact hp
    ·rw [if_neg hp,if_neg fun h=>hp (h i (Nat.le_refl i) (by omega))]
 rw [this n 0 (by omega) R hR]
 exact aob_ ⟨fun h=>allB_iff.2 fun i hi=>h i (Nat.zero_le i) hi,fun h j _ h2=>allB_iff.1 h j h2⟩ _ _
def zv_ {α:Type} (p:α→Bool) (l:List α):Int:=match l.findIdx? p with | some i=>(i:Int) | none=>-1
theorem wi_ {α:Type} (p:α→Bool) (l:List α):zv_ p l < l.length:=by
 unfold zv_
 cases h:l.findIdx? p with
 | none=>show (-1:Int) < _;omega
 | some i =>
  obtain ⟨h1,_⟩:=List.findIdx?_eq_some_iff_getElem.1 h
  show (i:Int) < _;omega
theorem aL8_ {α:Type} (p:α→Bool) (l:List α):-1≤zv_ p l:=by
 unfold zv_
 cases h:l.findIdx? p with
 | none=>show (-1:Int)≤-1;omega
 | some i=>show (-1:Int)≤(i:Int);omega
theorem xs_ {α:Type} [Inhabited α] (p:α→Bool) (l:List α) (h:0≤zv_ p l):p (gt l (zv_ p l))=true:=by
 unfold zv_ at h ⊢
 cases h':l.findIdx? p with
 | none=>rw [h'] at h;exact absurd h (by decide)
 | some i =>
  obtain ⟨h1,h2,_⟩:=List.findIdx?_eq_some_iff_getElem.1 h'
  show p (gt l (i:Int))=true
  rw [zm_ h1];exact h2
theorem w4_ {α:Type} (p:α→Bool) (l:List α):zv_ p l < 0↔∀ x∈l,p x=false:=by
 unfold zv_
 cases h:l.findIdx? p with
 | none =>
  rw [List.findIdx?_eq_none_iff] at h
  exact ⟨fun _=>h,fun _=>by show (-1:Int) < 0;decide⟩
 | some i =>
  obtain ⟨h1,h2,_⟩:=List.findIdx?_eq_some_iff_getElem.1 h
  refine ⟨fun h3=>absurd (show (i:Int) < 0 from h3) (by omega),fun h3=>?_⟩
  rw [h3 _ (List.getElem_mem h1)] at h2
  cases h2
theorem ahq_ {α β σ:Type} [Inhabited α] {F:(σ→Option β)→σ→Option β} (l:List α) (st:Nat→σ) (p:α→Bool) (outS:Int→Option β) {outN:Option β}
  (step:∀ i:Nat,(i:Int) < (l.length:Int)→∀ s,F s (st i)=if p (gt l i)=true then outS i else s (st (i+1))) (fin:∀ s,F s (st l.length)=outN) {R:Nat} (hR:l.length < R) :
  iter F R (st 0)=if zv_ p l < 0 then outN else outS (zv_ p l):=by
 have:∀ (d i:Nat),i+d=l.length→∀ R,d < R→iter F R (st i)=(match (l.drop i).findIdx? p with | some k=>outS ((i+k:Nat):Int) | none=>outN):=by
  intro d
  induction d with
  | zero =>
   intro i hi R hR
   cases R with
   | zero=>omega
   | succ R =>
    rw [Nat.add_zero] at hi
    subst hi
    rw [List.drop_length]
    exact fin _
  | succ d ih =>
   intro i hi R hR
   cases R with
   | zero=>omega
   | succ R =>
    have hlt:i < l.length:=by omega
    unfold iter
    rw [step i (by omega),List.drop_eq_getElem_cons hlt,List.findIdx?_cons,zm_ hlt]
    cases hp:p l[i] with
    | true=>simp
    | false =>
     simp only [Bool.false_eq_true,if_false]
     rw [ih (i+1) (by omega) R (by omega)]
     cases (l.drop (i+1)).findIdx? p with
     | none=>rfl
     | some k=>simp [Int.add_assoc,Int.add_comm 1]
 have h:=this l.length 0 (by omega) R hR
 rw [h,List.drop_zero]
 unfold zv_
 cases l.findIdx? p with
 | none=>rfl
 | some i =>
  show outS ((0+i:Nat):Int)=if (i:Int) < 0 then outN else outS (i:Int)
  rw [if_neg (by omega),Nat.zero_add]
theorem aqb_ {α γ β σ:Type} [Inhabited α] {F:(σ→Option β)→σ→Option β} (l:List α) (st:Nat→γ→σ) (g:γ→α→γ) (out:γ→Option β) (c:γ) (Inv:Nat→γ→Prop) (h0:Inv 0 c)
  (step:∀ (i:Nat) c,(i:Int) < (l.length:Int)→Inv i c→Inv (i+1) (g c (gt l i))∧∀ s,F s (st i c)=s (st (i+1) (g c (gt l i)))) (fin:∀ c s,Inv l.length c→F s (st l.length c)=out c) {R:Nat} (hR:l.length < R) :
  iter F R (st 0 c)=out (l.foldl g c):=by
 have:∀ (d i:Nat) (c:γ),i+d=l.length→Inv i c→∀ R,d < R→iter F R (st i c)=out ((l.drop i).foldl g c):=by
  intro d
  induction d with
  | zero =>
   intro i c hi hc R hR
   cases R with
   | zero=>omega
   | succ R =>
    rw [Nat.add_zero] at hi
    subst hi
    rw [List.drop_length]
    exact fin _ _ hc
  | succ d ih =>
   intro i c hi hc R hR
   cases R with
   | zero=>omega
   | succ R =>
    have hlt:i < l.length:=by omega
    unfold iter
    obtain ⟨h1,h2⟩:=step i c (by omega) hc
    rw [h2,List.drop_eq_getElem_cons hlt,List.foldl_cons,ih (i+1) _ (by omega) h1 R (by omega),zm_ hlt]
 have h:=this l.length 0 c (by omega) h0 R hR
 simpa using h
theorem aHh_ {γ β σ:Type} {F:(σ→Option β)→σ→Option β} (n:Nat) (st:Nat→γ→σ) (g:γ→Nat→γ) (out:γ→Option β) (c:γ) (Inv:Nat→γ→Prop) (h0:Inv 0 c)
  (step:∀ (i:Nat) c,(i:Int) < (n:Int)→Inv i c→Inv (i+1) (g c i)∧∀ s,F s (st i c)=s (st (i+1) (g c i))) (fin:∀ c s,Inv n c→F s (st n c)=out c) {R:Nat} (hR:n < R) :
  iter F R (st 0 c)=out ((List.range n).foldl g c):=by
 have hl:(List.range n).length=n:=List.length_range
 refine aqb_ (List.range n) st g out c Inv h0 (fun i c hi hc=>?_) (fun c s hc=>?_) (by rw [hl];exact hR)
 ·rw [hl] at hi
  rw [zm_ (by rw [hl];omega),List.getElem_range]
  exact step i c hi hc
 ·rw [hl] at hc ⊢
  exact fin c s hc
theorem w0_ {α β:Type} (p:α→Bool) (f:α→β) (l:List α) (acc:List β):l.foldl (fun c a=>if p a=true then c++[f a] else c) acc=acc++(l.filter p).map f:=by
 induction l generalizing acc with
 | nil=>simp
 | cons a l ih =>
  rw [List.foldl_cons,ih]
  cases h:p a <;> simp [h,List.filter_cons]
theorem foldl_map {α β:Type} (f:α→β) (l:List α) (acc:List β):l.foldl (fun c a=>c++[f a]) acc=acc++l.map f:=by
 induction l generalizing acc with
 | nil=>simp
 | cons a l ih=>rw [List.foldl_cons,ih];simp
theorem wn_ {β σ:Type} {F:(σ→Option β)→σ→Option β} {R:Nat} {x:σ} (n:Nat) (st:Nat→σ) (p:Nat→Bool) {outT outF:Option β} (hx:x=st 0) (hR:n < R)
  (step:∀ i:Nat,(i:Int) < (n:Int)→∀ s,F s (st i)=if p i=true then s (st (i+1)) else outF) (fin:∀ s,F s (st n)=outT) :
  iter F R x=if allB n p=true then outT else outF:=by rw [hx];exact acy_ n st p step fin hR
theorem w9_ {α β σ:Type} [Inhabited α] {F:(σ→Option β)→σ→Option β} {R:Nat} {x:σ} (l:List α) (st:Nat→σ) (p:α→Bool) (outS:Int→Option β) {outN:Option β} (hx:x=st 0) (hR:l.length < R)
  (step:∀ i:Nat,(i:Int) < (l.length:Int)→∀ s,F s (st i)=if p (gt l i)=true then outS i else s (st (i+1))) (fin:∀ s,F s (st l.length)=outN) :
  iter F R x=if zv_ p l < 0 then outN else outS (zv_ p l):=by rw [hx];exact ahq_ l st p outS step fin hR
theorem zg_ {α γ β σ:Type} [Inhabited α] {F:(σ→Option β)→σ→Option β} {R:Nat} {x:σ} (l:List α) (st:Nat→γ→σ) (g:γ→α→γ) (out:γ→Option β) (c:γ) (Inv:Nat→γ→Prop) (hx:x=st 0 c) (hR:l.length < R) (h0:Inv 0 c)
  (step:∀ (i:Nat) c,(i:Int) < (l.length:Int)→Inv i c→Inv (i+1) (g c (gt l i))∧∀ s,F s (st i c)=s (st (i+1) (g c (gt l i)))) (fin:∀ c s,Inv l.length c→F s (st l.length c)=out c) :
  iter F R x=out (l.foldl g c):=by rw [hx];exact aqb_ l st g out c Inv h0 step fin hR
theorem yX_ {γ β σ:Type} {F:(σ→Option β)→σ→Option β} {R:Nat} {x:σ} (n:Nat) (st:Nat→γ→σ) (g:γ→Nat→γ) (out:γ→Option β) (c:γ) (Inv:Nat→γ→Prop) (hx:x=st 0 c) (hR:n < R) (h0:Inv 0 c)
  (step:∀ (i:Nat) c,(i:Int) < (n:Int)→Inv i c→Inv (i+1) (g c i)∧∀ s,F s (st i c)=s (st (i+1) (g c i))) (fin:∀ c s,Inv n c→F s (st n c)=out c) :
  iter F R x=out ((List.range n).foldl g c):=by rw [hx];exact aHh_ n st g out c Inv h0 step fin hR
theorem jI_ {α γ:Type} [Inhabited α] {l:List α} {g:γ→α→γ} {c:γ} {Inv:Nat→γ→Prop} (h0:Inv 0 c) (step:∀ (i:Nat) c,(i:Int) < (l.length:Int)→Inv i c→Inv (i+1) (g c (gt l i))):Inv l.length (l.foldl g c):=by
 have:∀ (d i:Nat) (c:γ),i+d=l.length→Inv i c→Inv l.length ((l.drop i).foldl g c):=by
  intro d
  induction d with
  | zero=>intro i c hi hc;rw [Nat.add_zero] at hi;subst hi;rw [List.drop_length];exact hc
  | succ d ih =>
   intro i c hi hc
   have hlt:i < l.length:=by omega
   rw [List.drop_eq_getElem_cons hlt,List.foldl_cons]
   have:=step i c (by omega) hc
   rw [zm_ hlt] at this
   exact ih (i+1) _ (by omega) this
 have h:=this l.length 0 c (by omega) h0
 simpa using h
theorem aOk_ (n:Nat):(n:Int).tmod 2=((n % 2:Nat):Int):=rfl
theorem zb_ {n:Nat} (h:n≤1048576):n < rounds:=by unfold rounds;omega
def runE {γ:Type} (ok:Nat→γ→Bool) (g:γ→Nat→γ) (n:Nat) (c:γ):Option γ:=(List.range n).foldl (fun o i=>o.bind fun c=>if ok i c=true then some (g c i) else none) (some c)
theorem asg_ {γ:Type} (ok:Nat→γ→Bool) (g:γ→Nat→γ) (l:List Nat):l.foldl (fun o i=>o.bind fun c=>if ok i c=true then some (g c i) else none) (none:Option γ)=none:=by
 induction l with
 | nil=>rfl
 | cons i l ih=>exact ih
theorem akw_ {γ β σ:Type} {F:(σ→Option β)→σ→Option β} {R:Nat} {x:σ} (n:Nat) (st:Nat→γ→σ) (ok:Nat→γ→Bool) (g:γ→Nat→γ) (out:γ→Option β) {outF:Option β} (c:γ) (Inv:Nat→γ→Prop) (hx:x=st 0 c) (hR:n < R) (h0:Inv 0 c)
  (step:∀ (i:Nat) c,(i:Int) < (n:Int)→Inv i c→(ok i c=true→Inv (i+1) (g c i))∧∀ s,F s (st i c)=if ok i c=true then s (st (i+1) (g c i)) else outF) (fin:∀ c s,Inv n c→F s (st n c)=out c) :
  iter F R x=match runE ok g n c with | some c=>out c | none=>outF:=by
 subst hx
 have:∀ (d i:Nat) (c:γ),i+d=n→Inv i c→∀ R,d < R→iter F R (st i c)=match ((List.range n).drop i).foldl (fun o i=>o.bind fun c=>if ok i c=true then some (g c i) else none) (some c) with | some c=>out c | none=>outF:=by
  intro d
  induction d with
  | zero =>
   intro i c hi hc R hR
   cases R with
   | zero=>omega
   | succ R =>
    rw [Nat.add_zero] at hi
    subst hi
    rw [List.drop_eq_nil_iff.2 (by simp)]
    exact fin _ _ hc
  | succ d ih =>
   intro i c hi hc R hR
   cases R with
   | zero=>omega
   | succ R =>
    have hlt:i < (List.range n).length:=by simp;omega
    unfold iter
    obtain ⟨h1,h2⟩:=step i c (by omega) hc
    rw [h2,List.drop_eq_getElem_cons hlt,List.foldl_cons,List.getElem_range]
    cases hp:ok i c with
    | true =>
     simp only [if_true,Option.bind_some,hp]
     exact ih (i+1) _ (by omega) (h1 hp) R (by omega)
    | false =>
     simp only [Bool.false_eq_true,if_false,Option.bind_some,hp,asg_]
 have h:=this n 0 c (by omega) h0 R hR
 simpa [runE] using h
theorem ayg_ {γ:Type} {ok:Nat→γ→Bool} {g:γ→Nat→γ} (P:γ→Bool) {n:Nat} {c:γ} (hmono:∀ c i,P (g c i)=true→P c=true) (hok:∀ i c,i < n→P c=true→ok i c=P (g c i)) (h:P c=true) :
  runE ok g n c=if P ((List.range n).foldl g c)=true then some ((List.range n).foldl g c) else none:=by
 have:∀ (l:List Nat) (c:γ),(∀ i∈l,i < n)→P c=true→l.foldl (fun o i=>o.bind fun c=>if ok i c=true then some (g c i) else none) (some c)=if P (l.foldl g c)=true then some (l.foldl g c) else none:=by
  intro l
  induction l with
  | nil=>intro c _ hc;simp [hc]
  | cons i l ih =>
   intro c hl hc
   rw [List.foldl_cons,List.foldl_cons,Option.bind_some,hok i c (hl i (.head _)) hc]
   cases hp:P (g c i) with
   | true=>rw [if_pos rfl];exact ih _ (fun j hj=>hl j (.tail _ hj)) hp
   | false =>
    rw [if_neg (by simp),asg_]
    have:P (l.foldl g (g c i))=false:=by
     have hm:∀ (l:List Nat) (c:γ),P (l.foldl g c)=true→P c=true:=by
      intro l
      induction l with
      | nil=>exact fun c h=>h
      | cons j l ih=>exact fun c h=>hmono _ _ (ih _ h)
     cases hq:P (l.foldl g (g c i)) with
     | false=>rfl
     | true=>rw [hm _ _ hq] at hp;cases hp
    simp [this]
 exact this _ c (fun i hi=>by simpa using hi) h
theorem qw_ {α:Type} (p:α→Bool) (l:List α) (acc:List α):l.foldl (fun c a=>if p a=true then c++[a] else c) acc=acc++l.filter p:=by
 induction l generalizing acc with
 | nil=>simp
 | cons a l ih =>
  rw [List.foldl_cons,ih]
  cases h:p a <;> simp [h,List.filter_cons]
def ps0:=(And.intro (And.intro (And.intro (And.intro (@za_ T (List T)) (And.intro trivial @aOl_)) (And.intro trivial (And.intro @aR0_ @aRu_))) (And.intro (And.intro trivial (And.intro trivial @aR9_)) (And.intro @aR1_ (And.intro @aR2_ trivial)))) (And.intro (And.intro (And.intro trivial (And.intro trivial trivial)) (And.intro trivial (And.intro trivial trivial))) (And.intro (And.intro trivial (And.intro @aOa_ @aOh_)) (And.intro @aN7_ (And.intro @aOg_ @aOi_)))))
def ps1:=(And.intro (And.intro (And.intro (And.intro @aN9_ (And.intro @aOd_ trivial)) (And.intro trivial (And.intro @aJw_ trivial))) (And.intro (And.intro trivial (And.intro trivial trivial)) (And.intro trivial (And.intro trivial jn_s)))) (And.intro (And.intro (And.intro aOb_ (And.intro (fun (p:Prop) (_:Decidable p)=>@decide_eq_true_eq p _) Bool.and_eq_true)) (And.intro Bool.or_eq_true (And.intro aRm_ aRj_))) (And.intro (And.intro aR5_ (And.intro aO1_ aPq_)) (And.intro @aC8_ (And.intro aPw_ @aC7_)))))
def ps2:=(And.intro (And.intro (And.intro (And.intro @xH_ (And.intro @aJl_ @aK0_)) (And.intro @aHi_ (And.intro @apk_ @afs_))) (And.intro (And.intro @ug_ (And.intro @ae5_ @aQw_)) (And.intro aNy_ (And.intro aPb_ aPv_)))) (And.intro (And.intro (And.intro an3_ (And.intro awc_ axm_)) (And.intro @vR_ (And.intro ahf_ awd_))) (And.intro (And.intro @aCw_ (And.intro @ud_ aOu_)) (And.intro aPo_ (And.intro aNo_ @aPj_)))))
def ps3:=(And.intro (And.intro (And.intro (And.intro acs_ (And.intro avy_ ajj_)) (And.intro aQq_ (And.intro aQ2_ aRh_))) (And.intro (And.intro aQi_ (And.intro aQv_ aQz_)) (And.intro aCu_ (And.intro aCp_ aMb_)))) (And.intro (And.intro (And.intro aHd_ (And.intro @aN4_ (fun (k:Nat)=>@Int.toNat_natCast k))) (And.intro (fun (α:Type) (f:α→List T) (l:List α)=>@List.length_map α (List T) l f) (And.intro aMu_ aI1_))) (And.intro (And.intro trivial (And.intro aMx_ aPa_)) (And.intro aPx_ (And.intro aH3_ aLw_)))))
def ps4:=(And.intro (And.intro (And.intro (And.intro aOw_ (And.intro trivial trivial)) (And.intro trivial (And.intro @aFb_ @azn_))) (And.intro (And.intro @aq1_ (And.intro @ao0_ @ai8_)) (And.intro @afn_ (And.intro @xy_ @aqt_)))) (And.intro (And.intro (And.intro @xk_ (And.intro @aja_ @aNv_)) (And.intro @aLy_ (And.intro @aO2_ @aMr_))) (And.intro (And.intro @aBg_ (And.intro @aw3_ @ao7_)) (And.intro @anw_ (And.intro @afy_ @adf_)))))
def ps5:=(And.intro (And.intro (And.intro (And.intro @arh_ (And.intro @aoq_ @ajf_)) (And.intro @afv_ (And.intro @aKo_ @aJ3_))) (And.intro (And.intro @aLj_ (And.intro @aKw_ @aA2_)) (And.intro @awl_ (And.intro @az4_ @awt_)))) (And.intro (And.intro (And.intro @aBx_ (And.intro @av5_ @azh_)) (And.intro @awa_ (And.intro @aqf_ @an1_))) (And.intro (And.intro @af2_ (And.intro @ada_ @are_)) (And.intro @aqi_ (And.intro @aje_ @afp_)))))
def ps6:=(And.intro (And.intro (And.intro (And.intro @aIn_ (And.intro @aKk_ @aL5_)) (And.intro @aJo_ (And.intro @avh_ @as3_))) (And.intro (And.intro @aui_ (And.intro @as4_ @awv_)) (And.intro @ata_ (And.intro @aw5_ @as7_)))) (And.intro (And.intro (And.intro @anr_ (And.intro @al0_ @adc_)) (And.intro @ac1_ (And.intro @aoy_ @an0_))) (And.intro (And.intro @afl_ (And.intro @ad5_ @aFf_)) (And.intro @aDe_ (And.intro trivial trivial)))))
def ps7:=(And.intro (And.intro (And.intro (And.intro trivial (And.intro trivial trivial)) (And.intro trivial (And.intro trivial trivial))) (And.intro (And.intro trivial (And.intro trivial trivial)) (And.intro trivial (And.intro trivial trivial)))) (And.intro (And.intro (And.intro @aB8_ (And.intro @ava_ @ay2_)) (And.intro @av2_ (And.intro @an6_ @am6_))) (And.intro (And.intro @af7_ (And.intro @ad6_ @aqn_)) (And.intro @aoi_ (And.intro @ai7_ @af4_)))))
def ps8:=(And.intro (And.intro (And.intro (And.intro @aJm_ (And.intro @aKv_ @aLk_)) (And.intro @aIw_ (And.intro @aEs_ @azy_))) (And.intro (And.intro @aFy_ (And.intro @aAn_ @aDy_)) (And.intro @aAy_ (And.intro @aDg_ @aB9_)))) (And.intro (And.intro (And.intro @aD6_ (And.intro @aB5_ @aE3_)) (And.intro @aJ5_ (And.intro @aDk_ @ay9_))) (And.intro (And.intro @aF7_ (And.intro @aBo_ @aqx_)) (And.intro @apw_ (And.intro @uM_ @af8_)))))
def ps9:=(And.intro (And.intro (And.intro (And.intro @aLx_ (And.intro @aMk_ @aC0_)) (And.intro @aMj_ (And.intro @aG8_ @aBp_))) (And.intro (And.intro @aG5_ (And.intro @aB0_ @aG7_)) (And.intro @aIq_ (And.intro @wF_ @apc_)))) (And.intro (And.intro (And.intro @wA_ (And.intro @wp_ @aMz_)) (And.intro @aLm_ (And.intro @aO0_ @aM4_))) (And.intro (And.intro @awi_ (And.intro @atp_ @au1_)) (And.intro @as8_ (And.intro @avv_ @atf_)))))
def ps10:=(And.intro (And.intro (And.intro (And.intro @aws_ (And.intro @ate_ @axi_)) (And.intro @att_ (And.intro @ayl_ @ay3_))) (And.intro (And.intro @anb_ (And.intro @alz_ @adu_)) (And.intro @ab0_ (And.intro @aDi_ @aGb_)))) (And.intro (And.intro (And.intro @aIa_ (And.intro @aFn_ @aAd_)) (And.intro @av1_ (And.intro @aA0_ @awm_))) (And.intro (And.intro @az9_ (And.intro @auy_ @aBe_)) (And.intro @aGx_ (And.intro @aAg_ @aEb_)))))
def ps11:=(And.intro (And.intro (And.intro (And.intro @azf_ (And.intro @aFe_ @aBv_)) (And.intro @aGc_ (And.intro @app_ @am4_))) (And.intro (And.intro @af3_ (And.intro @ac9_ @aKn_)) (And.intro @aK5_ (And.intro @aMf_ @aH6_)))) (And.intro (And.intro (And.intro @aEv_ (And.intro @az2_ @aF6_)) (And.intro @aza_ (And.intro @aEj_ @aBf_))) (And.intro (And.intro @aFj_ (And.intro @azc_ @aqm_)) (And.intro @ao4_ (And.intro @ai9_ @afi_)))))
def ps12:=(And.intro (And.intro (And.intro (And.intro @as5_ (And.intro @arf_ @ak0_)) (And.intro @ai6_ (And.intro @aMh_ @aN3_))) (And.intro (And.intro @aQf_ (And.intro @aLg_ trivial)) (And.intro trivial (And.intro trivial trivial)))) (And.intro (And.intro (And.intro trivial (And.intro trivial trivial)) (And.intro trivial (And.intro trivial trivial))) (And.intro (And.intro trivial (And.intro trivial trivial)) (And.intro trivial (And.intro trivial trivial)))))
def ps13:=(And.intro (And.intro (And.intro (And.intro trivial (And.intro trivial trivial)) (And.intro trivial (And.intro trivial trivial))) (And.intro (And.intro trivial (And.intro trivial trivial)) (And.intro trivial (And.intro trivial trivial)))) (And.intro (And.intro (And.intro trivial (And.intro trivial trivial)) (And.intro trivial (And.intro trivial trivial))) (And.intro (And.intro trivial (And.intro trivial trivial)) (And.intro trivial (And.intro trivial trivial)))))
def ps14:=(And.intro (And.intro (And.intro (And.intro trivial (And.intro trivial trivial)) (And.intro trivial (And.intro trivial trivial))) (And.intro (And.intro trivial (And.intro trivial trivial)) (And.intro trivial (And.intro trivial trivial)))) (And.intro (And.intro (And.intro trivial (And.intro trivial trivial)) (And.intro trivial (And.intro trivial trivial))) (And.intro (And.intro trivial (And.intro trivial trivial)) (And.intro trivial (And.intro trivial trivial)))))
def ps15:=(And.intro (And.intro (And.intro trivial trivial) (And.intro trivial trivial)) (And.intro (And.intro trivial trivial) (And.intro trivial trivial)))
def pq:=(And.intro (And.intro (And.intro (And.intro (And.intro pv_s jn_s) (And.intro aOb_ (And.intro Yz_s Ya_s))) (And.intro (And.intro Yb_s (And.intro Yl_s Ye_s)) (And.intro Yn_s (And.intro Yt_s Yp_s)))) (And.intro (And.intro (And.intro Yo_s (And.intro Yu_s Yg_s)) (And.intro Ym_s (And.intro Yh_s Ys_s))) (And.intro (And.intro Yv_s (And.intro Yw_s Yx_s)) (And.intro Yy_s (And.intro Yc_s Yq_s))))) (And.intro (And.intro (And.intro (And.intro Y1_s Y2_s) (And.intro Y3_s (And.intro Y4_s Y6_s))) (And.intro (And.intro Y8_s (And.intro trivial @aOa_)) (And.intro @aOh_ (And.intro @aN7_ @aOg_)))) (And.intro (And.intro (And.intro @aOi_ (And.intro @aN9_ @aOd_)) (And.intro trivial (And.intro trivial @aJw_))) (And.intro (And.intro trivial (And.intro trivial trivial)) (And.intro trivial (And.intro trivial trivial))))))
def ps:=(And.intro (And.intro (And.intro (And.intro ps0 ps1) (And.intro ps2 ps3)) (And.intro (And.intro ps4 ps5) (And.intro ps6 ps7))) (And.intro (And.intro (And.intro ps8 ps9) (And.intro ps10 ps11)) (And.intro (And.intro ps12 ps13) (And.intro ps14 ps15))))
end Go.Proofs.YtiebbbmibbkpcaaGreatC

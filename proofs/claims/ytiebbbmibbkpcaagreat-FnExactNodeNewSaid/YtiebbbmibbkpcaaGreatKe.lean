/- The walk by reflection: a part of its laws, for any function. Conditions: none. -/
import Derived.Test.YtiebbbmibbkpcaaGreatKd
namespace Go.Proofs.YtiebbbmibbkpcaaGreatC
set_option linter.unusedVariables false
set_option linter.unusedSimpArgs false
set_option linter.defProp false
theorem pz:(∀ p:Prop,(p∨p)=p)∧(∀ p:Prop,(p∨True)=True)∧(∀ p:Prop,(True∨p)=True)∧(∀ p:Prop,(p∨False)=p)∧(∀ p:Prop,(False∨p)=p)∧(¬ True)=False∧(¬ False)=True∧(∀ a:Int,(a < a)=False) :=
 ⟨or_self,or_true,true_or,or_false,false_or,not_true_eq_false,not_false_eq_true,fun a=>eq_false (Int.lt_irrefl a)⟩
@[congr] theorem aS7_ {α β:Type} {F:(α→Option β)→α→Option β} {R:Nat} {x y:α} (h:x=y):iter F R x=iter F R y:=by rw [h]
@[congr] theorem aS6_ {α β:Type} {o o':Option α} {f:α→Option β} (h:o=o'):o.bind f=o'.bind f:=by rw [h]
@[congr] theorem aTj_ {t t':T} {x y:Option (List T)} (h:t=t'):ifT t x y=ifT t' x y:=by rw [h]
@[congr] theorem aTm_ {k:Sem1} {b:Sem1→Option (List T)}:jn k b=jn k b:=rfl
@[congr] theorem aTc_ {o o':Option (List T)} {k:T→Option (List T)} (h:o=o'):cl1 o k=cl1 o' k:=by rw [h]
@[congr] theorem aTh_ {k:T→Option (List T)} {l l':List T} (h:l=l'):ar1 k l=ar1 k l':=by rw [h]
@[congr] theorem aS9_ {k:T→T→Option (List T)} {l l':List T} (h:l=l'):ar2 k l=ar2 k l':=by rw [h]
@[congr] theorem aS8_ {o o':Option (List T)} {k:T→T→T→Option (List T)} (h:o=o'):cl3 o k=cl3 o' k:=by rw [h]
@[congr] theorem aTf_ {k:T→T→T→Option (List T)} {l l':List T} (h:l=l'):ar3 k l=ar3 k l':=by rw [h]
@[congr] theorem aTe_ {o o':Option (List T)} {k:T→T→T→T→Option (List T)} (h:o=o'):cl4 o k=cl4 o' k:=by rw [h]
@[congr] theorem aTl_ {k:T→T→T→T→Option (List T)} {l l':List T} (h:l=l'):ar4 k l=ar4 k l':=by rw [h]
@[congr] theorem aTa_ {k:T→T→T→T→T→Option (List T)} {l l':List T} (h:l=l'):ar5 k l=ar5 k l':=by rw [h]
@[congr] theorem aTg_ {k:T→T→T→T→T→T→Option (List T)} {l l':List T} (h:l=l'):ar6 k l=ar6 k l':=by rw [h]
@[congr] theorem aTk_ {o o':Option (List T)} {k:T→T→T→T→T→T→T→Option (List T)} (h:o=o'):cl7 o k=cl7 o' k:=by rw [h]
@[congr] theorem aTi_ {k:T→T→T→T→T→T→T→Option (List T)} {l l':List T} (h:l=l'):ar7 k l=ar7 k l':=by rw [h]
@[congr] theorem aTb_ {o o':Option (List T)} {k:T→T→T→T→T→T→T→T→Option (List T)} (h:o=o'):cl8 o k=cl8 o' k:=by rw [h]
@[congr] theorem aTd_ {o o':Option (List T)} {k:T→T→T→T→T→T→T→T→T→Option (List T)} (h:o=o'):cl9 o k=cl9 o' k:=by rw [h]
@[congr] theorem aS5_ {k:T→T→T→T→T→T→T→T→T→T→Option (List T)} {l l':List T} (h:l=l'):ar10 k l=ar10 k l':=by rw [h]
theorem aOx_ (b:Bool) (x y:Option (List T)):ifT (bb b) x y=if b=true then x else y:=by cases b <;> rfl
theorem aQa_:Prim.ev .len [.l []]=some (ii 0):=rfl
theorem aNe_ (a b:Int) (h:b≠0):Prim.ev (.bin .rem) [ii a,ii b]=some (ii (a.tmod b)):=by
 simp only [Prim.ev,T.val,binV,Option.bind_some,if_true,h,if_false]
theorem aQt_ (a b:Int):Prim.ev .mx [ii a,ii b]=some (ii (if b > a then b else a)):=rfl
theorem aQo_ (a b:Int):Prim.ev .mn [ii a,ii b]=some (ii (if b < a then b else a)):=rfl
theorem aQg_ (a b c d a' b' c' d':Int):Prim.ev (.eqs [1,1,1,1]) [ii a,ii b,ii c,ii d,ii a',ii b',ii c',ii d']=some (bb (a == a' && (b == b' && (c == c' && (d == d'))))):=by
 simp [Prim.ev,eqT,eqV]
theorem aNj_ (a b c a' b' c':Int) (d d':Bool):Prim.ev (.eqs [1,1,1,4]) [ii a,ii b,ii c,bb d,ii a',ii b',ii c',bb d']=some (bb (a == a' && (b == b' && (c == c' && (d == d'))))):=by
 simp [Prim.ev,eqT,eqV]
theorem aQ2_ {w:Nat} (h:0 < w):Prim.ev (.lit w []) []=some (.l []):=by
 simp [Prim.ev,vJ_,x8_,h]
theorem aM8_ (a b:Int):Prim.ev (.lit 1 [true,true]) [ii a,ii b]=some (.l ([a,b].map eInt)):=by simp [Prim.ev,vJ_,x8_,scal,eInt]
theorem aLi_ (a b:Int):Prim.ev (.lit 1 []) [ii a,ii b]=some (.l ([a,b].map eInt)):=by simp [Prim.ev,vJ_,x8_,eInt]
theorem aMj_ {l:List Int} {x y:Int} (h:l.length < 4294967294):Prim.ev (.app true 1) [.l (l.map eInt),.l ([x,y].map eInt)]=some (.l ((l++[x,y]).map eInt)):=xn_ (by simp;omega)
theorem aQx_ (a b:Int):((a == b)=true)=(a=b):=by simp
theorem aPk_ (a b:Int):((a != b)=true)=¬ (a=b):=by simp
theorem aSs_ (b:Bool):((!b)=true)=¬ (b=true):=by simp
theorem aSw_ (a b:Bool):((a != b)=true)=¬ ((a=true)=(b=true)):=by cases a <;> cases b <;> simp
theorem aSy_ (a b:Bool):((a == b)=true)=((a=true)=(b=true)):=by cases a <;> cases b <;> simp
theorem ac0_ (a b:Nat):((a+b:Nat):Int)=(a:Int)+b:=by simp
theorem ak1_:((1:Nat):Int)=1:=rfl
theorem aRf_:((2:Nat):Int)=2:=rfl
theorem aRd_:((3:Nat):Int)=3:=rfl
theorem aRm_:((5:Nat):Int)=5:=rfl
theorem aRu_:((6:Nat):Int)=6:=rfl
theorem aRq_:((7:Nat):Int)=7:=rfl
theorem aRw_:((9:Nat):Int)=9:=rfl
theorem axb_:((0:Nat):Int)=0:=rfl
theorem apw_ {α:Type} {p q:Prop} [Decidable p] [Decidable q] (h:p↔q) (x y:α):(if p then x else y)=if q then x else y:=by
 by_cases hq:q
 ·rw [if_pos (h.2 hq),if_pos hq]
 ·rw [if_neg (fun hp=>hq (h.1 hp)),if_neg hq]
def allB (n:Nat) (p:Nat→Bool):Bool:=(List.range n).all p
theorem allB_iff {n:Nat} {p:Nat→Bool}:allB n p=true↔∀ i,i < n→p i=true:=by
 simp [allB]
theorem aci_ {β σ:Type} {F:(σ→Option β)→σ→Option β} (n:Nat) (st:Nat→σ) (p:Nat→Bool) {outT outF:Option β}
  (step:∀ i:Nat,(i:Int) < (n:Int)→∀ s,F s (st i)=if p i=true then s (st (i+1)) else outF) (fin:∀ s,F s (st n)=outT) {R:Nat} (hR:n < R) :
  iter F R (st 0)=if allB n p=true then outT else outF:=by
 classical
 have:∀ (d i:Nat),i+d=n→∀ R,d < R→iter F R (st i)=if (∀ j,i≤j→j < n→p j=true) then outT else outF:=by
  intro d
  induction d with
  | zero =>
   intro i hi R hR
   cases R with
   | zero=>omega
   | succ R =>
    have hi:i=n:=hi
    subst hi
    rw [if_pos (fun j h1 h2=>absurd h1 (by omega))]
    exact fin _
  | succ d ih =>
   intro i hi R hR
   cases R with
   | zero=>omega
   | succ R =>
    unfold iter
    rw [step i (by omega)]
    by_cases hp:p i=true
    ·rw [if_pos hp,ih (i+1) (by omega) R (by omega)]
     refine apw_ ⟨fun h j h1 h2=>?_,fun h j h1 h2=>h j (by omega) h2⟩ _ _
     rcases Nat.lt_or_ge i j with h3 | h3
     ·exact h j h3 h2
     ·have:j=i:=by omega
      subst this;exact hp
    ·rw [if_neg hp,if_neg fun h=>hp (h i (Nat.le_refl i) (by omega))]
 rw [this n 0 (by omega) R hR]
 exact apw_ ⟨fun h=>allB_iff.2 fun i hi=>h i (Nat.zero_le i) hi,fun h j _ h2=>allB_iff.1 h j h2⟩ _ _
def zu_ {α:Type} (p:α→Bool) (l:List α):Int:=match l.findIdx? p with | some i=>(i:Int) | none=>-1
theorem x7_ {α:Type} (p:α→Bool) (l:List α):zu_ p l < l.length:=by
 unfold zu_
 cases h:l.findIdx? p with
 | none=>show (-1:Int) < _;omega
 | some i =>
  obtain ⟨h1,_⟩:=List.findIdx?_eq_some_iff_getElem.1 h
  show (i:Int) < _;omega
theorem aNx_ {α:Type} (p:α→Bool) (l:List α):-1≤zu_ p l:=by
 unfold zu_
 cases h:l.findIdx? p with
 | none=>show (-1:Int)≤-1;omega
 | some i=>show (-1:Int)≤(i:Int);omega
theorem xv_ {α:Type} [Inhabited α] (p:α→Bool) (l:List α) (h:0≤zu_ p l):p (gt l (zu_ p l))=true:=by
 unfold zu_ at h ⊢
 cases h':l.findIdx? p with
 | none=>rw [h'] at h;exact absurd h (by decide)
 | some i =>
  obtain ⟨h1,h2,_⟩:=List.findIdx?_eq_some_iff_getElem.1 h'
  show p (gt l (i:Int))=true
  rw [zm_ h1];exact h2
theorem w5_ {α:Type} (p:α→Bool) (l:List α):zu_ p l < 0↔∀ x∈l,p x=false:=by
 unfold zu_
 cases h:l.findIdx? p with
 | none =>
  rw [List.findIdx?_eq_none_iff] at h
  exact ⟨fun _=>h,fun _=>by show (-1:Int) < 0;decide⟩
 | some i =>
  obtain ⟨h1,h2,_⟩:=List.findIdx?_eq_some_iff_getElem.1 h
  refine ⟨fun h3=>absurd (show (i:Int) < 0 from h3) (by omega),fun h3=>?_⟩
  rw [h3 _ (List.getElem_mem h1)] at h2
  cases h2
theorem ago_ {α β σ:Type} [Inhabited α] {F:(σ→Option β)→σ→Option β} (l:List α) (st:Nat→σ) (p:α→Bool) (outS:Int→Option β) {outN:Option β}
  (step:∀ i:Nat,(i:Int) < (l.length:Int)→∀ s,F s (st i)=if p (gt l i)=true then outS i else s (st (i+1))) (fin:∀ s,F s (st l.length)=outN) {R:Nat} (hR:l.length < R) :
  iter F R (st 0)=if zu_ p l < 0 then outN else outS (zu_ p l):=by
 have:∀ (d i:Nat),i+d=l.length→∀ R,d < R→iter F R (st i)=(match (l.drop i).findIdx? p with | some k=>outS ((i+k:Nat):Int) | none=>outN):=by
  intro d
  induction d with
  | zero =>
   intro i hi R hR
   cases R with
   | zero=>omega
   | succ R =>
    rw [Nat.add_zero] at hi
    subst hi
    rw [List.drop_length]
    exact fin _
  | succ d ih =>
   intro i hi R hR
   cases R with
   | zero=>omega
   | succ R =>
    have hlt:i < l.length:=by omega
    unfold iter
    rw [step i (by omega),List.drop_eq_getElem_cons hlt,List.findIdx?_cons,zm_ hlt]
    cases hp:p l[i] with
    | true=>simp
    | false =>
     simp only [Bool.false_eq_true,if_false]
     rw [ih (i+1) (by omega) R (by omega)]
     cases (l.drop (i+1)).findIdx? p with
     | none=>rfl
     | some k=>simp [Int.add_assoc,Int.add_comm 1]
 have h:=this l.length 0 (by omega) R hR
 rw [h,List.drop_zero]
 unfold zu_
 cases l.findIdx? p with
 | none=>rfl
 | some i =>
  show outS ((0+i:Nat):Int)=if (i:Int) < 0 then outN else outS (i:Int)
  rw [if_neg (by omega),Nat.zero_add]
theorem apy_ {α γ β σ:Type} [Inhabited α] {F:(σ→Option β)→σ→Option β} (l:List α) (st:Nat→γ→σ) (g:γ→α→γ) (out:γ→Option β) (c:γ) (Inv:Nat→γ→Prop) (h0:Inv 0 c)
  (step:∀ (i:Nat) c,(i:Int) < (l.length:Int)→Inv i c→Inv (i+1) (g c (gt l i))∧∀ s,F s (st i c)=s (st (i+1) (g c (gt l i)))) (fin:∀ c s,Inv l.length c→F s (st l.length c)=out c) {R:Nat} (hR:l.length < R) :
  iter F R (st 0 c)=out (l.foldl g c):=by
 have:∀ (d i:Nat) (c:γ),i+d=l.length→Inv i c→∀ R,d < R→iter F R (st i c)=out ((l.drop i).foldl g c):=by
  intro d
  induction d with
  | zero =>
   intro i c hi hc R hR
   cases R with
   | zero=>omega
   | succ R =>
    rw [Nat.add_zero] at hi
    subst hi
    rw [List.drop_length]
    exact fin _ _ hc
  | succ d ih =>
   intro i c hi hc R hR
   cases R with
   | zero=>omega
   | succ R =>
    have hlt:i < l.length:=by omega
    unfold iter
    obtain ⟨h1,h2⟩:=step i c (by omega) hc
    rw [h2,List.drop_eq_getElem_cons hlt,List.foldl_cons,ih (i+1) _ (by omega) h1 R (by omega),zm_ hlt]
 have h:=this l.length 0 c (by omega) h0 R hR
 simpa using h
theorem aLl_ {γ β σ:Type} {F:(σ→Option β)→σ→Option β} (n:Nat) (st:Nat→γ→σ) (g:γ→Nat→γ) (out:γ→Option β) (c:γ) (Inv:Nat→γ→Prop) (h0:Inv 0 c)
  (step:∀ (i:Nat) c,(i:Int) < (n:Int)→Inv i c→Inv (i+1) (g c i)∧∀ s,F s (st i c)=s (st (i+1) (g c i))) (fin:∀ c s,Inv n c→F s (st n c)=out c) {R:Nat} (hR:n < R) :
  iter F R (st 0 c)=out ((List.range n).foldl g c):=by
 have hl:(List.range n).length=n:=List.length_range
 refine apy_ (List.range n) st g out c Inv h0 (fun i c hi hc=>?_) (fun c s hc=>?_) (by rw [hl];exact hR)
 ·rw [hl] at hi
  rw [zm_ (by rw [hl];omega),List.getElem_range]
  exact step i c hi hc
 ·rw [hl] at hc ⊢
  exact fin c s hc
theorem w7_ {α β:Type} (p:α→Bool) (f:α→β) (l:List α) (acc:List β):l.foldl (fun c a=>if p a=true then c++[f a] else c) acc=acc++(l.filter p).map f:=by
 induction l generalizing acc with
 | nil=>simp
 | cons a l ih =>
  rw [List.foldl_cons,ih]
  cases h:p a <;> simp [h,List.filter_cons]
theorem foldl_map {α β:Type} (f:α→β) (l:List α) (acc:List β):l.foldl (fun c a=>c++[f a]) acc=acc++l.map f:=by
 induction l generalizing acc with
 | nil=>simp
 | cons a l ih=>rw [List.foldl_cons,ih];simp
theorem wt_ {β σ:Type} {F:(σ→Option β)→σ→Option β} {R:Nat} {x:σ} (n:Nat) (st:Nat→σ) (p:Nat→Bool) {outT outF:Option β} (hx:x=st 0) (hR:n < R)
  (step:∀ i:Nat,(i:Int) < (n:Int)→∀ s,F s (st i)=if p i=true then s (st (i+1)) else outF) (fin:∀ s,F s (st n)=outT) :
  iter F R x=if allB n p=true then outT else outF:=by rw [hx];exact aci_ n st p step fin hR
theorem vi_ {α β σ:Type} [Inhabited α] {F:(σ→Option β)→σ→Option β} {R:Nat} {x:σ} (l:List α) (st:Nat→σ) (p:α→Bool) (outS:Int→Option β) {outN:Option β} (hx:x=st 0) (hR:l.length < R)
  (step:∀ i:Nat,(i:Int) < (l.length:Int)→∀ s,F s (st i)=if p (gt l i)=true then outS i else s (st (i+1))) (fin:∀ s,F s (st l.length)=outN) :
  iter F R x=if zu_ p l < 0 then outN else outS (zu_ p l):=by rw [hx];exact ago_ l st p outS step fin hR
theorem zg_ {α γ β σ:Type} [Inhabited α] {F:(σ→Option β)→σ→Option β} {R:Nat} {x:σ} (l:List α) (st:Nat→γ→σ) (g:γ→α→γ) (out:γ→Option β) (c:γ) (Inv:Nat→γ→Prop) (hx:x=st 0 c) (hR:l.length < R) (h0:Inv 0 c)
  (step:∀ (i:Nat) c,(i:Int) < (l.length:Int)→Inv i c→Inv (i+1) (g c (gt l i))∧∀ s,F s (st i c)=s (st (i+1) (g c (gt l i)))) (fin:∀ c s,Inv l.length c→F s (st l.length c)=out c) :
  iter F R x=out (l.foldl g c):=by rw [hx];exact apy_ l st g out c Inv h0 step fin hR
theorem yy_ {γ β σ:Type} {F:(σ→Option β)→σ→Option β} {R:Nat} {x:σ} (n:Nat) (st:Nat→γ→σ) (g:γ→Nat→γ) (out:γ→Option β) (c:γ) (Inv:Nat→γ→Prop) (hx:x=st 0 c) (hR:n < R) (h0:Inv 0 c)
  (step:∀ (i:Nat) c,(i:Int) < (n:Int)→Inv i c→Inv (i+1) (g c i)∧∀ s,F s (st i c)=s (st (i+1) (g c i))) (fin:∀ c s,Inv n c→F s (st n c)=out c) :
  iter F R x=out ((List.range n).foldl g c):=by rw [hx];exact aLl_ n st g out c Inv h0 step fin hR
theorem j0_ {α γ:Type} [Inhabited α] {l:List α} {g:γ→α→γ} {c:γ} {Inv:Nat→γ→Prop} (h0:Inv 0 c) (step:∀ (i:Nat) c,(i:Int) < (l.length:Int)→Inv i c→Inv (i+1) (g c (gt l i))):Inv l.length (l.foldl g c):=by
 have:∀ (d i:Nat) (c:γ),i+d=l.length→Inv i c→Inv l.length ((l.drop i).foldl g c):=by
  intro d
  induction d with
  | zero=>intro i c hi hc;rw [Nat.add_zero] at hi;subst hi;rw [List.drop_length];exact hc
  | succ d ih =>
   intro i c hi hc
   have hlt:i < l.length:=by omega
   rw [List.drop_eq_getElem_cons hlt,List.foldl_cons]
   have:=step i c (by omega) hc
   rw [zm_ hlt] at this
   exact ih (i+1) _ (by omega) this
 have h:=this l.length 0 c (by omega) h0
 simpa using h
theorem aO1_ (n:Nat):(n:Int).tmod 2=((n % 2:Nat):Int):=rfl
theorem zb_ {n:Nat} (h:n≤1048576):n < rounds:=by unfold rounds;omega
def runE {γ:Type} (ok:Nat→γ→Bool) (g:γ→Nat→γ) (n:Nat) (c:γ):Option γ:=(List.range n).foldl (fun o i=>o.bind fun c=>if ok i c=true then some (g c i) else none) (some c)
theorem ast_ {γ:Type} (ok:Nat→γ→Bool) (g:γ→Nat→γ) (l:List Nat):l.foldl (fun o i=>o.bind fun c=>if ok i c=true then some (g c i) else none) (none:Option γ)=none:=by
 induction l with
 | nil=>rfl
 | cons i l ih=>exact ih
theorem ajq_ {γ β σ:Type} {F:(σ→Option β)→σ→Option β} {R:Nat} {x:σ} (n:Nat) (st:Nat→γ→σ) (ok:Nat→γ→Bool) (g:γ→Nat→γ) (out:γ→Option β) {outF:Option β} (c:γ) (Inv:Nat→γ→Prop) (hx:x=st 0 c) (hR:n < R) (h0:Inv 0 c)
  (step:∀ (i:Nat) c,(i:Int) < (n:Int)→Inv i c→(ok i c=true→Inv (i+1) (g c i))∧∀ s,F s (st i c)=if ok i c=true then s (st (i+1) (g c i)) else outF) (fin:∀ c s,Inv n c→F s (st n c)=out c) :
  iter F R x=match runE ok g n c with | some c=>out c | none=>outF:=by
 subst hx
 have:∀ (d i:Nat) (c:γ),i+d=n→Inv i c→∀ R,d < R→iter F R (st i c)=match ((List.range n).drop i).foldl (fun o i=>o.bind fun c=>if ok i c=true then some (g c i) else none) (some c) with | some c=>out c | none=>outF:=by
  intro d
  induction d with
  | zero =>
   intro i c hi hc R hR
   cases R with
   | zero=>omega
   | succ R =>
    rw [Nat.add_zero] at hi
    subst hi
    rw [List.drop_eq_nil_iff.2 (by simp)]
    exact fin _ _ hc
  | succ d ih =>
   intro i c hi hc R hR
   cases R with
   | zero=>omega
   | succ R =>
    have hlt:i < (List.range n).length:=by simp;omega
    unfold iter
    obtain ⟨h1,h2⟩:=step i c (by omega) hc
    rw [h2,List.drop_eq_getElem_cons hlt,List.foldl_cons,List.getElem_range]
    cases hp:ok i c with
    | true =>
     simp only [if_true,Option.bind_some,hp]
     exact ih (i+1) _ (by omega) (h1 hp) R (by omega)
    | false =>
     simp only [Bool.false_eq_true,if_false,Option.bind_some,hp,ast_]
 have h:=this n 0 c (by omega) h0 R hR
 simpa [runE] using h
theorem ax9_ {γ:Type} {ok:Nat→γ→Bool} {g:γ→Nat→γ} (P:γ→Bool) {n:Nat} {c:γ} (hmono:∀ c i,P (g c i)=true→P c=true) (hok:∀ i c,i < n→P c=true→ok i c=P (g c i)) (h:P c=true) :
  runE ok g n c=if P ((List.range n).foldl g c)=true then some ((List.range n).foldl g c) else none:=by
 have:∀ (l:List Nat) (c:γ),(∀ i∈l,i < n)→P c=true→l.foldl (fun o i=>o.bind fun c=>if ok i c=true then some (g c i) else none) (some c)=if P (l.foldl g c)=true then some (l.foldl g c) else none:=by
  intro l
  induction l with
  | nil=>intro c _ hc;simp [hc]
  | cons i l ih =>
   intro c hl hc
   rw [List.foldl_cons,List.foldl_cons,Option.bind_some,hok i c (hl i (.head _)) hc]
   cases hp:P (g c i) with
   | true=>rw [if_pos rfl];exact ih _ (fun j hj=>hl j (.tail _ hj)) hp
   | false =>
    rw [if_neg (by simp),ast_]
    have:P (l.foldl g (g c i))=false:=by
     have hm:∀ (l:List Nat) (c:γ),P (l.foldl g c)=true→P c=true:=by
      intro l
      induction l with
      | nil=>exact fun c h=>h
      | cons j l ih=>exact fun c h=>hmono _ _ (ih _ h)
     cases hq:P (l.foldl g (g c i)) with
     | false=>rfl
     | true=>rw [hm _ _ hq] at hp;cases hp
    simp [this]
 exact this _ c (fun i hi=>by simpa using hi) h
theorem qs_ {α:Type} (p:α→Bool) (l:List α) (acc:List α):l.foldl (fun c a=>if p a=true then c++[a] else c) acc=acc++l.filter p:=by
 induction l generalizing acc with
 | nil=>simp
 | cons a l ih =>
  rw [List.foldl_cons,ih]
  cases h:p a <;> simp [h,List.filter_cons]
def ps0:=(And.intro (And.intro (And.intro (And.intro (@za_ T (List T)) (And.intro trivial @aOz_)) (And.intro trivial (And.intro @aSn_ @aSr_))) (And.intro (And.intro trivial (And.intro trivial @aSp_)) (And.intro @aSm_ (And.intro @aS0_ trivial)))) (And.intro (And.intro (And.intro trivial (And.intro trivial trivial)) (And.intro trivial (And.intro trivial trivial))) (And.intro (And.intro trivial (And.intro @aO8_ @aOy_)) (And.intro @aO5_ (And.intro @aO2_ @aO9_)))))
def ps1:=(And.intro (And.intro (And.intro (And.intro @aOw_ (And.intro @aO4_ trivial)) (And.intro trivial (And.intro @aI4_ trivial))) (And.intro (And.intro trivial (And.intro trivial trivial)) (And.intro trivial (And.intro trivial jn_s)))) (And.intro (And.intro (And.intro aOx_ (And.intro (fun (p:Prop) (_:Decidable p)=>@decide_eq_true_eq p _) Bool.and_eq_true)) (And.intro Bool.or_eq_true (And.intro aSs_ aSw_))) (And.intro (And.intro aSy_ (And.intro aQx_ aPk_)) (And.intro @aC7_ (And.intro aQa_ @aC1_)))))
def ps2:=(And.intro (And.intro (And.intro (And.intro @vu_ (And.intro @aH3_ @aLe_)) (And.intro @aIn_ (And.intro @apc_ @afp_))) (And.intro (And.intro @qj_ (And.intro @aok_ @aRr_)) (And.intro aNe_ (And.intro aQt_ aQo_)))) (And.intro (And.intro (And.intro any_ (And.intro ayg_ av6_)) (And.intro @adc_ (And.intro ahu_ aw7_))) (And.intro (And.intro @aDc_ (And.intro @je_ aPm_)) (And.intro aQg_ (And.intro aNj_ @aQ2_)))))
def ps3:=(And.intro (And.intro (And.intro (And.intro ac0_ (And.intro axb_ ak1_)) (And.intro aRf_ (And.intro aRd_ aRm_))) (And.intro (And.intro aRu_ (And.intro aRq_ aRw_)) (And.intro aDp_ (And.intro aDf_ aM8_)))) (And.intro (And.intro (And.intro aLi_ (And.intro @aMj_ (fun (k:Nat)=>@Int.toNat_natCast k))) (And.intro (fun (α:Type) (f:α→List T) (l:List α)=>@List.length_map α (List T) l f) (And.intro aN3_ aI3_))) (And.intro (And.intro aQd_ (And.intro aM1_ aQv_)) (And.intro aP5_ (And.intro aH4_ aN4_)))))
def ps4:=(And.intro (And.intro (And.intro (And.intro aQz_ (And.intro aMm_ trivial)) (And.intro trivial (And.intro @aGv_ @aCn_))) (And.intro (And.intro @aq1_ (And.intro @aod_ @ajo_)) (And.intro @afn_ (And.intro @xz_ @arb_)))) (And.intro (And.intro (And.intro @xn_ (And.intro @ajk_ @aOa_)) (And.intro @aL3_ (And.intro @aPj_ @aOn_))) (And.intro (And.intro @aB4_ (And.intro @au6_ @ao0_)) (And.intro @anf_ (And.intro @afz_ @ads_)))))
def ps5:=(And.intro (And.intro (And.intro (And.intro @arr_ (And.intro @apt_ @ajg_)) (And.intro @af1_ (And.intro @aLz_ @aLy_))) (And.intro (And.intro @aN8_ (And.intro @aJ6_ @azc_)) (And.intro @ay6_ (And.intro @azj_ @awo_)))) (And.intro (And.intro (And.intro @aAe_ (And.intro @aw3_ @aCe_)) (And.intro @ay3_ (And.intro @aot_ @ano_))) (And.intro (And.intro @aga_ (And.intro @adw_ @aqv_)) (And.intro @aoy_ (And.intro @ajb_ @afx_)))))
def ps6:=(And.intro (And.intro (And.intro (And.intro @aJi_ (And.intro @aJn_ @aL1_)) (And.intro @aJg_ (And.intro @ayx_ @atx_))) (And.intro (And.intro @awh_ (And.intro @as2_ @awn_)) (And.intro @atr_ (And.intro @ax1_ @ato_)))) (And.intro (And.intro (And.intro @anc_ (And.intro @al5_ @aed_)) (And.intro @acd_ (And.intro @aqo_ @anp_))) (And.intro (And.intro @agk_ (And.intro @adh_ @aD6_)) (And.intro @aH2_ (And.intro @aHn_ @aCk_)))))
def ps7:=(And.intro (And.intro (And.intro (And.intro @aEi_ (And.intro @aI9_ @aFx_)) (And.intro @aK3_ (And.intro @aq9_ @apz_))) (And.intro (And.intro @ajl_ (And.intro @afg_ @aN9_)) (And.intro @aNq_ (And.intro @aP8_ @aN1_)))) (And.intro (And.intro (And.intro @azx_ (And.intro @axi_ @aBk_)) (And.intro @axz_ (And.intro @aox_ @an5_))) (And.intro (And.intro @afv_ (And.intro @adt_ @aqx_)) (And.intro @apn_ (And.intro @ajm_ @afh_)))))
def ps8:=(And.intro (And.intro (And.intro (And.intro @aI0_ (And.intro @aJm_ @aM5_)) (And.intro @aI8_ (And.intro @aEo_ @aza_))) (And.intro (And.intro @aHg_ (And.intro @aCl_ @aF5_)) (And.intro @aAy_ (And.intro @aE1_ @aze_)))) (And.intro (And.intro (And.intro @aFz_ (And.intro @aAc_ @aEk_)) (And.intro @aIa_ (And.intro @aD7_ @aBn_))) (And.intro (And.intro @aHl_ (And.intro @aCv_ @arq_)) (And.intro @aov_ (And.intro @uU_ @agi_)))))
def ps9:=(And.intro (And.intro (And.intro (And.intro @aL5_ (And.intro @aMx_ @aCz_)) (And.intro @aNc_ (And.intro @aHk_ @azn_))) (And.intro (And.intro @aD3_ (And.intro @aA5_ @aFd_)) (And.intro @aIw_ (And.intro @wH_ @aoq_)))) (And.intro (And.intro (And.intro @wE_ (And.intro @wq_ @aOi_)) (And.intro @aM2_ (And.intro @aQs_ @aNr_))) (And.intro (And.intro @aun_ (And.intro @aty_ @ayl_)) (And.intro @as7_ (And.intro @axh_ @atc_)))))
def ps10:=(And.intro (And.intro (And.intro (And.intro @avd_ (And.intro @as6_ @awk_)) (And.intro @atn_ (And.intro @au2_ @ay9_))) (And.intro (And.intro @an4_ (And.intro @al6_ @adk_)) (And.intro @add_ (And.intro @aEn_ @aF3_)))) (And.intro (And.intro (And.intro @aJ8_ (And.intro @aFe_ @azo_)) (And.intro @auw_ (And.intro @aAn_ @ax6_))) (And.intro (And.intro @aAx_ (And.intro @aup_ @aCx_)) (And.intro @aEc_ (And.intro @az8_ @aFs_)))))
def ps11:=(And.intro (And.intro (And.intro (And.intro @az5_ (And.intro @aEu_ @aB5_)) (And.intro @aGg_ (And.intro @aow_ @and_))) (And.intro (And.intro @afl_ (And.intro @aee_ @aLb_)) (And.intro @aLh_ (And.intro @aOg_ @aJk_)))) (And.intro (And.intro (And.intro @aFy_ (And.intro @aAw_ @aG2_)) (And.intro @aBo_ (And.intro @aEb_ @aB1_))) (And.intro (And.intro @aH0_ (And.intro @aAq_ @ara_)) (And.intro @aps_ (And.intro @aji_ @afe_)))))
def ps12:=(And.intro (And.intro (And.intro (And.intro @as8_ (And.intro @arg_ @akh_)) (And.intro @ajh_ (And.intro @aNy_ @aMt_))) (And.intro (And.intro @aP1_ (And.intro @aNf_ @aCt_)) (And.intro @ayq_ (And.intro @aCf_ @avy_)))) (And.intro (And.intro (And.intro @azp_ (And.intro @awl_ @aAp_)) (And.intro @aE8_ (And.intro @aAl_ @aGe_))) (And.intro (And.intro @aCj_ (And.intro @aGd_ @aAj_)) (And.intro @aE7_ (And.intro @aCc_ @aG9_)))))
def ps13:=(And.intro (And.intro (And.intro (And.intro @ap3_ (And.intro @aoa_ @af0_)) (And.intro @aeb_ (And.intro @aJp_ @aIe_))) (And.intro (And.intro @aMr_ (And.intro @aLd_ trivial)) (And.intro trivial (And.intro trivial trivial)))) (And.intro (And.intro (And.intro trivial (And.intro trivial trivial)) (And.intro trivial (And.intro trivial trivial))) (And.intro (And.intro trivial (And.intro trivial trivial)) (And.intro trivial (And.intro trivial trivial)))))
def ps14:=(And.intro (And.intro (And.intro (And.intro trivial (And.intro trivial trivial)) (And.intro trivial (And.intro trivial trivial))) (And.intro (And.intro trivial (And.intro trivial trivial)) (And.intro trivial (And.intro trivial trivial)))) (And.intro (And.intro (And.intro trivial (And.intro trivial trivial)) (And.intro trivial (And.intro trivial trivial))) (And.intro (And.intro trivial (And.intro trivial trivial)) (And.intro trivial (And.intro trivial trivial)))))
def ps15:=(And.intro (And.intro (And.intro trivial trivial) (And.intro trivial trivial)) (And.intro (And.intro trivial trivial) (And.intro trivial trivial)))
def pq:=(And.intro (And.intro (And.intro (And.intro (And.intro pv_s jn_s) (And.intro aOx_ (And.intro Yz_s Ya_s))) (And.intro (And.intro Yb_s (And.intro Yl_s Ye_s)) (And.intro Yn_s (And.intro Yt_s Yp_s)))) (And.intro (And.intro (And.intro Yo_s (And.intro Yu_s Yg_s)) (And.intro Ym_s (And.intro Yh_s Ys_s))) (And.intro (And.intro Yv_s (And.intro Yw_s Yx_s)) (And.intro Yy_s (And.intro Yc_s Yq_s))))) (And.intro (And.intro (And.intro (And.intro Y1_s Y2_s) (And.intro Y3_s (And.intro Y4_s Y6_s))) (And.intro (And.intro Y8_s (And.intro trivial @aO8_)) (And.intro @aOy_ (And.intro @aO5_ @aO2_)))) (And.intro (And.intro (And.intro @aO9_ (And.intro @aOw_ @aO4_)) (And.intro trivial (And.intro trivial @aI4_))) (And.intro (And.intro trivial (And.intro trivial trivial)) (And.intro trivial (And.intro trivial trivial))))))
def ps:=(And.intro (And.intro (And.intro (And.intro ps0 ps1) (And.intro ps2 ps3)) (And.intro (And.intro ps4 ps5) (And.intro ps6 ps7))) (And.intro (And.intro (And.intro ps8 ps9) (And.intro ps10 ps11)) (And.intro (And.intro ps12 ps13) (And.intro ps14 ps15))))
end Go.Proofs.YtiebbbmibbkpcaaGreatC

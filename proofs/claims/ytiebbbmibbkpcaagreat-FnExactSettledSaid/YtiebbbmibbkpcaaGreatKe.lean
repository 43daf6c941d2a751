/- The walk by reflection: a part of its laws, for any function. Conditions: none. -/
import Derived.Test.YtiebbbmibbkpcaaGreatKd
namespace Go.Proofs.YtiebbbmibbkpcaaGreatC
set_option linter.unusedVariables false
set_option linter.unusedSimpArgs false
set_option linter.defProp false
theorem pz:(∀ p:Prop,(p∨p)=p)∧(∀ p:Prop,(p∨True)=True)∧(∀ p:Prop,(True∨p)=True)∧(∀ p:Prop,(p∨False)=p)∧(∀ p:Prop,(False∨p)=p)∧(¬ True)=False∧(¬ False)=True∧(∀ a:Int,(a < a)=False) :=
 ⟨or_self,or_true,true_or,or_false,false_or,not_true_eq_false,not_false_eq_true,fun a=>eq_false (Int.lt_irrefl a)⟩
@[congr] theorem aWa_ {α β:Type} {F:(α→Option β)→α→Option β} {R:Nat} {x y:α} (h:x=y):iter F R x=iter F R y:=by rw [h]
@[congr] theorem aWe_ {α β:Type} {o o':Option α} {f:α→Option β} (h:o=o'):o.bind f=o'.bind f:=by rw [h]
@[congr] theorem aWy_ {t t':T} {x y:Option (List T)} (h:t=t'):ifT t x y=ifT t' x y:=by rw [h]
@[congr] theorem aW7_ {k:Sem1} {b:Sem1→Option (List T)}:jn k b=jn k b:=rfl
@[congr] theorem aW4_ {o o':Option (List T)} {k:Option (List T)} (h:o=o'):cl0 o k=cl0 o' k:=by rw [h]
@[congr] theorem aWw_ {k:Option (List T)} {l l':List T} (h:l=l'):ar0 k l=ar0 k l':=by rw [h]
@[congr] theorem aWs_ {o o':Option (List T)} {k:T→Option (List T)} (h:o=o'):cl1 o k=cl1 o' k:=by rw [h]
@[congr] theorem aW0_ {k:T→Option (List T)} {l l':List T} (h:l=l'):ar1 k l=ar1 k l':=by rw [h]
@[congr] theorem aWq_ {o o':Option (List T)} {k:T→T→Option (List T)} (h:o=o'):cl2 o k=cl2 o' k:=by rw [h]
@[congr] theorem aW5_ {k:T→T→Option (List T)} {l l':List T} (h:l=l'):ar2 k l=ar2 k l':=by rw [h]
@[congr] theorem aWn_ {o o':Option (List T)} {k:T→T→T→Option (List T)} (h:o=o'):cl3 o k=cl3 o' k:=by rw [h]
@[congr] theorem aW3_ {k:T→T→T→Option (List T)} {l l':List T} (h:l=l'):ar3 k l=ar3 k l':=by rw [h]
@[congr] theorem aWz_ {o o':Option (List T)} {k:T→T→T→T→Option (List T)} (h:o=o'):cl4 o k=cl4 o' k:=by rw [h]
@[congr] theorem aWx_ {k:T→T→T→T→Option (List T)} {l l':List T} (h:l=l'):ar4 k l=ar4 k l':=by rw [h]
@[congr] theorem aWm_ {o o':Option (List T)} {k:T→T→T→T→T→Option (List T)} (h:o=o'):cl5 o k=cl5 o' k:=by rw [h]
@[congr] theorem aWt_ {k:T→T→T→T→T→Option (List T)} {l l':List T} (h:l=l'):ar5 k l=ar5 k l':=by rw [h]
@[congr] theorem aWp_ {o o':Option (List T)} {k:T→T→T→T→T→T→Option (List T)} (h:o=o'):cl6 o k=cl6 o' k:=by rw [h]
@[congr] theorem aWu_ {k:T→T→T→T→T→T→Option (List T)} {l l':List T} (h:l=l'):ar6 k l=ar6 k l':=by rw [h]
@[congr] theorem aWr_ {o o':Option (List T)} {k:T→T→T→T→T→T→T→Option (List T)} (h:o=o'):cl7 o k=cl7 o' k:=by rw [h]
@[congr] theorem aW2_ {k:T→T→T→T→T→T→T→Option (List T)} {l l':List T} (h:l=l'):ar7 k l=ar7 k l':=by rw [h]
@[congr] theorem aW1_ {o o':Option (List T)} {k:T→T→T→T→T→T→T→T→Option (List T)} (h:o=o'):cl8 o k=cl8 o' k:=by rw [h]
@[congr] theorem aWo_ {k:T→T→T→T→T→T→T→T→Option (List T)} {l l':List T} (h:l=l'):ar8 k l=ar8 k l':=by rw [h]
@[congr] theorem aWv_ {o o':Option (List T)} {k:T→T→T→T→T→T→T→T→T→Option (List T)} (h:o=o'):cl9 o k=cl9 o' k:=by rw [h]
@[congr] theorem aW6_ {k:T→T→T→T→T→T→T→T→T→Option (List T)} {l l':List T} (h:l=l'):ar9 k l=ar9 k l':=by rw [h]
@[congr] theorem aWb_ {o o':Option (List T)} {k:T→T→T→T→T→T→T→T→T→T→Option (List T)} (h:o=o'):cl10 o k=cl10 o' k:=by rw [h]
@[congr] theorem aV9_ {k:T→T→T→T→T→T→T→T→T→T→Option (List T)} {l l':List T} (h:l=l'):ar10 k l=ar10 k l':=by rw [h]
@[congr] theorem aWg_ {o o':Option (List T)} {k:T→T→T→T→T→T→T→T→T→T→T→Option (List T)} (h:o=o'):cl11 o k=cl11 o' k:=by rw [h]
@[congr] theorem aWh_ {k:T→T→T→T→T→T→T→T→T→T→T→Option (List T)} {l l':List T} (h:l=l'):ar11 k l=ar11 k l':=by rw [h]
@[congr] theorem aV7_ {o o':Option (List T)} {k:T→T→T→T→T→T→T→T→T→T→T→T→Option (List T)} (h:o=o'):cl12 o k=cl12 o' k:=by rw [h]
@[congr] theorem aWl_ {k:T→T→T→T→T→T→T→T→T→T→T→T→Option (List T)} {l l':List T} (h:l=l'):ar12 k l=ar12 k l':=by rw [h]
@[congr] theorem aV6_ {o o':Option (List T)} {k:T→T→T→T→T→T→T→T→T→T→T→T→T→Option (List T)} (h:o=o'):cl13 o k=cl13 o' k:=by rw [h]
@[congr] theorem aWj_ {k:T→T→T→T→T→T→T→T→T→T→T→T→T→Option (List T)} {l l':List T} (h:l=l'):ar13 k l=ar13 k l':=by rw [h]
@[congr] theorem aWi_ {o o':Option (List T)} {k:T→T→T→T→T→T→T→T→T→T→T→T→T→T→Option (List T)} (h:o=o'):cl14 o k=cl14 o' k:=by rw [h]
@[congr] theorem aWd_ {k:T→T→T→T→T→T→T→T→T→T→T→T→T→T→Option (List T)} {l l':List T} (h:l=l'):ar14 k l=ar14 k l':=by rw [h]
@[congr] theorem aWf_ {o o':Option (List T)} {k:T→T→T→T→T→T→T→T→T→T→T→T→T→T→T→Option (List T)} (h:o=o'):cl15 o k=cl15 o' k:=by rw [h]
@[congr] theorem aWc_ {k:T→T→T→T→T→T→T→T→T→T→T→T→T→T→T→Option (List T)} {l l':List T} (h:l=l'):ar15 k l=ar15 k l':=by rw [h]
@[congr] theorem aV8_ {o o':Option (List T)} {k:T→T→T→T→T→T→T→T→T→T→T→T→T→T→T→T→Option (List T)} (h:o=o'):cl16 o k=cl16 o' k:=by rw [h]
@[congr] theorem aWk_ {k:T→T→T→T→T→T→T→T→T→T→T→T→T→T→T→T→Option (List T)} {l l':List T} (h:l=l'):ar16 k l=ar16 k l':=by rw [h]
theorem aR7_ (b:Bool) (x y:Option (List T)):ifT (bb b) x y=if b=true then x else y:=by cases b <;> rfl
theorem aTk_:Prim.ev .len [.l []]=some (ii 0):=rfl
theorem aRh_ (a b:Int) (h:b≠0):Prim.ev (.bin .rem) [ii a,ii b]=some (ii (a.tmod b)):=by
 simp only [Prim.ev,T.val,binV,Option.bind_some,if_true,h,if_false]
theorem aS0_ (a b:Int):Prim.ev .mx [ii a,ii b]=some (ii (if b > a then b else a)):=rfl
theorem aTl_ (a b:Int):Prim.ev .mn [ii a,ii b]=some (ii (if b < a then b else a)):=rfl
theorem aSv_ (a b c d a' b' c' d':Int):Prim.ev (.eqs [1,1,1,1]) [ii a,ii b,ii c,ii d,ii a',ii b',ii c',ii d']=some (bb (a == a' && (b == b' && (c == c' && (d == d'))))):=by
 simp [Prim.ev,eqT,eqV]
theorem aP7_ (a b c a' b' c':Int) (d d':Bool):Prim.ev (.eqs [1,1,1,4]) [ii a,ii b,ii c,bb d,ii a',ii b',ii c',bb d']=some (bb (a == a' && (b == b' && (c == c' && (d == d'))))):=by
 simp [Prim.ev,eqT,eqV]
theorem aS7_ {w:Nat} (h:0 < w):Prim.ev (.lit w []) []=some (.l []):=by
 simp [Prim.ev,wG_,x1_,h]
theorem aPn_ (a b:Int):Prim.ev (.lit 1 [true,true]) [ii a,ii b]=some (.l ([a,b].map eInt)):=by simp [Prim.ev,wG_,x1_,scal,eInt]
theorem aNi_ (a b:Int):Prim.ev (.lit 1 []) [ii a,ii b]=some (.l ([a,b].map eInt)):=by simp [Prim.ev,wG_,x1_,eInt]
theorem aRn_ {l:List Int} {x y:Int} (h:l.length < 4294967294):Prim.ev (.app true 1) [.l (l.map eInt),.l ([x,y].map eInt)]=some (.l ((l++[x,y]).map eInt)):=yT_ (by simp;omega)
theorem aSr_ (a b:Int):((a == b)=true)=(a=b):=by simp
theorem aTe_ (a b:Int):((a != b)=true)=¬ (a=b):=by simp
theorem aVm_ (b:Bool):((!b)=true)=¬ (b=true):=by simp
theorem aV5_ (a b:Bool):((a != b)=true)=¬ ((a=true)=(b=true)):=by cases a <;> cases b <;> simp
theorem aVk_ (a b:Bool):((a == b)=true)=((a=true)=(b=true)):=by cases a <;> cases b <;> simp
theorem abw_ (a b:Nat):((a+b:Nat):Int)=(a:Int)+b:=by simp
theorem aki_:((1:Nat):Int)=1:=rfl
theorem aUr_:((2:Nat):Int)=2:=rfl
theorem aUf_:((3:Nat):Int)=3:=rfl
theorem aVe_:((5:Nat):Int)=5:=rfl
theorem aUt_:((6:Nat):Int)=6:=rfl
theorem aUl_:((7:Nat):Int)=7:=rfl
theorem aU5_:((9:Nat):Int)=9:=rfl
theorem aAh_:((0:Nat):Int)=0:=rfl
theorem apn_ {α:Type} {p q:Prop} [Decidable p] [Decidable q] (h:p↔q) (x y:α):(if p then x else y)=if q then x else y:=by
 by_cases hq:q
 ·rw [if_pos (h.2 hq),if_pos hq]
 ·rw [if_neg (fun hp=>hq (h.1 hp)),if_neg hq]
def allB (n:Nat) (p:Nat→Bool):Bool:=(List.range n).all p
theorem allB_iff {n:Nat} {p:Nat→Bool}:allB n p=true↔∀ i,i < n→p i=true:=by
 simp [allB]
theorem ac0_ {β σ:Type} {F:(σ→Option β)→σ→Option β} (n:Nat) (st:Nat→σ) (p:Nat→Bool) {outT outF:Option β}
  (step:∀ i:Nat,(i:Int) < (n:Int)→∀ s,F s (st i)=if p i=true then s (st (i+1)) else outF) (fin:∀ s,F s (st n)=outT) {R:Nat} (hR:n < R) :
  iter F R (st 0)=if allB n p=true then outT else outF:=by
 classical
 have:∀ (d i:Nat),i+d=n→∀ R,d < R→iter F R (st i)=if (∀ j,i≤j→j < n→p j=true) then outT else outF:=by
  intro d
  induction d with
  | zero =>
   intro i hi R hR
   cases R with
   | zero=>omega
   | succ R =>
    have hi:i=n:=hi
    subst hi
    rw [if_pos (fun j h1 h2=>absurd h1 (by omega))]
    exact fin _
  | succ d ih =>
   intro i hi R hR
   cases R with
   | zero=>omega
   | succ R =>
    unfold iter
    rw [step i (by omega)]
    by_cases hp:p i=true
    ·rw [if_pos hp,ih (i+1) (by omega) R (by omega)]
     refine apn_ ⟨fun h j h1 h2=>?_,fun h j h1 h2=>h j (by omega) h2⟩ _ _
     rcases Nat.lt_or_ge i j with h3 | h3
     ·exact h j h3 h2
     ·have:j=i:=by omega
      subst this;exact hp
    ·rw [if_neg hp,if_neg fun h=>hp (h i (Nat.le_refl i) (by omega))]
 rw [this n 0 (by omega) R hR]
 exact apn_ ⟨fun h=>allB_iff.2 fun i hi=>h i (Nat.zero_le i) hi,fun h j _ h2=>allB_iff.1 h j h2⟩ _ _
def zq_ {α:Type} (p:α→Bool) (l:List α):Int:=match l.findIdx? p with | some i=>(i:Int) | none=>-1
theorem wd_ {α:Type} (p:α→Bool) (l:List α):zq_ p l < l.length:=by
 unfold zq_
 cases h:l.findIdx? p with
 | none=>show (-1:Int) < _;omega
 | some i =>
  obtain ⟨h1,_⟩:=List.findIdx?_eq_some_iff_getElem.1 h
  show (i:Int) < _;omega
theorem aQj_ {α:Type} (p:α→Bool) (l:List α):-1≤zq_ p l:=by
 unfold zq_
 cases h:l.findIdx? p with
 | none=>show (-1:Int)≤-1;omega
 | some i=>show (-1:Int)≤(i:Int);omega
theorem wO_ {α:Type} [Inhabited α] (p:α→Bool) (l:List α) (h:0≤zq_ p l):p (gt l (zq_ p l))=true:=by
 unfold zq_ at h ⊢
 cases h':l.findIdx? p with
 | none=>rw [h'] at h;exact absurd h (by decide)
 | some i =>
  obtain ⟨h1,h2,_⟩:=List.findIdx?_eq_some_iff_getElem.1 h'
  show p (gt l (i:Int))=true
  rw [zr_ h1];exact h2
theorem w5_ {α:Type} (p:α→Bool) (l:List α):zq_ p l < 0↔∀ x∈l,p x=false:=by
 unfold zq_
 cases h:l.findIdx? p with
 | none =>
  rw [List.findIdx?_eq_none_iff] at h
  exact ⟨fun _=>h,fun _=>by show (-1:Int) < 0;decide⟩
 | some i =>
  obtain ⟨h1,h2,_⟩:=List.findIdx?_eq_some_iff_getElem.1 h
  refine ⟨fun h3=>absurd (show (i:Int) < 0 from h3) (by omega),fun h3=>?_⟩
  rw [h3 _ (List.getElem_mem h1)] at h2
  cases h2
theorem ag3_ {α β σ:Type} [Inhabited α] {F:(σ→Option β)→σ→Option β} (l:List α) (st:Nat→σ) (p:α→Bool) (outS:Int→Option β) {outN:Option β}
  (step:∀ i:Nat,(i:Int) < (l.length:Int)→∀ s,F s (st i)=if p (gt l i)=true then outS i else s (st (i+1))) (fin:∀ s,F s (st l.length)=outN) {R:Nat} (hR:l.length < R) :
  iter F R (st 0)=if zq_ p l < 0 then outN else outS (zq_ p l):=by
 have:∀ (d i:Nat),i+d=l.length→∀ R,d < R→iter F R (st i)=(match (l.drop i).findIdx? p with | some k=>outS ((i+k:Nat):Int) | none=>outN):=by
  intro d
  induction d with
  | zero =>
   intro i hi R hR
   cases R with
   | zero=>omega
   | succ R =>
    rw [Nat.add_zero] at hi
    subst hi
    rw [List.drop_length]
    exact fin _
  | succ d ih =>
   intro i hi R hR
   cases R with
   | zero=>omega
   | succ R =>
    have hlt:i < l.length:=by omega
    unfold iter
    rw [step i (by omega),List.drop_eq_getElem_cons hlt,List.findIdx?_cons,zr_ hlt]
    cases hp:p l[i] with
    | true=>simp
    | false =>
     simp only [Bool.false_eq_true,if_false]
     rw [ih (i+1) (by omega) R (by omega)]
     cases (l.drop (i+1)).findIdx? p with
     | none=>rfl
     | some k=>simp [Int.add_assoc,Int.add_comm 1]
 have h:=this l.length 0 (by omega) R hR
 rw [h,List.drop_zero]
 unfold zq_
 cases l.findIdx? p with
 | none=>rfl
 | some i =>
  show outS ((0+i:Nat):Int)=if (i:Int) < 0 then outN else outS (i:Int)
  rw [if_neg (by omega),Nat.zero_add]
theorem ape_ {α γ β σ:Type} [Inhabited α] {F:(σ→Option β)→σ→Option β} (l:List α) (st:Nat→γ→σ) (g:γ→α→γ) (out:γ→Option β) (c:γ) (Inv:Nat→γ→Prop) (h0:Inv 0 c)
  (step:∀ (i:Nat) c,(i:Int) < (l.length:Int)→Inv i c→Inv (i+1) (g c (gt l i))∧∀ s,F s (st i c)=s (st (i+1) (g c (gt l i)))) (fin:∀ c s,Inv l.length c→F s (st l.length c)=out c) {R:Nat} (hR:l.length < R) :
  iter F R (st 0 c)=out (l.foldl g c):=by
 have:∀ (d i:Nat) (c:γ),i+d=l.length→Inv i c→∀ R,d < R→iter F R (st i c)=out ((l.drop i).foldl g c):=by
  intro d
  induction d with
  | zero =>
   intro i c hi hc R hR
   cases R with
   | zero=>omega
   | succ R =>
    rw [Nat.add_zero] at hi
    subst hi
    rw [List.drop_length]
    exact fin _ _ hc
  | succ d ih =>
   intro i c hi hc R hR
   cases R with
   | zero=>omega
   | succ R =>
    have hlt:i < l.length:=by omega
    unfold iter
    obtain ⟨h1,h2⟩:=step i c (by omega) hc
    rw [h2,List.drop_eq_getElem_cons hlt,List.foldl_cons,ih (i+1) _ (by omega) h1 R (by omega),zr_ hlt]
 have h:=this l.length 0 c (by omega) h0 R hR
 simpa using h
theorem aLi_ {γ β σ:Type} {F:(σ→Option β)→σ→Option β} (n:Nat) (st:Nat→γ→σ) (g:γ→Nat→γ) (out:γ→Option β) (c:γ) (Inv:Nat→γ→Prop) (h0:Inv 0 c)
  (step:∀ (i:Nat) c,(i:Int) < (n:Int)→Inv i c→Inv (i+1) (g c i)∧∀ s,F s (st i c)=s (st (i+1) (g c i))) (fin:∀ c s,Inv n c→F s (st n c)=out c) {R:Nat} (hR:n < R) :
  iter F R (st 0 c)=out ((List.range n).foldl g c):=by
 have hl:(List.range n).length=n:=List.length_range
 refine ape_ (List.range n) st g out c Inv h0 (fun i c hi hc=>?_) (fun c s hc=>?_) (by rw [hl];exact hR)
 ·rw [hl] at hi
  rw [zr_ (by rw [hl];omega),List.getElem_range]
  exact step i c hi hc
 ·rw [hl] at hc ⊢
  exact fin c s hc
theorem v2_ {α β:Type} (p:α→Bool) (f:α→β) (l:List α) (acc:List β):l.foldl (fun c a=>if p a=true then c++[f a] else c) acc=acc++(l.filter p).map f:=by
 induction l generalizing acc with
 | nil=>simp
 | cons a l ih =>
  rw [List.foldl_cons,ih]
  cases h:p a <;> simp [h,List.filter_cons]
theorem ad4_ {α β:Type} (f:α→β) (l:List α) (acc:List β):l.foldl (fun c a=>c++[f a]) acc=acc++l.map f:=by
 induction l generalizing acc with
 | nil=>simp
 | cons a l ih=>rw [List.foldl_cons,ih];simp
theorem xP_ {β σ:Type} {F:(σ→Option β)→σ→Option β} {R:Nat} {x:σ} (n:Nat) (st:Nat→σ) (p:Nat→Bool) {outT outF:Option β} (hx:x=st 0) (hR:n < R)
  (step:∀ i:Nat,(i:Int) < (n:Int)→∀ s,F s (st i)=if p i=true then s (st (i+1)) else outF) (fin:∀ s,F s (st n)=outT) :
  iter F R x=if allB n p=true then outT else outF:=by rw [hx];exact ac0_ n st p step fin hR
theorem vh_ {α β σ:Type} [Inhabited α] {F:(σ→Option β)→σ→Option β} {R:Nat} {x:σ} (l:List α) (st:Nat→σ) (p:α→Bool) (outS:Int→Option β) {outN:Option β} (hx:x=st 0) (hR:l.length < R)
  (step:∀ i:Nat,(i:Int) < (l.length:Int)→∀ s,F s (st i)=if p (gt l i)=true then outS i else s (st (i+1))) (fin:∀ s,F s (st l.length)=outN) :
  iter F R x=if zq_ p l < 0 then outN else outS (zq_ p l):=by rw [hx];exact ag3_ l st p outS step fin hR
theorem zp_ {α γ β σ:Type} [Inhabited α] {F:(σ→Option β)→σ→Option β} {R:Nat} {x:σ} (l:List α) (st:Nat→γ→σ) (g:γ→α→γ) (out:γ→Option β) (c:γ) (Inv:Nat→γ→Prop) (hx:x=st 0 c) (hR:l.length < R) (h0:Inv 0 c)
  (step:∀ (i:Nat) c,(i:Int) < (l.length:Int)→Inv i c→Inv (i+1) (g c (gt l i))∧∀ s,F s (st i c)=s (st (i+1) (g c (gt l i)))) (fin:∀ c s,Inv l.length c→F s (st l.length c)=out c) :
  iter F R x=out (l.foldl g c):=by rw [hx];exact ape_ l st g out c Inv h0 step fin hR
theorem yE_ {γ β σ:Type} {F:(σ→Option β)→σ→Option β} {R:Nat} {x:σ} (n:Nat) (st:Nat→γ→σ) (g:γ→Nat→γ) (out:γ→Option β) (c:γ) (Inv:Nat→γ→Prop) (hx:x=st 0 c) (hR:n < R) (h0:Inv 0 c)
  (step:∀ (i:Nat) c,(i:Int) < (n:Int)→Inv i c→Inv (i+1) (g c i)∧∀ s,F s (st i c)=s (st (i+1) (g c i))) (fin:∀ c s,Inv n c→F s (st n c)=out c) :
  iter F R x=out ((List.range n).foldl g c):=by rw [hx];exact aLi_ n st g out c Inv h0 step fin hR
theorem j4_ {α γ:Type} [Inhabited α] {l:List α} {g:γ→α→γ} {c:γ} {Inv:Nat→γ→Prop} (h0:Inv 0 c) (step:∀ (i:Nat) c,(i:Int) < (l.length:Int)→Inv i c→Inv (i+1) (g c (gt l i))):Inv l.length (l.foldl g c):=by
 have:∀ (d i:Nat) (c:γ),i+d=l.length→Inv i c→Inv l.length ((l.drop i).foldl g c):=by
  intro d
  induction d with
  | zero=>intro i c hi hc;rw [Nat.add_zero] at hi;subst hi;rw [List.drop_length];exact hc
  | succ d ih =>
   intro i c hi hc
   have hlt:i < l.length:=by omega
   rw [List.drop_eq_getElem_cons hlt,List.foldl_cons]
   have:=step i c (by omega) hc
   rw [zr_ hlt] at this
   exact ih (i+1) _ (by omega) this
 have h:=this l.length 0 c (by omega) h0
 simpa using h
theorem aR3_ (n:Nat):(n:Int).tmod 2=((n % 2:Nat):Int):=rfl
theorem zc_ {n:Nat} (h:n≤1048576):n < rounds:=by unfold rounds;omega
def runE {γ:Type} (ok:Nat→γ→Bool) (g:γ→Nat→γ) (n:Nat) (c:γ):Option γ:=(List.range n).foldl (fun o i=>o.bind fun c=>if ok i c=true then some (g c i) else none) (some c)
theorem as6_ {γ:Type} (ok:Nat→γ→Bool) (g:γ→Nat→γ) (l:List Nat):l.foldl (fun o i=>o.bind fun c=>if ok i c=true then some (g c i) else none) (none:Option γ)=none:=by
 induction l with
 | nil=>rfl
 | cons i l ih=>exact ih
theorem asy_ {γ β σ:Type} {F:(σ→Option β)→σ→Option β} {R:Nat} {x:σ} (n:Nat) (st:Nat→γ→σ) (ok:Nat→γ→Bool) (g:γ→Nat→γ) (out:γ→Option β) {outF:Option β} (c:γ) (Inv:Nat→γ→Prop) (hx:x=st 0 c) (hR:n < R) (h0:Inv 0 c)
  (step:∀ (i:Nat) c,(i:Int) < (n:Int)→Inv i c→(ok i c=true→Inv (i+1) (g c i))∧∀ s,F s (st i c)=if ok i c=true then s (st (i+1) (g c i)) else outF) (fin:∀ c s,Inv n c→F s (st n c)=out c) :
  iter F R x=match runE ok g n c with | some c=>out c | none=>outF:=by
 subst hx
 have:∀ (d i:Nat) (c:γ),i+d=n→Inv i c→∀ R,d < R→iter F R (st i c)=match ((List.range n).drop i).foldl (fun o i=>o.bind fun c=>if ok i c=true then some (g c i) else none) (some c) with | some c=>out c | none=>outF:=by
  intro d
  induction d with
  | zero =>
   intro i c hi hc R hR
   cases R with
   | zero=>omega
   | succ R =>
    rw [Nat.add_zero] at hi
    subst hi
    rw [List.drop_eq_nil_iff.2 (by simp)]
    exact fin _ _ hc
  | succ d ih =>
   intro i c hi hc R hR
   cases R with
   | zero=>omega
   | succ R =>
    have hlt:i < (List.range n).length:=by simp;omega
    unfold iter
    obtain ⟨h1,h2⟩:=step i c (by omega) hc
    rw [h2,List.drop_eq_getElem_cons hlt,List.foldl_cons,List.getElem_range]
    cases hp:ok i c with
    | true =>
     simp only [if_true,Option.bind_some,hp]
     exact ih (i+1) _ (by omega) (h1 hp) R (by omega)
    | false =>
     simp only [Bool.false_eq_true,if_false,Option.bind_some,hp,as6_]
 have h:=this n 0 c (by omega) h0 R hR
 simpa [runE] using h
theorem awg_ {γ:Type} {ok:Nat→γ→Bool} {g:γ→Nat→γ} (P:γ→Bool) {n:Nat} {c:γ} (hmono:∀ c i,P (g c i)=true→P c=true) (hok:∀ i c,i < n→P c=true→ok i c=P (g c i)) (h:P c=true) :
  runE ok g n c=if P ((List.range n).foldl g c)=true then some ((List.range n).foldl g c) else none:=by
 have:∀ (l:List Nat) (c:γ),(∀ i∈l,i < n)→P c=true→l.foldl (fun o i=>o.bind fun c=>if ok i c=true then some (g c i) else none) (some c)=if P (l.foldl g c)=true then some (l.foldl g c) else none:=by
  intro l
  induction l with
  | nil=>intro c _ hc;simp [hc]
  | cons i l ih =>
   intro c hl hc
   rw [List.foldl_cons,List.foldl_cons,Option.bind_some,hok i c (hl i (.head _)) hc]
   cases hp:P (g c i) with
   | true=>rw [if_pos rfl];exact ih _ (fun j hj=>hl j (.tail _ hj)) hp
   | false =>
    rw [if_neg (by simp),as6_]
    have:P (l.foldl g (g c i))=false:=by
     have hm:∀ (l:List Nat) (c:γ),P (l.foldl g c)=true→P c=true:=by
      intro l
      induction l with
      | nil=>exact fun c h=>h
      | cons j l ih=>exact fun c h=>hmono _ _ (ih _ h)
     cases hq:P (l.foldl g (g c i)) with
     | false=>rfl
     | true=>rw [hm _ _ hq] at hp;cases hp
    simp [this]
 exact this _ c (fun i hi=>by simpa using hi) h
theorem qu_ {α:Type} (p:α→Bool) (l:List α) (acc:List α):l.foldl (fun c a=>if p a=true then c++[a] else c) acc=acc++l.filter p:=by
 induction l generalizing acc with
 | nil=>simp
 | cons a l ih =>
  rw [List.foldl_cons,ih]
  cases h:p a <;> simp [h,List.filter_cons]
theorem aVp_ (b:Bool):(if b=true then true else false)=b:=by cases b <;> rfl
def ps0:=(And.intro (And.intro (And.intro (And.intro (@za_ T (List T)) (And.intro @aV2_ @aRv_)) (And.intro @aVq_ (And.intro @aVt_ @aVj_))) (And.intro (And.intro @aVf_ (And.intro @aVx_ @aVg_)) (And.intro @aVv_ (And.intro @aV3_ @aUv_)))) (And.intro (And.intro (And.intro @aUg_ (And.intro @aU6_ @aUk_)) (And.intro @aUc_ (And.intro @aU2_ @aU3_))) (And.intro (And.intro @aR6_ (And.intro @aR1_ @aRw_)) (And.intro @aSc_ (And.intro @aSb_ @aR0_)))))
def ps1:=(And.intro (And.intro (And.intro (And.intro @aSa_ (And.intro @aSg_ @aSf_)) (And.intro @aSd_ (And.intro @aO2_ @aOl_))) (And.intro (And.intro @aOy_ (And.intro @aM5_ @aOq_)) (And.intro @aNd_ (And.intro @aO1_ jn_s)))) (And.intro (And.intro (And.intro aR7_ (And.intro (fun (p:Prop) (_:Decidable p)=>@decide_eq_true_eq p _) Bool.and_eq_true)) (And.intro Bool.or_eq_true (And.intro aVm_ aV5_))) (And.intro (And.intro aVk_ (And.intro aSr_ aTe_)) (And.intro @aFx_ (And.intro aTk_ @aFt_)))))
def ps2:=(And.intro (And.intro (And.intro (And.intro @x2_ (And.intro @aLa_ @aKv_)) (And.intro @aNf_ (And.intro @axy_ @aj1_))) (And.intro (And.intro @jj_ (And.intro @afl_ @aUh_)) (And.intro aRh_ (And.intro aS0_ aTl_)))) (And.intro (And.intro (And.intro anw_ (And.intro axo_ ayp_)) (And.intro @ux_ (And.intro ahv_ az7_))) (And.intro (And.intro @aF6_ (And.intro @qg_ aT7_)) (And.intro aSv_ (And.intro aP7_ @aS7_)))))
def ps3:=(And.intro (And.intro (And.intro (And.intro abw_ (And.intro aAh_ aki_)) (And.intro aUr_ (And.intro aUf_ aVe_))) (And.intro (And.intro aUt_ (And.intro aUl_ aU5_)) (And.intro aFg_ (And.intro aFa_ aPn_)))) (And.intro (And.intro (And.intro aNi_ (And.intro @aRn_ (fun (k:Nat)=>@Int.toNat_natCast k))) (And.intro (fun (α:Type) (f:α→List T) (l:List α)=>@List.length_map α (List T) l f) (And.intro aRg_ aNw_))) (And.intro (And.intro aSu_ (And.intro aRp_ aSo_)) (And.intro aTh_ (And.intro aOh_ aQ9_)))))
def ps4:=(And.intro (And.intro (And.intro (And.intro aT8_ (And.intro aQ4_ aId_)) (And.intro aM3_ (And.intro @aKj_ @aE8_))) (And.intro (And.intro @asn_ (And.intro @aqc_ @ajm_)) (And.intro @agf_ (And.intro @y4_ @asi_)))) (And.intro (And.intro (And.intro @yT_ (And.intro @ajc_ @aPp_)) (And.intro @aQz_ (And.intro @aSj_ @aO6_))) (And.intro (And.intro @aEf_ (And.intro @aw9_ @aow_)) (And.intro @aok_ (And.intro @agd_ @ads_)))))
def ps5:=(And.intro (And.intro (And.intro (And.intro @ask_ (And.intro @aqt_ @ajl_)) (And.intro @afr_ (And.intro @aLw_ @aLh_))) (And.intro (And.intro @aQe_ (And.intro @aKx_ @aCw_)) (And.intro @ax5_ (And.intro @aB7_ @axs_)))) (And.intro (And.intro (And.intro @aBq_ (And.intro @axt_ @aEj_)) (And.intro @azt_ (And.intro @aq7_ @aor_))) (And.intro (And.intro @af7_ (And.intro @ad1_ @asc_)) (And.intro @apd_ (And.intro @ajb_ @afo_)))))
def ps6:=(And.intro (And.intro (And.intro (And.intro @aLt_ (And.intro @aLe_ @aRm_)) (And.intro @aO0_ (And.intro @ay3_ @aux_))) (And.intro (And.intro @azz_ (And.intro @aup_ @ax4_)) (And.intro @aur_ (And.intro @avw_ @avb_)))) (And.intro (And.intro (And.intro @an8_ (And.intro @amj_ @adi_)) (And.intro @ac8_ (And.intro @apu_ @anv_))) (And.intro (And.intro @af1_ (And.intro @ado_ @aG2_)) (And.intro @aGu_ (And.intro @aJh_ @aBk_)))))
def ps7:=(And.intro (And.intro (And.intro (And.intro @aHb_ (And.intro @aMp_ @aJo_)) (And.intro @aM6_ (And.intro @ar8_ @ap7_))) (And.intro (And.intro @ajk_ (And.intro @af9_ @aQ8_)) (And.intro @aP3_ (And.intro @aT3_ @aRo_)))) (And.intro (And.intro (And.intro @aCy_ (And.intro @azv_ @aB2_)) (And.intro @azi_ (And.intro @ap4_ @aod_))) (And.intro (And.intro @afi_ (And.intro @adp_ @arc_)) (And.intro @aqx_ (And.intro @ajg_ @afm_)))))
def ps8:=(And.intro (And.intro (And.intro (And.intro @aOu_ (And.intro @aOm_ @aQv_)) (And.intro @aLb_ (And.intro @aG3_ @aD9_))) (And.intro (And.intro @aHf_ (And.intro @aBp_ @aGj_)) (And.intro @aBs_ (And.intro @aH6_ @aBu_)))) (And.intro (And.intro (And.intro @aJk_ (And.intro @aA6_ @aIs_)) (And.intro @aNj_ (And.intro @aJe_ @aC5_))) (And.intro (And.intro @aJ0_ (And.intro @aBh_ @ary_)) (And.intro @aqf_ (And.intro @uO_ @af4_)))))
def ps9:=(And.intro (And.intro (And.intro (And.intro @aQh_ (And.intro @aQm_ @aFs_)) (And.intro @aQd_ (And.intro @aJy_ @aA3_))) (And.intro (And.intro @aHk_ (And.intro @aAy_ @aI0_)) (And.intro @aO4_ (And.intro @wJ_ @apg_)))) (And.intro (And.intro (And.intro @wF_ (And.intro @wh_ @aP5_)) (And.intro @aP4_ (And.intro @aSk_ @aQr_))) (And.intro (And.intro @ayf_ (And.intro @au4_ @aAd_)) (And.intro @aug_ (And.intro @ay2_ @au5_)))))
def ps10:=(And.intro (And.intro (And.intro (And.intro @axh_ (And.intro @auv_ @ayb_)) (And.intro @aun_ (And.intro @ayc_ @aDf_))) (And.intro (And.intro @anh_ (And.intro @aml_ @aeh_)) (And.intro @ach_ (And.intro @aGs_ @aHm_)))) (And.intro (And.intro (And.intro @aMz_ (And.intro @aIi_ @aA5_)) (And.intro @aAj_ (And.intro @aC7_ @aAn_))) (And.intro (And.intro @aBt_ (And.intro @ay8_ @aEl_)) (And.intro @aGa_ (And.intro @aDg_ @aI4_)))))
def ps11:=(And.intro (And.intro (And.intro (And.intro @aDk_ (And.intro @aI1_ @aCx_)) (And.intro @aKs_ (And.intro @ap3_ @aog_))) (And.intro (And.intro @af3_ (And.intro @adm_ @aL0_)) (And.intro @aLz_ (And.intro @aQq_ @aLo_)))) (And.intro (And.intro (And.intro @aKk_ (And.intro @aCs_ @aJb_)) (And.intro @aEp_ (And.intro @aGi_ @aB4_))) (And.intro (And.intro @aJv_ (And.intro @aC2_ @ar4_)) (And.intro @aqj_ (And.intro @aje_ @agb_)))))
def ps12:=(And.intro (And.intro (And.intro (And.intro @auc_ (And.intro @ar5_ @ali_)) (And.intro @aji_ (And.intro @aP0_ @aRc_))) (And.intro (And.intro @aTb_ (And.intro @aQy_ @aDn_)) (And.intro @ax8_ (And.intro @aCc_ @awn_)))) (And.intro (And.intro (And.intro @aDt_ (And.intro @aAw_ @aEg_)) (And.intro @aHl_ (And.intro @aDl_ @aIh_))) (And.intro (And.intro @aD1_ (And.intro @aHe_ @aEo_)) (And.intro @aIc_ (And.intro @aB6_ @aKp_)))))
def ps13:=(And.intro (And.intro (And.intro (And.intro @aqo_ (And.intro @an4_ @afy_)) (And.intro @aee_ (And.intro @aLs_ @aMh_))) (And.intro (And.intro @aPv_ (And.intro @aM8_ @au7_)) (And.intro @ark_ (And.intro @avc_ @art_)))) (And.intro (And.intro (And.intro @aud_ (And.intro @arq_ @aua_)) (And.intro @arz_ (And.intro @aui_ @axu_))) (And.intro (And.intro @au8_ (And.intro @axb_ @amp_)) (And.intro @ak2_ (And.intro @abu_ @aax_)))))
def ps14:=(And.intro (And.intro (And.intro (And.intro @aD2_ (And.intro @aC8_ @aGp_)) (And.intro @aDv_ (And.intro @ayz_ @auj_))) (And.intro (And.intro @axk_ (And.intro @aA2_ @aws_)) (And.intro @aE4_ (And.intro @axx_ @aCa_)))) (And.intro (And.intro (And.intro @azw_ (And.intro @aC1_ @aw1_)) (And.intro @aEm_ (And.intro @ax3_ @aBa_))) (And.intro (And.intro @axc_ (And.intro @aDz_ @ayq_)) (And.intro @aA8_ (And.intro @ayi_ @avg_)))))
def ps15:=(And.intro (And.intro (And.intro @an2_ @amk_) (And.intro @adu_ @ac1_)) (And.intro (And.intro @aKf_ @aIz_) (And.intro @aO3_ @aGt_)))
def pq:=(And.intro (And.intro (And.intro (And.intro (And.intro pv_s jn_s) (And.intro aR7_ (And.intro Yz_s Ya_s))) (And.intro (And.intro Yb_s (And.intro Yl_s Ye_s)) (And.intro Yn_s (And.intro Yt_s Yp_s)))) (And.intro (And.intro (And.intro Yo_s (And.intro Yu_s Yg_s)) (And.intro Ym_s (And.intro Yh_s Ys_s))) (And.intro (And.intro Yv_s (And.intro Yw_s Yx_s)) (And.intro Yy_s (And.intro Yc_s Yq_s))))) (And.intro (And.intro (And.intro (And.intro Y1_s Y2_s) (And.intro Y3_s (And.intro Y4_s Y6_s))) (And.intro (And.intro Y8_s (And.intro @aR6_ @aR1_)) (And.intro @aRw_ (And.intro @aSc_ @aSb_)))) (And.intro (And.intro (And.intro @aR0_ (And.intro @aSa_ @aSg_)) (And.intro @aSf_ (And.intro @aSd_ @aO2_))) (And.intro (And.intro @aOl_ (And.intro @aOy_ @aM5_)) (And.intro @aOq_ (And.intro @aNd_ @aO1_))))))
def ps:=(And.intro (And.intro (And.intro (And.intro ps0 ps1) (And.intro ps2 ps3)) (And.intro (And.intro ps4 ps5) (And.intro ps6 ps7))) (And.intro (And.intro (And.intro ps8 ps9) (And.intro ps10 ps11)) (And.intro (And.intro ps12 ps13) (And.intro ps14 ps15))))
end Go.Proofs.YtiebbbmibbkpcaaGreatC

/- The walk by reflection: a part of its laws, for any function. Conditions: none. -/
import Derived.Test.YtiebbbmibbkpcaaKd
namespace Go.Proofs.YtiebbbmibbkpcaaC
set_option linter.unusedVariables false
set_option linter.unusedSimpArgs false
set_option linter.defProp false
theorem pz:(∀ p:Prop,(p∨p)=p)∧(∀ p:Prop,(p∨True)=True)∧(∀ p:Prop,(True∨p)=True)∧(∀ p:Prop,(p∨False)=p)∧(∀ p:Prop,(False∨p)=p)∧(¬ True)=False∧(¬ False)=True∧(∀ a:Int,(a < a)=False) :=
 ⟨or_self,or_true,true_or,or_false,false_or,not_true_eq_false,not_false_eq_true,fun a=>eq_false (Int.lt_irrefl a)⟩
@[congr] theorem iter_cong {α β:Type} {F:(α→Option β)→α→Option β} {R:Nat} {x y:α} (h:x=y):iter F R x=iter F R y:=by rw [h]
@[congr] theorem bind_cong {α β:Type} {o o':Option α} {f:α→Option β} (h:o=o'):o.bind f=o'.bind f:=by rw [h]
@[congr] theorem ifT_cong {t t':T} {x y:Option (List T)} (h:t=t'):ifT t x y=ifT t' x y:=by rw [h]
@[congr] theorem jn_cong {k:Sem1} {b:Sem1→Option (List T)}:jn k b=jn k b:=rfl
@[congr] theorem cl0_cong {o o':Option (List T)} {k:Option (List T)} (h:o=o'):cl0 o k=cl0 o' k:=by rw [h]
@[congr] theorem ar0_cong {k:Option (List T)} {l l':List T} (h:l=l'):ar0 k l=ar0 k l':=by rw [h]
@[congr] theorem cl1_cong {o o':Option (List T)} {k:T→Option (List T)} (h:o=o'):cl1 o k=cl1 o' k:=by rw [h]
@[congr] theorem ar1_cong {k:T→Option (List T)} {l l':List T} (h:l=l'):ar1 k l=ar1 k l':=by rw [h]
@[congr] theorem cl2_cong {o o':Option (List T)} {k:T→T→Option (List T)} (h:o=o'):cl2 o k=cl2 o' k:=by rw [h]
@[congr] theorem ar2_cong {k:T→T→Option (List T)} {l l':List T} (h:l=l'):ar2 k l=ar2 k l':=by rw [h]
@[congr] theorem cl3_cong {o o':Option (List T)} {k:T→T→T→Option (List T)} (h:o=o'):cl3 o k=cl3 o' k:=by rw [h]
@[congr] theorem ar3_cong {k:T→T→T→Option (List T)} {l l':List T} (h:l=l'):ar3 k l=ar3 k l':=by rw [h]
@[congr] theorem cl4_cong {o o':Option (List T)} {k:T→T→T→T→Option (List T)} (h:o=o'):cl4 o k=cl4 o' k:=by rw [h]
@[congr] theorem ar4_cong {k:T→T→T→T→Option (List T)} {l l':List T} (h:l=l'):ar4 k l=ar4 k l':=by rw [h]
@[congr] theorem cl5_cong {o o':Option (List T)} {k:T→T→T→T→T→Option (List T)} (h:o=o'):cl5 o k=cl5 o' k:=by rw [h]
@[congr] theorem ar5_cong {k:T→T→T→T→T→Option (List T)} {l l':List T} (h:l=l'):ar5 k l=ar5 k l':=by rw [h]
@[congr] theorem cl6_cong {o o':Option (List T)} {k:T→T→T→T→T→T→Option (List T)} (h:o=o'):cl6 o k=cl6 o' k:=by rw [h]
@[congr] theorem ar6_cong {k:T→T→T→T→T→T→Option (List T)} {l l':List T} (h:l=l'):ar6 k l=ar6 k l':=by rw [h]
@[congr] theorem cl7_cong {o o':Option (List T)} {k:T→T→T→T→T→T→T→Option (List T)} (h:o=o'):cl7 o k=cl7 o' k:=by rw [h]
@[congr] theorem ar7_cong {k:T→T→T→T→T→T→T→Option (List T)} {l l':List T} (h:l=l'):ar7 k l=ar7 k l':=by rw [h]
@[congr] theorem cl8_cong {o o':Option (List T)} {k:T→T→T→T→T→T→T→T→Option (List T)} (h:o=o'):cl8 o k=cl8 o' k:=by rw [h]
@[congr] theorem ar8_cong {k:T→T→T→T→T→T→T→T→Option (List T)} {l l':List T} (h:l=l'):ar8 k l=ar8 k l':=by rw [h]
@[congr] theorem cl9_cong {o o':Option (List T)} {k:T→T→T→T→T→T→T→T→T→Option (List T)} (h:o=o'):cl9 o k=cl9 o' k:=by rw [h]
@[congr] theorem ar9_cong {k:T→T→T→T→T→T→T→T→T→Option (List T)} {l l':List T} (h:l=l'):ar9 k l=ar9 k l':=by rw [h]
@[congr] theorem cl10_cong {o o':Option (List T)} {k:T→T→T→T→T→T→T→T→T→T→Option (List T)} (h:o=o'):cl10 o k=cl10 o' k:=by rw [h]
@[congr] theorem ar10_cong {k:T→T→T→T→T→T→T→T→T→T→Option (List T)} {l l':List T} (h:l=l'):ar10 k l=ar10 k l':=by rw [h]
@[congr] theorem cl11_cong {o o':Option (List T)} {k:T→T→T→T→T→T→T→T→T→T→T→Option (List T)} (h:o=o'):cl11 o k=cl11 o' k:=by rw [h]
@[congr] theorem ar11_cong {k:T→T→T→T→T→T→T→T→T→T→T→Option (List T)} {l l':List T} (h:l=l'):ar11 k l=ar11 k l':=by rw [h]
@[congr] theorem cl12_cong {o o':Option (List T)} {k:T→T→T→T→T→T→T→T→T→T→T→T→Option (List T)} (h:o=o'):cl12 o k=cl12 o' k:=by rw [h]
@[congr] theorem ar12_cong {k:T→T→T→T→T→T→T→T→T→T→T→T→Option (List T)} {l l':List T} (h:l=l'):ar12 k l=ar12 k l':=by rw [h]
@[congr] theorem cl13_cong {o o':Option (List T)} {k:T→T→T→T→T→T→T→T→T→T→T→T→T→Option (List T)} (h:o=o'):cl13 o k=cl13 o' k:=by rw [h]
@[congr] theorem ar13_cong {k:T→T→T→T→T→T→T→T→T→T→T→T→T→Option (List T)} {l l':List T} (h:l=l'):ar13 k l=ar13 k l':=by rw [h]
@[congr] theorem cl14_cong {o o':Option (List T)} {k:T→T→T→T→T→T→T→T→T→T→T→T→T→T→Option (List T)} (h:o=o'):cl14 o k=cl14 o' k:=by rw [h]
@[congr] theorem ar14_cong {k:T→T→T→T→T→T→T→T→T→T→T→T→T→T→Option (List T)} {l l':List T} (h:l=l'):ar14 k l=ar14 k l':=by rw [h]
@[congr] theorem cl15_cong {o o':Option (List T)} {k:T→T→T→T→T→T→T→T→T→T→T→T→T→T→T→Option (List T)} (h:o=o'):cl15 o k=cl15 o' k:=by rw [h]
@[congr] theorem ar15_cong {k:T→T→T→T→T→T→T→T→T→T→T→T→T→T→T→Option (List T)} {l l':List T} (h:l=l'):ar15 k l=ar15 k l':=by rw [h]
@[congr] theorem cl16_cong {o o':Option (List T)} {k:T→T→T→T→T→T→T→T→T→T→T→T→T→T→T→T→Option (List T)} (h:o=o'):cl16 o k=cl16 o' k:=by rw [h]
@[congr] theorem ar16_cong {k:T→T→T→T→T→T→T→T→T→T→T→T→T→T→T→T→Option (List T)} {l l':List T} (h:l=l'):ar16 k l=ar16 k l':=by rw [h]
theorem ifT_p (b:Bool) (x y:Option (List T)):ifT (bb b) x y=if b=true then x else y:=by cases b <;> rfl
theorem ev_len0:Prim.ev .len [.l []]=some (ii 0):=rfl
theorem ev_rem64 (a b:Int) (h:b≠0):Prim.ev (.bin .rem) [ii a,ii b]=some (ii (a.tmod b)):=by
 simp only [Prim.ev,T.val,binV,Option.bind_some,if_true,h,if_false]
theorem ev_mx64 (a b:Int):Prim.ev .mx [ii a,ii b]=some (ii (if b > a then b else a)):=rfl
theorem ev_mn64 (a b:Int):Prim.ev .mn [ii a,ii b]=some (ii (if b < a then b else a)):=rfl
theorem ev_eqs4 (a b c d a' b' c' d':Int):Prim.ev (.eqs [1,1,1,1]) [ii a,ii b,ii c,ii d,ii a',ii b',ii c',ii d']=some (bb (a == a' && (b == b' && (c == c' && (d == d'))))):=by
 simp [Prim.ev,eqT,eqV]
theorem ev_eqs31 (a b c a' b' c':Int) (d d':Bool):Prim.ev (.eqs [1,1,1,4]) [ii a,ii b,ii c,bb d,ii a',ii b',ii c',bb d']=some (bb (a == a' && (b == b' && (c == c' && (d == d'))))):=by
 simp [Prim.ev,eqT,eqV]
theorem ev_lit0 {w:Nat} (h:0 < w):Prim.ev (.lit w []) []=some (.l []):=by
 simp [Prim.ev,masked,chunks,h]
theorem lit2_Int (a b:Int):Prim.ev (.lit 1 [true,true]) [ii a,ii b]=some (.l ([a,b].map eInt)):=by simp [Prim.ev,masked,chunks,scal,eInt]
theorem litn2_Int (a b:Int):Prim.ev (.lit 1 []) [ii a,ii b]=some (.l ([a,b].map eInt)):=by simp [Prim.ev,masked,chunks,eInt]
theorem app2_Int {l:List Int} {x y:Int} (h:l.length < 4294967294):Prim.ev (.app true 1) [.l (l.map eInt),.l ([x,y].map eInt)]=some (.l ((l++[x,y]).map eInt)):=app_Int_true (by simp;omega)
theorem int_beq (a b:Int):((a == b)=true)=(a=b):=by simp
theorem int_bne (a b:Int):((a != b)=true)=¬ (a=b):=by simp
theorem b_not (b:Bool):((!b)=true)=¬ (b=true):=by simp
theorem b_bne (a b:Bool):((a != b)=true)=¬ ((a=true)=(b=true)):=by cases a <;> cases b <;> simp
theorem b_beq (a b:Bool):((a == b)=true)=((a=true)=(b=true)):=by cases a <;> cases b <;> simp
theorem cast_add (a b:Nat):((a+b:Nat):Int)=(a:Int)+b:=by simp
theorem cast_1:((1:Nat):Int)=1:=rfl
theorem cast_2:((2:Nat):Int)=2:=rfl
theorem cast_3:((3:Nat):Int)=3:=rfl
theorem cast_5:((5:Nat):Int)=5:=rfl
theorem cast_6:((6:Nat):Int)=6:=rfl
theorem cast_7:((7:Nat):Int)=7:=rfl
theorem cast_9:((9:Nat):Int)=9:=rfl
theorem cast_0:((0:Nat):Int)=0:=rfl
theorem if_rw {α:Type} {p q:Prop} [Decidable p] [Decidable q] (h:p↔q) (x y:α):(if p then x else y)=if q then x else y:=by
 by_cases hq:q
 ·rw [if_pos (h.2 hq),if_pos hq]
 ·rw [if_neg (fun hp=>hq (h.1 hp)),if_neg hq]
def allB (n:Nat) (p:Nat→Bool):Bool:=(List.range n).all p
theorem allB_iff {n:Nat} {p:Nat→Bool}:allB n p=true↔∀ i,i < n→p i=true:=by
 simp [allB]
theorem iter_all {β σ:Type} {F:(σ→Option β)→σ→Option β} (n:Nat) (st:Nat→σ) (p:Nat→Bool) {outT outF:Option β}
  (step:∀ i:Nat,(i:Int) < (n:Int)→∀ s,F s (st i)=if p i=true then s (st (i+1)) else outF) (fin:∀ s,F s (st n)=outT) {R:Nat} (hR:n < R) :
  iter F R (st 0)=if allB n p=true then outT else outF:=by
 classical
 have:∀ (d i:Nat),i+d=n→∀ R,d < R→iter F R (st i)=if (∀ j,i≤j→j < n→p j=true) then outT else outF:=by
  intro d
  induction d with
  | zero =>
   intro i hi R hR
   cases R with
   | zero=>omega
   | succ R =>
    have hi:i=n:=hi
    subst hi
    rw [if_pos (fun j h1 h2=>absurd h1 (by omega))]
    exact fin _
  | succ d ih =>
   intro i hi R hR
   cases R with
   | zero=>omega
   | succ R =>
    unfold iter
    rw [step i (by omega)]
    by_cases hp:p i=true
    ·rw [if_pos hp,ih (i+1) (by omega) R (by omega)]
     refine if_rw ⟨fun h j h1 h2=>?_,fun h j h1 h2=>h j (by omega) h2⟩ _ _
     rcases Nat.lt_or_ge i j with h3 | h3
     ·exact h j h3 h2
     ·have:j=i:=by omega
      subst this;exact hp
    ·rw [if_neg hp,if_neg fun h=>hp (h i (Nat.le_refl i) (by omega))]
 rw [this n 0 (by omega) R hR]
 exact if_rw ⟨fun h=>allB_iff.2 fun i hi=>h i (Nat.zero_le i) hi,fun h j _ h2=>allB_iff.1 h j h2⟩ _ _
def findP {α:Type} (p:α→Bool) (l:List α):Int:=match l.findIdx? p with | some i=>(i:Int) | none=>-1
theorem findP_lt {α:Type} (p:α→Bool) (l:List α):findP p l < l.length:=by
 unfold findP
 cases h:l.findIdx? p with
 | none=>show (-1:Int) < _;omega
 | some i =>
  obtain ⟨h1,_⟩:=List.findIdx?_eq_some_iff_getElem.1 h
  show (i:Int) < _;omega
theorem findP_ge {α:Type} (p:α→Bool) (l:List α):-1≤findP p l:=by
 unfold findP
 cases h:l.findIdx? p with
 | none=>show (-1:Int)≤-1;omega
 | some i=>show (-1:Int)≤(i:Int);omega
theorem findP_spec {α:Type} [Inhabited α] (p:α→Bool) (l:List α) (h:0≤findP p l):p (gt l (findP p l))=true:=by
 unfold findP at h ⊢
 cases h':l.findIdx? p with
 | none=>rw [h'] at h;exact absurd h (by decide)
 | some i =>
  obtain ⟨h1,h2,_⟩:=List.findIdx?_eq_some_iff_getElem.1 h'
  show p (gt l (i:Int))=true
  rw [gt_elem h1];exact h2
theorem findP_none {α:Type} (p:α→Bool) (l:List α):findP p l < 0↔∀ x∈l,p x=false:=by
 unfold findP
 cases h:l.findIdx? p with
 | none =>
  rw [List.findIdx?_eq_none_iff] at h
  exact ⟨fun _=>h,fun _=>by show (-1:Int) < 0;decide⟩
 | some i =>
  obtain ⟨h1,h2,_⟩:=List.findIdx?_eq_some_iff_getElem.1 h
  refine ⟨fun h3=>absurd (show (i:Int) < 0 from h3) (by omega),fun h3=>?_⟩
  rw [h3 _ (List.getElem_mem h1)] at h2
  cases h2
theorem iter_findP {α β σ:Type} [Inhabited α] {F:(σ→Option β)→σ→Option β} (l:List α) (st:Nat→σ) (p:α→Bool) (outS:Int→Option β) {outN:Option β}
  (step:∀ i:Nat,(i:Int) < (l.length:Int)→∀ s,F s (st i)=if p (gt l i)=true then outS i else s (st (i+1))) (fin:∀ s,F s (st l.length)=outN) {R:Nat} (hR:l.length < R) :
  iter F R (st 0)=if findP p l < 0 then outN else outS (findP p l):=by
 have:∀ (d i:Nat),i+d=l.length→∀ R,d < R→iter F R (st i)=(match (l.drop i).findIdx? p with | some k=>outS ((i+k:Nat):Int) | none=>outN):=by
  intro d
  induction d with
  | zero =>
   intro i hi R hR
   cases R with
   | zero=>omega
   | succ R =>
    rw [Nat.add_zero] at hi
    subst hi
    rw [List.drop_length]
    exact fin _
  | succ d ih =>
   intro i hi R hR
   cases R with
   | zero=>omega
   | succ R =>
    have hlt:i < l.length:=by omega
    unfold iter
    rw [step i (by omega),List.drop_eq_getElem_cons hlt,List.findIdx?_cons,gt_elem hlt]
    cases hp:p l[i] with
    | true=>simp
    | false =>
     simp only [Bool.false_eq_true,if_false]
     rw [ih (i+1) (by omega) R (by omega)]
     cases (l.drop (i+1)).findIdx? p with
     | none=>rfl
     | some k=>simp [Int.add_assoc,Int.add_comm 1]
 have h:=this l.length 0 (by omega) R hR
 rw [h,List.drop_zero]
 unfold findP
 cases l.findIdx? p with
 | none=>rfl
 | some i =>
  show outS ((0+i:Nat):Int)=if (i:Int) < 0 then outN else outS (i:Int)
  rw [if_neg (by omega),Nat.zero_add]
theorem iter_foldl {α γ β σ:Type} [Inhabited α] {F:(σ→Option β)→σ→Option β} (l:List α) (st:Nat→γ→σ) (g:γ→α→γ) (out:γ→Option β) (c:γ) (Inv:Nat→γ→Prop) (h0:Inv 0 c)
  (step:∀ (i:Nat) c,(i:Int) < (l.length:Int)→Inv i c→Inv (i+1) (g c (gt l i))∧∀ s,F s (st i c)=s (st (i+1) (g c (gt l i)))) (fin:∀ c s,Inv l.length c→F s (st l.length c)=out c) {R:Nat} (hR:l.length < R) :
  iter F R (st 0 c)=out (l.foldl g c):=by
 have:∀ (d i:Nat) (c:γ),i+d=l.length→Inv i c→∀ R,d < R→iter F R (st i c)=out ((l.drop i).foldl g c):=by
  intro d
  induction d with
  | zero =>
   intro i c hi hc R hR
   cases R with
   | zero=>omega
   | succ R =>
    rw [Nat.add_zero] at hi
    subst hi
    rw [List.drop_length]
    exact fin _ _ hc
  | succ d ih =>
   intro i c hi hc R hR
   cases R with
   | zero=>omega
   | succ R =>
    have hlt:i < l.length:=by omega
    unfold iter
    obtain ⟨h1,h2⟩:=step i c (by omega) hc
    rw [h2,List.drop_eq_getElem_cons hlt,List.foldl_cons,ih (i+1) _ (by omega) h1 R (by omega),gt_elem hlt]
 have h:=this l.length 0 c (by omega) h0 R hR
 simpa using h
theorem iter_upto {γ β σ:Type} {F:(σ→Option β)→σ→Option β} (n:Nat) (st:Nat→γ→σ) (g:γ→Nat→γ) (out:γ→Option β) (c:γ) (Inv:Nat→γ→Prop) (h0:Inv 0 c)
  (step:∀ (i:Nat) c,(i:Int) < (n:Int)→Inv i c→Inv (i+1) (g c i)∧∀ s,F s (st i c)=s (st (i+1) (g c i))) (fin:∀ c s,Inv n c→F s (st n c)=out c) {R:Nat} (hR:n < R) :
  iter F R (st 0 c)=out ((List.range n).foldl g c):=by
 have hl:(List.range n).length=n:=List.length_range
 refine iter_foldl (List.range n) st g out c Inv h0 (fun i c hi hc=>?_) (fun c s hc=>?_) (by rw [hl];exact hR)
 ·rw [hl] at hi
  rw [gt_elem (by rw [hl];omega),List.getElem_range]
  exact step i c hi hc
 ·rw [hl] at hc ⊢
  exact fin c s hc
theorem foldl_keep {α β:Type} (p:α→Bool) (f:α→β) (l:List α) (acc:List β):l.foldl (fun c a=>if p a=true then c++[f a] else c) acc=acc++(l.filter p).map f:=by
 induction l generalizing acc with
 | nil=>simp
 | cons a l ih =>
  rw [List.foldl_cons,ih]
  cases h:p a <;> simp [h,List.filter_cons]
theorem foldl_map {α β:Type} (f:α→β) (l:List α) (acc:List β):l.foldl (fun c a=>c++[f a]) acc=acc++l.map f:=by
 induction l generalizing acc with
 | nil=>simp
 | cons a l ih=>rw [List.foldl_cons,ih];simp
theorem iter_allx {β σ:Type} {F:(σ→Option β)→σ→Option β} {R:Nat} {x:σ} (n:Nat) (st:Nat→σ) (p:Nat→Bool) {outT outF:Option β} (hx:x=st 0) (hR:n < R)
  (step:∀ i:Nat,(i:Int) < (n:Int)→∀ s,F s (st i)=if p i=true then s (st (i+1)) else outF) (fin:∀ s,F s (st n)=outT) :
  iter F R x=if allB n p=true then outT else outF:=by rw [hx];exact iter_all n st p step fin hR
theorem iter_findPx {α β σ:Type} [Inhabited α] {F:(σ→Option β)→σ→Option β} {R:Nat} {x:σ} (l:List α) (st:Nat→σ) (p:α→Bool) (outS:Int→Option β) {outN:Option β} (hx:x=st 0) (hR:l.length < R)
  (step:∀ i:Nat,(i:Int) < (l.length:Int)→∀ s,F s (st i)=if p (gt l i)=true then outS i else s (st (i+1))) (fin:∀ s,F s (st l.length)=outN) :
  iter F R x=if findP p l < 0 then outN else outS (findP p l):=by rw [hx];exact iter_findP l st p outS step fin hR
theorem iter_foldlx {α γ β σ:Type} [Inhabited α] {F:(σ→Option β)→σ→Option β} {R:Nat} {x:σ} (l:List α) (st:Nat→γ→σ) (g:γ→α→γ) (out:γ→Option β) (c:γ) (Inv:Nat→γ→Prop) (hx:x=st 0 c) (hR:l.length < R) (h0:Inv 0 c)
  (step:∀ (i:Nat) c,(i:Int) < (l.length:Int)→Inv i c→Inv (i+1) (g c (gt l i))∧∀ s,F s (st i c)=s (st (i+1) (g c (gt l i)))) (fin:∀ c s,Inv l.length c→F s (st l.length c)=out c) :
  iter F R x=out (l.foldl g c):=by rw [hx];exact iter_foldl l st g out c Inv h0 step fin hR
theorem iter_uptox {γ β σ:Type} {F:(σ→Option β)→σ→Option β} {R:Nat} {x:σ} (n:Nat) (st:Nat→γ→σ) (g:γ→Nat→γ) (out:γ→Option β) (c:γ) (Inv:Nat→γ→Prop) (hx:x=st 0 c) (hR:n < R) (h0:Inv 0 c)
  (step:∀ (i:Nat) c,(i:Int) < (n:Int)→Inv i c→Inv (i+1) (g c i)∧∀ s,F s (st i c)=s (st (i+1) (g c i))) (fin:∀ c s,Inv n c→F s (st n c)=out c) :
  iter F R x=out ((List.range n).foldl g c):=by rw [hx];exact iter_upto n st g out c Inv h0 step fin hR
theorem foldl_inv {α γ:Type} [Inhabited α] {l:List α} {g:γ→α→γ} {c:γ} {Inv:Nat→γ→Prop} (h0:Inv 0 c) (step:∀ (i:Nat) c,(i:Int) < (l.length:Int)→Inv i c→Inv (i+1) (g c (gt l i))):Inv l.length (l.foldl g c):=by
 have:∀ (d i:Nat) (c:γ),i+d=l.length→Inv i c→Inv l.length ((l.drop i).foldl g c):=by
  intro d
  induction d with
  | zero=>intro i c hi hc;rw [Nat.add_zero] at hi;subst hi;rw [List.drop_length];exact hc
  | succ d ih =>
   intro i c hi hc
   have hlt:i < l.length:=by omega
   rw [List.drop_eq_getElem_cons hlt,List.foldl_cons]
   have:=step i c (by omega) hc
   rw [gt_elem hlt] at this
   exact ih (i+1) _ (by omega) this
 have h:=this l.length 0 c (by omega) h0
 simpa using h
theorem rounds_lt {n:Nat} (h:n≤1048576):n < rounds:=by unfold rounds;omega
theorem foldl_filter {α:Type} (p:α→Bool) (l:List α) (acc:List α):l.foldl (fun c a=>if p a=true then c++[a] else c) acc=acc++l.filter p:=by
 induction l generalizing acc with
 | nil=>simp
 | cons a l ih =>
  rw [List.foldl_cons,ih]
  cases h:p a <;> simp [h,List.filter_cons]
def ps0:=(And.intro (And.intro (And.intro (And.intro (@bind_some' T (List T)) (And.intro @cl0_s @cl1_s)) (And.intro @cl2_s (And.intro @cl3_s @cl4_s))) (And.intro (And.intro @cl5_s (And.intro @cl6_s @cl7_s)) (And.intro @cl8_s (And.intro @cl9_s @cl10_s)))) (And.intro (And.intro (And.intro @cl11_s (And.intro @cl12_s @cl13_s)) (And.intro @cl14_s (And.intro @cl15_s @cl16_s))) (And.intro (And.intro @ar0_s (And.intro @ar1_s @ar2_s)) (And.intro @ar3_s (And.intro @ar4_s @ar5_s)))))
def ps1:=(And.intro (And.intro (And.intro (And.intro @ar6_s (And.intro @ar7_s @ar8_s)) (And.intro @ar9_s (And.intro @ar10_s @ar11_s))) (And.intro (And.intro @ar12_s (And.intro @ar13_s @ar14_s)) (And.intro @ar15_s (And.intro @ar16_s jn_s)))) (And.intro (And.intro (And.intro ifT_p (And.intro (fun (p:Prop) (_:Decidable p)=>@decide_eq_true_eq p _) Bool.and_eq_true)) (And.intro Bool.or_eq_true (And.intro b_not b_bne))) (And.intro (And.intro b_beq (And.intro int_beq int_bne)) (And.intro @ev_lenM (And.intro ev_len0 @ev_lens)))))
def ps2:=(And.intro (And.intro (And.intro (And.intro @ev_lss (And.intro @ev_leq @ev_gtr)) (And.intro @ev_geq (And.intro @ev_eql @ev_neq))) (And.intro (And.intro @ev_add (And.intro @ev_sub @ev_mul)) (And.intro ev_rem64 (And.intro ev_mx64 ev_mn64)))) (And.intro (And.intro (And.intro ev_bbneq (And.intro ev_bbeql ev_not)) (And.intro @ev_scl_i (And.intro ev_scl_b ev_scl_s))) (And.intro (And.intro @ev_bndZ (And.intro @wrap64 ev_eqs2)) (And.intro ev_eqs4 (And.intro ev_eqs31 @ev_lit0)))))
def ps3:=(And.intro (And.intro (And.intro (And.intro cast_add (And.intro cast_0 cast_1)) (And.intro cast_2 (And.intro cast_3 cast_5))) (And.intro (And.intro cast_6 (And.intro cast_7 cast_9)) (And.intro ev_eqlS (And.intro ev_neqS lit2_Int)))) (And.intro (And.intro (And.intro litn2_Int (And.intro @app2_Int (fun (k:Nat)=>@Int.toNat_natCast k))) (And.intro (fun (α:Type) (f:α→List T) (l:List α)=>@List.length_map α (List T) l f) (And.intro eta_Link eta_Thing))) (And.intro (And.intro eta_Net (And.intro eta_Near eta_Rcd)) (And.intro eta_Way (And.intro eta_Route eta_Self)))))
def ps4:=(And.intro (And.intro (And.intro (And.intro eta_Ear (And.intro eta_Node eta_Packet)) (And.intro eta_World (And.intro @cell_Int_0 @scell_Int_0))) (And.intro (And.intro @app1_Int_false (And.intro @app1n_Int_false @app_Int_false)) (And.intro @appn_Int_false (And.intro @app1_Int_true @app1n_Int_true)))) (And.intro (And.intro (And.intro @app_Int_true (And.intro @appn_Int_true @subL_Int)) (And.intro @subH_Int (And.intro @lit_Int @litn_Int))) (And.intro (And.intro @cell_Bool_0 (And.intro @scell_Bool_0 @app1_Bool_false)) (And.intro @app1n_Bool_false (And.intro @app_Bool_false @appn_Bool_false)))))
def ps5:=(And.intro (And.intro (And.intro (And.intro @app1_Bool_true (And.intro @app1n_Bool_true @app_Bool_true)) (And.intro @appn_Bool_true (And.intro @subL_Bool @subH_Bool))) (And.intro (And.intro @lit_Bool (And.intro @litn_Bool @cell_Link_0)) (And.intro @scell_Link_0 (And.intro @cell_Link_1 @scell_Link_1)))) (And.intro (And.intro (And.intro @cell_Link_2 (And.intro @scell_Link_2 @cell_Link_3)) (And.intro @scell_Link_3 (And.intro @app1_Link_false @app1n_Link_false))) (And.intro (And.intro @app_Link_false (And.intro @appn_Link_false @app1_Link_true)) (And.intro @app1n_Link_true (And.intro @app_Link_true @appn_Link_true)))))
def ps6:=(And.intro (And.intro (And.intro (And.intro @subL_Link (And.intro @subH_Link @lit_Link)) (And.intro @litn_Link (And.intro @cell_Thing_0 @scell_Thing_0))) (And.intro (And.intro @cell_Thing_1 (And.intro @scell_Thing_1 @cell_Thing_2)) (And.intro @scell_Thing_2 (And.intro @cell_Thing_3 @scell_Thing_3)))) (And.intro (And.intro (And.intro @app1_Thing_false (And.intro @app1n_Thing_false @app_Thing_false)) (And.intro @appn_Thing_false (And.intro @app1_Thing_true @app1n_Thing_true))) (And.intro (And.intro @app_Thing_true (And.intro @appn_Thing_true @subL_Thing)) (And.intro @subH_Thing (And.intro @cell_Net_0 @scell_Net_0)))))
def ps7:=(And.intro (And.intro (And.intro (And.intro @cell_Net_1 (And.intro @dig_Net_1 @cell_Net_2)) (And.intro @dig_Net_2 (And.intro @app1_Net_false @app1n_Net_false))) (And.intro (And.intro @app_Net_false (And.intro @appn_Net_false @subL_Net)) (And.intro @subH_Net (And.intro @lit_Net @litn_Net)))) (And.intro (And.intro (And.intro @cell_Near_0 (And.intro @scell_Near_0 @cell_Near_1)) (And.intro @scell_Near_1 (And.intro @app1_Near_false @app1n_Near_false))) (And.intro (And.intro @app_Near_false (And.intro @appn_Near_false @app1_Near_true)) (And.intro @app1n_Near_true (And.intro @app_Near_true @appn_Near_true)))))
def ps8:=(And.intro (And.intro (And.intro (And.intro @subL_Near (And.intro @subH_Near @lit_Near)) (And.intro @litn_Near (And.intro @cell_Rcd_0 @scell_Rcd_0))) (And.intro (And.intro @cell_Rcd_1 (And.intro @scell_Rcd_1 @cell_Rcd_2)) (And.intro @scell_Rcd_2 (And.intro @cell_Rcd_3 @scell_Rcd_3)))) (And.intro (And.intro (And.intro @cell_Rcd_4 (And.intro @scell_Rcd_4 @cell_Rcd_5)) (And.intro @dig_Rcd_5 (And.intro @cell_Rcd_6 @scell_Rcd_6))) (And.intro (And.intro @cell_Rcd_7 (And.intro @scell_Rcd_7 @app1_Rcd_false)) (And.intro @app1n_Rcd_false (And.intro @app_Rcd_false @appn_Rcd_false)))))
def ps9:=(And.intro (And.intro (And.intro (And.intro @subL_Rcd (And.intro @subH_Rcd @lit_Rcd)) (And.intro @litn_Rcd (And.intro @cell_Way_0 @scell_Way_0))) (And.intro (And.intro @cell_Way_1 (And.intro @scell_Way_1 @cell_Way_2)) (And.intro @dig_Way_2 (And.intro @app1_Way_false @app1n_Way_false)))) (And.intro (And.intro (And.intro @app_Way_false (And.intro @appn_Way_false @subL_Way)) (And.intro @subH_Way (And.intro @lit_Way @litn_Way))) (And.intro (And.intro @cell_Route_0 (And.intro @scell_Route_0 @cell_Route_1)) (And.intro @scell_Route_1 (And.intro @cell_Route_2 @scell_Route_2)))))
def ps10:=(And.intro (And.intro (And.intro (And.intro @cell_Route_3 (And.intro @scell_Route_3 @cell_Route_4)) (And.intro @scell_Route_4 (And.intro @cell_Route_5 @dig_Route_5))) (And.intro (And.intro @app1_Route_false (And.intro @app1n_Route_false @app_Route_false)) (And.intro @appn_Route_false (And.intro @subL_Route @subH_Route)))) (And.intro (And.intro (And.intro @lit_Route (And.intro @litn_Route @cell_Self_0)) (And.intro @scell_Self_0 (And.intro @cell_Self_1 @scell_Self_1))) (And.intro (And.intro @cell_Self_2 (And.intro @scell_Self_2 @cell_Self_3)) (And.intro @dig_Self_3 (And.intro @cell_Self_4 @dig_Self_4)))))
def ps11:=(And.intro (And.intro (And.intro (And.intro @cell_Self_5 (And.intro @dig_Self_5 @cell_Self_6)) (And.intro @dig_Self_6 (And.intro @app1_Self_false @app1n_Self_false))) (And.intro (And.intro @app_Self_false (And.intro @appn_Self_false @subL_Self)) (And.intro @subH_Self (And.intro @lit_Self @litn_Self)))) (And.intro (And.intro (And.intro @cell_Ear_0 (And.intro @scell_Ear_0 @cell_Ear_1)) (And.intro @scell_Ear_1 (And.intro @cell_Ear_2 @scell_Ear_2))) (And.intro (And.intro @cell_Ear_3 (And.intro @scell_Ear_3 @app1_Ear_false)) (And.intro @app1n_Ear_false (And.intro @app_Ear_false @appn_Ear_false)))))
def ps12:=(And.intro (And.intro (And.intro (And.intro @app1_Ear_true (And.intro @app1n_Ear_true @app_Ear_true)) (And.intro @appn_Ear_true (And.intro @subL_Ear @subH_Ear))) (And.intro (And.intro @lit_Ear (And.intro @litn_Ear @cell_Node_0)) (And.intro @scell_Node_0 (And.intro @cell_Node_1 @scell_Node_1)))) (And.intro (And.intro (And.intro @cell_Node_2 (And.intro @scell_Node_2 @cell_Node_3)) (And.intro @dig_Node_3 (And.intro @cell_Node_4 @dig_Node_4))) (And.intro (And.intro @cell_Node_5 (And.intro @dig_Node_5 @cell_Node_6)) (And.intro @dig_Node_6 (And.intro @cell_Node_7 @dig_Node_7)))))
def ps13:=(And.intro (And.intro (And.intro (And.intro @app1_Node_false (And.intro @app1n_Node_false @app_Node_false)) (And.intro @appn_Node_false (And.intro @subL_Node @subH_Node))) (And.intro (And.intro @lit_Node (And.intro @litn_Node @cell_Packet_0)) (And.intro @scell_Packet_0 (And.intro @cell_Packet_1 @scell_Packet_1)))) (And.intro (And.intro (And.intro @cell_Packet_2 (And.intro @scell_Packet_2 @cell_Packet_3)) (And.intro @scell_Packet_3 (And.intro @cell_Packet_4 @dig_Packet_4))) (And.intro (And.intro @cell_Packet_5 (And.intro @dig_Packet_5 @app1_Packet_false)) (And.intro @app1n_Packet_false (And.intro @app_Packet_false @appn_Packet_false)))))
def ps14:=(And.intro (And.intro (And.intro (And.intro @subL_Packet (And.intro @subH_Packet @lit_Packet)) (And.intro @litn_Packet (And.intro @cell_World_0 @scell_World_0))) (And.intro (And.intro @cell_World_1 (And.intro @dig_World_1 @cell_World_2)) (And.intro @dig_World_2 (And.intro @cell_World_3 @dig_World_3)))) (And.intro (And.intro (And.intro @cell_World_4 (And.intro @dig_World_4 @cell_World_5)) (And.intro @dig_World_5 (And.intro @cell_World_6 @dig_World_6))) (And.intro (And.intro @cell_World_7 (And.intro @dig_World_7 @cell_World_8)) (And.intro @dig_World_8 (And.intro @cell_World_9 @scell_World_9)))))
def ps15:=(And.intro (And.intro (And.intro @app1_World_false @app1n_World_false) (And.intro @app_World_false @appn_World_false)) (And.intro (And.intro @subL_World @subH_World) (And.intro @lit_World @litn_World)))
def pq:=(And.intro (And.intro (And.intro (And.intro (And.intro pv_s jn_s) (And.intro ifT_p (And.intro Yz_s Ya_s))) (And.intro (And.intro Yb_s (And.intro Yl_s Ye_s)) (And.intro Yn_s (And.intro Yt_s Yp_s)))) (And.intro (And.intro (And.intro Yo_s (And.intro Yu_s Yg_s)) (And.intro Ym_s (And.intro Yh_s Ys_s))) (And.intro (And.intro Yv_s (And.intro Yw_s Yx_s)) (And.intro Yy_s (And.intro Yc_s Yq_s))))) (And.intro (And.intro (And.intro (And.intro Y1_s Y2_s) (And.intro Y3_s (And.intro Y4_s Y6_s))) (And.intro (And.intro Y8_s (And.intro @ar0_s @ar1_s)) (And.intro @ar2_s (And.intro @ar3_s @ar4_s)))) (And.intro (And.intro (And.intro @ar5_s (And.intro @ar6_s @ar7_s)) (And.intro @ar8_s (And.intro @ar9_s @ar10_s))) (And.intro (And.intro @ar11_s (And.intro @ar12_s @ar13_s)) (And.intro @ar14_s (And.intro @ar15_s @ar16_s))))))
def ps:=(And.intro (And.intro (And.intro (And.intro ps0 ps1) (And.intro ps2 ps3)) (And.intro (And.intro ps4 ps5) (And.intro ps6 ps7))) (And.intro (And.intro (And.intro ps8 ps9) (And.intro ps10 ps11)) (And.intro (And.intro ps12 ps13) (And.intro ps14 ps15))))
end Go.Proofs.YtiebbbmibbkpcaaC

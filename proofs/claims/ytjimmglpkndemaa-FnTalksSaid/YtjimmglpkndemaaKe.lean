/- The walk by reflection: a part of its laws, for any function. Conditions: none. -/
import Derived.Test.YtjimmglpkndemaaKd
namespace Go.Proofs.YtjimmglpkndemaaC
set_option linter.unusedVariables false
set_option linter.unusedSimpArgs false
abbrev ii (n:Int):T:=.c (.int .i64 n)
abbrev bb (b:Bool):T:=.c (.bool b)
def I64 (n:Int):Prop:=(Lit.int .i64 n).wf=true
theorem I64.lo {n:Int} (h:I64 n):-9223372036854775808≤n:=by
 simp [I64,Lit.wf,IntKind.min,IntKind.max,IntKind.signed,IntKind.bits] at h;omega
theorem I64.hi {n:Int} (h:I64 n):n < 9223372036854775808:=by
 simp [I64,Lit.wf,IntKind.min,IntKind.max,IntKind.signed,IntKind.bits] at h;omega
theorem I64.mk {n:Int} (h:-9223372036854775808≤n) (h':n < 9223372036854775808):I64 n:=by
 simp [I64,Lit.wf,IntKind.min,IntKind.max,IntKind.signed,IntKind.bits];omega
def gt {α:Type} [Inhabited α] (l:List α) (n:Int):α:=l.getD n.toNat default
theorem gt_get {α:Type} [Inhabited α] {enc:α→List T} {l:List α} {n:Int} (h:0≤n) (h':n < l.length):(l.map enc)[n.toNat]?=some (enc (gt l n)):=by
 have hn:n.toNat < l.length:=by omega
 rw [List.getElem?_map,List.getElem?_eq_getElem hn]
 simp [gt,List.getD,List.getElem?_eq_getElem hn]
theorem rowAtZ {xs:List (List T)} {n:Int} {r:List T} (h0:0≤n) (h:xs[n.toNat]?=some r):rowAt (.l xs) (ii n)=some r:=by
 simp [rowAt,T.rows,T.int,h0,h]
theorem ev_bndZ {α:Type} [Inhabited α] {enc:α→List T} {l:List α} {n:Int} (h:0≤n) (h':n < l.length):Prim.ev .bnd [.l (l.map enc),ii n]=some (bb true):=by
 simp [Prim.ev,rowAtZ h (gt_get (enc:=enc) h h')]
theorem ev_lenM {α:Type} {enc:α→List T} {l:List α}:Prim.ev .len [.l (l.map enc)]=some (ii l.length):=by
 rw [ev_len,List.length_map]
structure Link where
 a:Int
 b:Int
 cost:Int
 area:Int
 deriving Inhabited
structure Thing where
 owner:Int
 key:Int
 cost:Int
 far:Bool
 deriving Inhabited
structure Net where
 n:Int
 links:List Link
 things:List Thing
 deriving Inhabited
structure Near where
 to:Int
 cost:Int
 deriving Inhabited
structure Rcd where
 area:Int
 kind:Int
 owner:Int
 key:Int
 seq:Int
 near:List Near
 cost:Int
 far:Bool
 deriving Inhabited
structure Way where
 to:Int
 cost:Int
 hops:List Int
 deriving Inhabited
structure Route where
 thing:Bool
 to:Int
 kind:Int
 cost:Int
 far:Int
 hops:List Int
 deriving Inhabited
structure Self where
 id:Int
 boot:Int
 net:Net
 heard:List Int
 store:List Rcd
 deriving Inhabited
structure Ear where
 node:Int
 area:Int
 left:Int
 both:Bool
 deriving Inhabited
structure Node where
 self:Self
 ears:List Ear
 deriving Inhabited
structure Packet where
 kind:Int
 frm:Int
 to:Int
 area:Int
 heard:List Int
 list:List Rcd
 deriving Inhabited
structure Line where
 thing:Bool
 to:Int
 hops:List Int
 deriving Inhabited
structure Turn where
 gone:Bool
 line:Line
 deriving Inhabited
structure World where
 net:Net
 links:List Bool
 up:List Bool
 boots:List Int
 nodes:List Node
 flying:List Packet
 told:List Rcd
 errors:Int
 deriving Inhabited
set_option linter.unusedSimpArgs false
set_option linter.defProp false
@[congr] theorem iter_cong {α β:Type} {F:(α→Option β)→α→Option β} {R:Nat} {x y:α} (h:x=y):iter F R x=iter F R y:=by rw [h]
@[congr] theorem bind_cong {α β:Type} {o o':Option α} {f:α→Option β} (h:o=o'):o.bind f=o'.bind f:=by rw [h]
@[congr] theorem ifT_cong {t t':T} {x y:Option (List T)} (h:t=t'):ifT t x y=ifT t' x y:=by rw [h]
@[congr] theorem jn_cong {k:Sem1} {b:Sem1→Option (List T)}:jn k b=jn k b:=rfl
@[congr] theorem cl1_cong {o o':Option (List T)} {k:T→Option (List T)} (h:o=o'):cl1 o k=cl1 o' k:=by rw [h]
@[congr] theorem ar1_cong {k:T→Option (List T)} {l l':List T} (h:l=l'):ar1 k l=ar1 k l':=by rw [h]
@[congr] theorem cl2_cong {o o':Option (List T)} {k:T→T→Option (List T)} (h:o=o'):cl2 o k=cl2 o' k:=by rw [h]
@[congr] theorem ar2_cong {k:T→T→Option (List T)} {l l':List T} (h:l=l'):ar2 k l=ar2 k l':=by rw [h]
@[congr] theorem cl3_cong {o o':Option (List T)} {k:T→T→T→Option (List T)} (h:o=o'):cl3 o k=cl3 o' k:=by rw [h]
@[congr] theorem ar3_cong {k:T→T→T→Option (List T)} {l l':List T} (h:l=l'):ar3 k l=ar3 k l':=by rw [h]
@[congr] theorem cl4_cong {o o':Option (List T)} {k:T→T→T→T→Option (List T)} (h:o=o'):cl4 o k=cl4 o' k:=by rw [h]
@[congr] theorem ar4_cong {k:T→T→T→T→Option (List T)} {l l':List T} (h:l=l'):ar4 k l=ar4 k l':=by rw [h]
@[congr] theorem ar5_cong {k:T→T→T→T→T→Option (List T)} {l l':List T} (h:l=l'):ar5 k l=ar5 k l':=by rw [h]
@[congr] theorem cl7_cong {o o':Option (List T)} {k:T→T→T→T→T→T→T→Option (List T)} (h:o=o'):cl7 o k=cl7 o' k:=by rw [h]
@[congr] theorem cl8_cong {o o':Option (List T)} {k:T→T→T→T→T→T→T→T→Option (List T)} (h:o=o'):cl8 o k=cl8 o' k:=by rw [h]
@[congr] theorem cl9_cong {o o':Option (List T)} {k:T→T→T→T→T→T→T→T→T→Option (List T)} (h:o=o'):cl9 o k=cl9 o' k:=by rw [h]
@[congr] theorem ar9_cong {k:T→T→T→T→T→T→T→T→T→Option (List T)} {l l':List T} (h:l=l'):ar9 k l=ar9 k l':=by rw [h]
@[congr] theorem ar10_cong {k:T→T→T→T→T→T→T→T→T→T→Option (List T)} {l l':List T} (h:l=l'):ar10 k l=ar10 k l':=by rw [h]
@[congr] theorem ar11_cong {k:T→T→T→T→T→T→T→T→T→T→T→Option (List T)} {l l':List T} (h:l=l'):ar11 k l=ar11 k l':=by rw [h]
@[congr] theorem cl14_cong {o o':Option (List T)} {k:T→T→T→T→T→T→T→T→T→T→T→T→T→T→Option (List T)} (h:o=o'):cl14 o k=cl14 o' k:=by rw [h]
@[congr] theorem ar14_cong {k:T→T→T→T→T→T→T→T→T→T→T→T→T→T→Option (List T)} {l l':List T} (h:l=l'):ar14 k l=ar14 k l':=by rw [h]
theorem ifT_p (b:Bool) (x y:Option (List T)):ifT (bb b) x y=if b=true then x else y:=by cases b <;> rfl
theorem ev_len0:Prim.ev .len [.l []]=some (ii 0):=rfl
theorem ev_rem64 (a b:Int) (h:b≠0):Prim.ev (.bin .rem) [ii a,ii b]=some (ii (a.tmod b)):=by
 simp only [Prim.ev,T.val,binV,Option.bind_some,if_true,h,if_false]
theorem ev_mx64 (a b:Int):Prim.ev .mx [ii a,ii b]=some (ii (if b > a then b else a)):=rfl
theorem ev_mn64 (a b:Int):Prim.ev .mn [ii a,ii b]=some (ii (if b < a then b else a)):=rfl
theorem ev_eqs4 (a b c d a' b' c' d':Int):Prim.ev (.eqs [1,1,1,1]) [ii a,ii b,ii c,ii d,ii a',ii b',ii c',ii d']=some (bb (a == a' && (b == b' && (c == c' && (d == d'))))):=by
 simp [Prim.ev,eqT,eqV]
theorem ev_eqs31 (a b c a' b' c':Int) (d d':Bool):Prim.ev (.eqs [1,1,1,4]) [ii a,ii b,ii c,bb d,ii a',ii b',ii c',bb d']=some (bb (a == a' && (b == b' && (c == c' && (d == d'))))):=by
 simp [Prim.ev,eqT,eqV]
theorem ev_lit0 {w:Nat} (h:0 < w):Prim.ev (.lit w []) []=some (.l []):=by
 simp [Prim.ev,masked,chunks,h]
theorem int_beq (a b:Int):((a == b)=true)=(a=b):=by simp
theorem int_bne (a b:Int):((a != b)=true)=¬ (a=b):=by simp
theorem b_not (b:Bool):((!b)=true)=¬ (b=true):=by simp
theorem b_bne (a b:Bool):((a != b)=true)=¬ ((a=true)=(b=true)):=by cases a <;> cases b <;> simp
theorem b_beq (a b:Bool):((a == b)=true)=((a=true)=(b=true)):=by cases a <;> cases b <;> simp
theorem cast_add (a b:Nat):((a+b:Nat):Int)=(a:Int)+b:=by simp
theorem cast_1:((1:Nat):Int)=1:=rfl
theorem cast_2:((2:Nat):Int)=2:=rfl
theorem cast_3:((3:Nat):Int)=3:=rfl
theorem cast_5:((5:Nat):Int)=5:=rfl
theorem cast_6:((6:Nat):Int)=6:=rfl
theorem cast_7:((7:Nat):Int)=7:=rfl
theorem cast_9:((9:Nat):Int)=9:=rfl
theorem cast_0:((0:Nat):Int)=0:=rfl
def ps0:=(And.intro (And.intro (And.intro (And.intro (@bind_some' T (List T)) (And.intro trivial @cl1_s)) (And.intro @cl2_s (And.intro @cl3_s @cl4_s))) (And.intro (And.intro trivial (And.intro trivial @cl7_s)) (And.intro @cl8_s (And.intro @cl9_s trivial)))) (And.intro (And.intro (And.intro trivial (And.intro trivial trivial)) (And.intro @cl14_s (And.intro trivial trivial))) (And.intro (And.intro trivial (And.intro @ar1_s @ar2_s)) (And.intro @ar3_s (And.intro @ar4_s @ar5_s)))))
def ps1:=(And.intro (And.intro (And.intro (And.intro trivial (And.intro trivial trivial)) (And.intro @ar9_s (And.intro @ar10_s @ar11_s))) (And.intro (And.intro trivial (And.intro trivial @ar14_s)) (And.intro trivial (And.intro trivial ifT_p)))) (And.intro (And.intro (And.intro (fun (p:Prop) (_:Decidable p)=>@decide_eq_true_eq p _) (And.intro Bool.and_eq_true Bool.or_eq_true)) (And.intro b_not (And.intro b_bne b_beq))) (And.intro (And.intro int_beq (And.intro int_bne @ev_lenM)) (And.intro ev_len0 (And.intro @ev_lens @ev_lss)))))
def ps2:=(And.intro (And.intro (And.intro (And.intro @ev_leq (And.intro @ev_gtr @ev_geq)) (And.intro @ev_eql (And.intro @ev_neq @ev_add))) (And.intro (And.intro @ev_sub (And.intro @ev_mul ev_rem64)) (And.intro ev_mx64 (And.intro ev_mn64 ev_bbneq)))) (And.intro (And.intro (And.intro ev_bbeql (And.intro ev_not @ev_scl_i)) (And.intro ev_scl_b (And.intro ev_scl_s @ev_bndZ))) (And.intro (And.intro @wrap64 (And.intro ev_eqs2 ev_eqs4)) (And.intro ev_eqs31 (And.intro @ev_lit0 cast_add)))))
def ps3:=(And.intro (And.intro (And.intro (And.intro cast_0 (And.intro cast_1 cast_2)) (And.intro cast_3 (And.intro cast_5 cast_6))) (And.intro (And.intro cast_7 (And.intro cast_9 ev_eqlS)) (And.intro ev_neqS (And.intro trivial trivial)))) (And.intro (And.intro (And.intro trivial (And.intro (fun (k:Nat)=>@Int.toNat_natCast k) (fun (α:Type) (f:α→List T) (l:List α)=>@List.length_map α (List T) l f))) (And.intro trivial (And.intro trivial trivial))) (And.intro (And.intro trivial (And.intro trivial trivial)) (And.intro trivial (And.intro trivial trivial)))))
def ps4:=(And.intro (And.intro (And.intro (And.intro trivial (And.intro trivial trivial)) (And.intro trivial (And.intro trivial trivial))) (And.intro (And.intro trivial (And.intro trivial trivial)) (And.intro trivial (And.intro trivial trivial)))) (And.intro (And.intro (And.intro trivial (And.intro trivial trivial)) (And.intro trivial (And.intro trivial trivial))) (And.intro (And.intro trivial (And.intro trivial trivial)) (And.intro trivial (And.intro trivial trivial)))))
def ps5:=(And.intro (And.intro (And.intro (And.intro trivial (And.intro trivial trivial)) (And.intro trivial (And.intro trivial trivial))) (And.intro (And.intro trivial (And.intro trivial trivial)) (And.intro trivial (And.intro trivial trivial)))) (And.intro (And.intro (And.intro trivial (And.intro trivial trivial)) (And.intro trivial (And.intro trivial trivial))) (And.intro (And.intro trivial (And.intro trivial trivial)) (And.intro trivial (And.intro trivial trivial)))))
def ps6:=(And.intro (And.intro (And.intro (And.intro trivial (And.intro trivial trivial)) (And.intro trivial (And.intro trivial trivial))) (And.intro (And.intro trivial (And.intro trivial trivial)) (And.intro trivial (And.intro trivial trivial)))) (And.intro (And.intro (And.intro trivial (And.intro trivial trivial)) (And.intro trivial (And.intro trivial trivial))) (And.intro (And.intro trivial (And.intro trivial trivial)) (And.intro trivial (And.intro trivial trivial)))))
def ps7:=(And.intro (And.intro (And.intro (And.intro trivial (And.intro trivial trivial)) (And.intro trivial (And.intro trivial trivial))) (And.intro (And.intro trivial (And.intro trivial trivial)) (And.intro trivial (And.intro trivial trivial)))) (And.intro (And.intro (And.intro trivial (And.intro trivial trivial)) (And.intro trivial (And.intro trivial trivial))) (And.intro (And.intro trivial (And.intro trivial trivial)) (And.intro trivial (And.intro trivial trivial)))))
def ps8:=(And.intro (And.intro (And.intro (And.intro trivial (And.intro trivial trivial)) (And.intro trivial (And.intro trivial trivial))) (And.intro (And.intro trivial (And.intro trivial trivial)) (And.intro trivial (And.intro trivial trivial)))) (And.intro (And.intro (And.intro trivial (And.intro trivial trivial)) (And.intro trivial (And.intro trivial trivial))) (And.intro (And.intro trivial (And.intro trivial trivial)) (And.intro trivial (And.intro trivial trivial)))))
def ps9:=(And.intro (And.intro (And.intro (And.intro trivial (And.intro trivial trivial)) (And.intro trivial (And.intro trivial trivial))) (And.intro (And.intro trivial (And.intro trivial trivial)) (And.intro trivial (And.intro trivial trivial)))) (And.intro (And.intro (And.intro trivial (And.intro trivial trivial)) (And.intro trivial (And.intro trivial trivial))) (And.intro (And.intro trivial (And.intro trivial trivial)) (And.intro trivial (And.intro trivial trivial)))))
def ps10:=(And.intro (And.intro (And.intro (And.intro trivial (And.intro trivial trivial)) (And.intro trivial (And.intro trivial trivial))) (And.intro (And.intro trivial (And.intro trivial trivial)) (And.intro trivial (And.intro trivial trivial)))) (And.intro (And.intro (And.intro trivial (And.intro trivial trivial)) (And.intro trivial (And.intro trivial trivial))) (And.intro (And.intro trivial (And.intro trivial trivial)) (And.intro trivial (And.intro trivial trivial)))))
def ps11:=(And.intro (And.intro (And.intro (And.intro trivial (And.intro trivial trivial)) (And.intro trivial (And.intro trivial trivial))) (And.intro (And.intro trivial (And.intro trivial trivial)) (And.intro trivial (And.intro trivial trivial)))) (And.intro (And.intro (And.intro trivial (And.intro trivial trivial)) (And.intro trivial (And.intro trivial trivial))) (And.intro (And.intro trivial (And.intro trivial trivial)) (And.intro trivial (And.intro trivial trivial)))))
def ps12:=(And.intro (And.intro (And.intro (And.intro trivial (And.intro trivial trivial)) (And.intro trivial (And.intro trivial trivial))) (And.intro (And.intro trivial (And.intro trivial trivial)) (And.intro trivial (And.intro trivial trivial)))) (And.intro (And.intro (And.intro trivial (And.intro trivial trivial)) (And.intro trivial (And.intro trivial trivial))) (And.intro (And.intro trivial (And.intro trivial trivial)) (And.intro trivial (And.intro trivial trivial)))))
def ps13:=(And.intro (And.intro (And.intro (And.intro trivial (And.intro trivial trivial)) (And.intro trivial (And.intro trivial trivial))) (And.intro (And.intro trivial (And.intro trivial trivial)) (And.intro trivial (And.intro trivial trivial)))) (And.intro (And.intro (And.intro trivial (And.intro trivial trivial)) (And.intro trivial (And.intro trivial trivial))) (And.intro (And.intro trivial (And.intro trivial trivial)) (And.intro trivial (And.intro trivial trivial)))))
def ps14:=(And.intro (And.intro (And.intro (And.intro trivial (And.intro trivial trivial)) (And.intro trivial (And.intro trivial trivial))) (And.intro (And.intro trivial (And.intro trivial trivial)) (And.intro trivial (And.intro trivial trivial)))) (And.intro (And.intro (And.intro trivial (And.intro trivial trivial)) (And.intro trivial (And.intro trivial trivial))) (And.intro (And.intro trivial (And.intro trivial trivial)) (And.intro trivial (And.intro trivial trivial)))))
def ps15:=(And.intro (And.intro (And.intro (And.intro trivial (And.intro trivial trivial)) (And.intro trivial (And.intro trivial trivial))) (And.intro (And.intro trivial (And.intro trivial trivial)) (And.intro trivial (And.intro trivial trivial)))) (And.intro (And.intro (And.intro trivial (And.intro trivial trivial)) (And.intro trivial (And.intro trivial trivial))) (And.intro (And.intro trivial (And.intro trivial trivial)) (And.intro trivial (And.intro trivial trivial)))))
def ps16:=(And.intro (And.intro (And.intro trivial (And.intro trivial trivial)) (And.intro (And.intro trivial trivial) (And.intro trivial trivial))) (And.intro (And.intro (And.intro trivial trivial) (And.intro trivial trivial)) (And.intro (And.intro trivial trivial) (And.intro trivial trivial))))
def ps:=(And.intro (And.intro (And.intro (And.intro ps0 ps1) (And.intro ps2 ps3)) (And.intro (And.intro ps4 ps5) (And.intro ps6 ps7))) (And.intro (And.intro (And.intro ps8 ps9) (And.intro ps10 ps11)) (And.intro (And.intro ps12 ps13) (And.intro ps14 (And.intro ps15 ps16)))))
end Go.Proofs.YtjimmglpkndemaaC

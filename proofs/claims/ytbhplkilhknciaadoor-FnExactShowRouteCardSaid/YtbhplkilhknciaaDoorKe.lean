/- The walk by reflection: a part of its laws, for any function. Conditions: none. -/
import Derived.Test.YtbhplkilhknciaaDoorKd
namespace Go.Proofs.YtbhplkilhknciaaDoorC
set_option linter.unusedVariables false
set_option linter.unusedSimpArgs false
abbrev ii (n:Int):T:=.c (.int .i64 n)
abbrev bb (b:Bool):T:=.c (.bool b)
def I64 (n:Int):Prop:=(Lit.int .i64 n).wf=true
theorem I64.lo {n:Int} (h:I64 n):-9223372036854775808≤n:=by
 simp [I64,Lit.wf,IntKind.min,IntKind.max,IntKind.signed,IntKind.bits] at h;omega
theorem I64.hi {n:Int} (h:I64 n):n < 9223372036854775808:=by
 simp [I64,Lit.wf,IntKind.min,IntKind.max,IntKind.signed,IntKind.bits] at h;omega
theorem I64.mk {n:Int} (h:-9223372036854775808≤n) (h':n < 9223372036854775808):I64 n:=by
 simp [I64,Lit.wf,IntKind.min,IntKind.max,IntKind.signed,IntKind.bits];omega
def gt {α:Type} [Inhabited α] (l:List α) (n:Int):α:=l.getD n.toNat default
theorem gt_get {α:Type} [Inhabited α] {enc:α→List T} {l:List α} {n:Int} (h:0≤n) (h':n < l.length):(l.map enc)[n.toNat]?=some (enc (gt l n)):=by
 have hn:n.toNat < l.length:=by omega
 rw [List.getElem?_map,List.getElem?_eq_getElem hn]
 simp [gt,List.getD,List.getElem?_eq_getElem hn]
theorem gt_nat {α:Type} [Inhabited α] {l:List α} {i:Nat} {a:α} (h:l[i]?=some a):gt l (i:Int)=a:=by
 simp [gt,List.getD,h]
theorem gt_elem {α:Type} [Inhabited α] {l:List α} {i:Nat} (h:i < l.length):gt l (i:Int)=l[i]:=gt_nat (List.getElem?_eq_getElem h)
theorem rowAtZ {xs:List (List T)} {n:Int} {r:List T} (h0:0≤n) (h:xs[n.toNat]?=some r):rowAt (.l xs) (ii n)=some r:=by
 simp [rowAt,T.rows,T.int,h0,h]
theorem ev_bndZ {α:Type} [Inhabited α] {enc:α→List T} {l:List α} {n:Int} (h:0≤n) (h':n < l.length):Prim.ev .bnd [.l (l.map enc),ii n]=some (bb true):=by
 simp [Prim.ev,rowAtZ h (gt_get (enc:=enc) h h')]
theorem ev_cellZ {xs:List (List T)} {n:Int} {w j:Nat} {r:List T} {t:T} (h0:0≤n) (h:xs[n.toNat]?=some r) (hw:r.length=w) (hj:r[j]?=some t):Prim.ev (.cell w j) [.l xs,ii n]=some t:=by
 simp [Prim.ev,rowAtZ h0 h,hw,hj]
theorem ev_scellZ {xs:List (List T)} {n:Int} {w j:Nat} {r:List T} {t:T} (h0:0≤n) (h:xs[n.toNat]?=some r) (hw:r.length=w) (hj:r[j]?=some t) (hs:scal t=true):Prim.ev (.scell w j) [.l xs,ii n]=some t:=by
 simp [Prim.ev,rowAtZ h0 h,hw,hj,hs]
theorem ev_lenM {α:Type} {enc:α→List T} {l:List α}:Prim.ev .len [.l (l.map enc)]=some (ii l.length):=by
 rw [ev_len,List.length_map]
theorem okW_enc {α:Type} {enc:α→List T} {w:Nat} (hw:∀ x,(enc x).length=w) (l:List α):okW w (l.map enc)=true:=by
 cases l with
 | nil=>rfl
 | cons x l=>simp [okW,hw]
theorem app_enc {α:Type} {enc:α→List T} {w:Nat} {sc:Bool} (hw:∀ x,(enc x).length=w) (hs:sc=false∨∀ x,(enc x).all scal=true) {l m:List α} (h:l.length+m.length < cap32):Prim.ev (.app sc w) [.l (l.map enc),.l (m.map enc)]=some (.l ((l++m).map enc)):=by
 rw [List.map_append]
 refine ev_app (by simpa using h) ?_ (okW_enc hw l) (okW_enc hw m)
 rcases hs with rfl | hs
 ·rfl
 ·have:(m.map enc).all (·.all scal)=true:=by simp only [List.all_map,List.all_eq_true];exact fun x _=>hs x
  rw [this];simp
theorem app_encn {α:Type} {enc:α→List T} {w:Nat} {sc:Bool} (hw:∀ x,(enc x).length=w) (hs:sc=false∨∀ x,(enc x).all scal=true) {m:List α} (h:m.length < cap32):Prim.ev (.app sc w) [.l [],.l (m.map enc)]=some (.l (m.map enc)) :=
 app_enc (l:=[]) hw hs (by simpa using h)
theorem subL_enc {α:Type} {enc:α→List T} {w:Nat} (hw:∀ x,(enc x).length=w) {l:List α} {a:Int} (h:0≤a) (h':a≤l.length):Prim.ev (.sub w true false) [.l (l.map enc),ii a]=some (.l ((l.drop a.toNat).map enc)):=by
 simp only [Prim.ev,okW_enc hw l,if_true,List.length_map,bind_some',h,h']
 rw [if_pos (by omega)]
 have:((l.map enc).take (l.length:Int).toNat).drop a.toNat=(l.drop a.toNat).map enc:=by
  rw [List.map_drop,Int.toNat_natCast,List.take_of_length_le (by simp)]
 rw [this]
theorem subH_enc {α:Type} {enc:α→List T} {w:Nat} (hw:∀ x,(enc x).length=w) {l:List α} {a:Int} (h:0≤a) (h':a≤l.length):Prim.ev (.sub w false true) [.l (l.map enc),ii a]=some (.l ((l.take a.toNat).map enc)):=by
 simp only [Prim.ev,okW_enc hw l,if_true,List.length_map,bind_some',h,h',Int.le_refl,Int.toNat_zero,List.drop_zero,List.map_take]
theorem dec_list {α:Type} {enc:α→List T} {ok:α→Prop} {ty:List Ty} (h:∀ r,WTs ty r→∃ x,r=enc x∧ok x):∀ {xs:List (List T)},(∀ r∈xs,WTs ty r)→∃ l:List α,xs=l.map enc∧∀ x∈l,ok x
 | [],_=>⟨[],rfl,by simp⟩
 | r :: xs,hx=>by
  obtain ⟨x,rfl,h1⟩:=h r (hx _ (.head _))
  obtain ⟨l,rfl,h2⟩:=dec_list h (xs:=xs) fun r hr=>hx r (.tail _ hr)
  refine ⟨x :: l,rfl,?_⟩
  intro y hy
  rcases List.mem_cons.1 hy with rfl | hy
  ·exact h1
  ·exact h2 y hy
def blks {α:Type} (f:α→Nat):List α→Nat
 | []=>0
 | x :: l=>1+(f x+blks f l)
theorem blks_eq {α:Type} {enc:α→List T} {f:α→Nat} (h:∀ x,bulkR (enc x)=f x) (l:List α):bulkRs (l.map enc)=blks f l:=by
 induction l with
 | nil=>simp [bulkRs,blks]
 | cons x l ih=>simp only [List.map_cons,bulkRs,blks,h,ih]
def eInt (n:Int):List T:=[ii n]
def yInt:List Ty:=[.i .i64]
def OkInt (n:Int):Prop:=I64 n
theorem dInt (r:List T) (h:WTs yInt r):∃ n,r=eInt n∧OkInt n:=by
 obtain ⟨_,_,rfl,⟨n,rfl,hn⟩,rfl⟩:=WTsU_of h
 exact ⟨n,rfl,hn⟩
def blkInt (_:Int):Nat:=0
theorem bInt (n:Int):bulkR (eInt n)=blkInt n:=by simp only [eInt,bulkR_cons,bulkR_nil,bulk_i,blkInt]
theorem cell_Int_0 {l:List Int} {n:Int} (h:0≤n) (h':n < l.length):Prim.ev (.cell 1 0) [.l (l.map eInt),ii n]=some (ii (gt l n)):=ev_cellZ h (gt_get h h') rfl rfl
theorem scell_Int_0 {l:List Int} {n:Int} (h:0≤n) (h':n < l.length):Prim.ev (.scell 1 0) [.l (l.map eInt),ii n]=some (ii (gt l n)):=ev_scellZ h (gt_get h h') rfl rfl rfl
theorem app_Int_false {l m:List Int} (h:l.length+m.length < 4294967296):Prim.ev (.app false 1) [.l (l.map eInt),.l (m.map eInt)]=some (.l ((l++m).map eInt)):=app_enc (w:=1) (fun _=>rfl) (.inl rfl) h
theorem appn_Int_false {m:List Int} (h:m.length < 4294967296):Prim.ev (.app false 1) [.l [],.l (m.map eInt)]=some (.l (m.map eInt)):=app_encn (w:=1) (fun _=>rfl) (.inl rfl) h
theorem app_Int_true {l m:List Int} (h:l.length+m.length < 4294967296):Prim.ev (.app true 1) [.l (l.map eInt),.l (m.map eInt)]=some (.l ((l++m).map eInt)):=app_enc (w:=1) (fun _=>rfl) (.inr fun _=>rfl) h
theorem appn_Int_true {m:List Int} (h:m.length < 4294967296):Prim.ev (.app true 1) [.l [],.l (m.map eInt)]=some (.l (m.map eInt)):=app_encn (w:=1) (fun _=>rfl) (.inr fun _=>rfl) h
theorem app1_Int_false {l:List Int} {x:Int} (h:l.length < 4294967295):Prim.ev (.app false 1) [.l (l.map eInt),.l ([x].map eInt)]=some (.l ((l++[x]).map eInt)):=app_Int_false (by simp;omega)
theorem app1n_Int_false {x:Int}:Prim.ev (.app false 1) [.l [],.l ([x].map eInt)]=some (.l ([x].map eInt)):=appn_Int_false (by simp)
theorem app1_Int_true {l:List Int} {x:Int} (h:l.length < 4294967295):Prim.ev (.app true 1) [.l (l.map eInt),.l ([x].map eInt)]=some (.l ((l++[x]).map eInt)):=app_Int_true (by simp;omega)
theorem app1n_Int_true {x:Int}:Prim.ev (.app true 1) [.l [],.l ([x].map eInt)]=some (.l ([x].map eInt)):=appn_Int_true (by simp)
theorem subL_Int {l:List Int} {a:Int} (h:0≤a) (h':a≤l.length):Prim.ev (.sub 1 true false) [.l (l.map eInt),ii a]=some (.l ((l.drop a.toNat).map eInt)):=subL_enc (enc:=eInt) (w:=1) (fun _=>rfl) h h'
theorem subH_Int {l:List Int} {a:Int} (h:0≤a) (h':a≤l.length):Prim.ev (.sub 1 false true) [.l (l.map eInt),ii a]=some (.l ((l.take a.toNat).map eInt)):=subH_enc (enc:=eInt) (w:=1) (fun _=>rfl) h h'
theorem lit_Int (x:Int):Prim.ev (.lit 1 [true]) [ii x]=some (.l ([x].map eInt)):=ev_lit1 (by decide) rfl rfl
theorem litn_Int (x:Int):Prim.ev (.lit 1 []) [ii x]=some (.l ([x].map eInt)):=ev_lit1 (by decide) rfl rfl
structure Link where
 a:Int
 b:Int
 cost:Int
 area:Int
 deriving Inhabited
structure Thing where
 owner:Int
 key:Int
 cost:Int
 far:Bool
 deriving Inhabited
structure Net where
 n:Int
 links:List Link
 things:List Thing
 deriving Inhabited
structure Near where
 to:Int
 cost:Int
 deriving Inhabited
structure Rcd where
 area:Int
 kind:Int
 owner:Int
 key:Int
 seq:Int
 near:List Near
 cost:Int
 far:Bool
 deriving Inhabited
structure Way where
 to:Int
 cost:Int
 hops:List Int
 deriving Inhabited
structure Route where
 thing:Bool
 to:Int
 kind:Int
 cost:Int
 far:Int
 hops:List Int
 deriving Inhabited
structure Self where
 id:Int
 boot:Int
 net:Net
 heard:List Int
 store:List Rcd
 deriving Inhabited
structure Ear where
 node:Int
 area:Int
 left:Int
 both:Bool
 deriving Inhabited
structure Node where
 self:Self
 ears:List Ear
 deriving Inhabited
structure Packet where
 kind:Int
 frm:Int
 to:Int
 area:Int
 heard:List Int
 list:List Rcd
 deriving Inhabited
structure Line where
 thing:Bool
 to:Int
 hops:List Int
 deriving Inhabited
structure Turn where
 gone:Bool
 line:Line
 deriving Inhabited
structure World where
 net:Net
 links:List Bool
 up:List Bool
 boots:List Int
 nodes:List Node
 flying:List Packet
 told:List Rcd
 errors:Int
 deriving Inhabited
set_option linter.unusedSimpArgs false
set_option linter.defProp false
theorem pz:(∀ p:Prop,(p∨p)=p)∧(∀ p:Prop,(p∨True)=True)∧(∀ p:Prop,(True∨p)=True)∧(∀ p:Prop,(p∨False)=p)∧(∀ p:Prop,(False∨p)=p)∧(¬ True)=False∧(¬ False)=True∧(∀ a:Int,(a < a)=False) :=
 ⟨or_self,or_true,true_or,or_false,false_or,not_true_eq_false,not_false_eq_true,fun a=>eq_false (Int.lt_irrefl a)⟩
@[congr] theorem iter_cong {α β:Type} {F:(α→Option β)→α→Option β} {R:Nat} {x y:α} (h:x=y):iter F R x=iter F R y:=by rw [h]
@[congr] theorem bind_cong {α β:Type} {o o':Option α} {f:α→Option β} (h:o=o'):o.bind f=o'.bind f:=by rw [h]
@[congr] theorem ifT_cong {t t':T} {x y:Option (List T)} (h:t=t'):ifT t x y=ifT t' x y:=by rw [h]
@[congr] theorem jn_cong {k:Sem1} {b:Sem1→Option (List T)}:jn k b=jn k b:=rfl
@[congr] theorem cl1_cong {o o':Option (List T)} {k:T→Option (List T)} (h:o=o'):cl1 o k=cl1 o' k:=by rw [h]
@[congr] theorem ar1_cong {k:T→Option (List T)} {l l':List T} (h:l=l'):ar1 k l=ar1 k l':=by rw [h]
@[congr] theorem ar2_cong {k:T→T→Option (List T)} {l l':List T} (h:l=l'):ar2 k l=ar2 k l':=by rw [h]
@[congr] theorem cl6_cong {o o':Option (List T)} {k:T→T→T→T→T→T→Option (List T)} (h:o=o'):cl6 o k=cl6 o' k:=by rw [h]
theorem ifT_p (b:Bool) (x y:Option (List T)):ifT (bb b) x y=if b=true then x else y:=by cases b <;> rfl
theorem ev_len0:Prim.ev .len [.l []]=some (ii 0):=rfl
theorem ev_rem64 (a b:Int) (h:b≠0):Prim.ev (.bin .rem) [ii a,ii b]=some (ii (a.tmod b)):=by
 simp only [Prim.ev,T.val,binV,Option.bind_some,if_true,h,if_false]
theorem ev_mx64 (a b:Int):Prim.ev .mx [ii a,ii b]=some (ii (if b > a then b else a)):=rfl
theorem ev_mn64 (a b:Int):Prim.ev .mn [ii a,ii b]=some (ii (if b < a then b else a)):=rfl
theorem ev_eqs4 (a b c d a' b' c' d':Int):Prim.ev (.eqs [1,1,1,1]) [ii a,ii b,ii c,ii d,ii a',ii b',ii c',ii d']=some (bb (a == a' && (b == b' && (c == c' && (d == d'))))):=by
 simp [Prim.ev,eqT,eqV]
theorem ev_eqs31 (a b c a' b' c':Int) (d d':Bool):Prim.ev (.eqs [1,1,1,4]) [ii a,ii b,ii c,bb d,ii a',ii b',ii c',bb d']=some (bb (a == a' && (b == b' && (c == c' && (d == d'))))):=by
 simp [Prim.ev,eqT,eqV]
theorem ev_lit0 {w:Nat} (h:0 < w):Prim.ev (.lit w []) []=some (.l []):=by
 simp [Prim.ev,masked,chunks,h]
theorem lit2_Int (a b:Int):Prim.ev (.lit 1 [true,true]) [ii a,ii b]=some (.l ([a,b].map eInt)):=by simp [Prim.ev,masked,chunks,scal,eInt]
theorem litn2_Int (a b:Int):Prim.ev (.lit 1 []) [ii a,ii b]=some (.l ([a,b].map eInt)):=by simp [Prim.ev,masked,chunks,eInt]
theorem app2_Int {l:List Int} {x y:Int} (h:l.length < 4294967294):Prim.ev (.app true 1) [.l (l.map eInt),.l ([x,y].map eInt)]=some (.l ((l++[x,y]).map eInt)):=app_Int_true (by simp;omega)
theorem int_beq (a b:Int):((a == b)=true)=(a=b):=by simp
theorem int_bne (a b:Int):((a != b)=true)=¬ (a=b):=by simp
theorem b_not (b:Bool):((!b)=true)=¬ (b=true):=by simp
theorem b_bne (a b:Bool):((a != b)=true)=¬ ((a=true)=(b=true)):=by cases a <;> cases b <;> simp
theorem b_beq (a b:Bool):((a == b)=true)=((a=true)=(b=true)):=by cases a <;> cases b <;> simp
theorem cast_add (a b:Nat):((a+b:Nat):Int)=(a:Int)+b:=by simp
theorem cast_1:((1:Nat):Int)=1:=rfl
theorem cast_2:((2:Nat):Int)=2:=rfl
theorem cast_3:((3:Nat):Int)=3:=rfl
theorem cast_5:((5:Nat):Int)=5:=rfl
theorem cast_6:((6:Nat):Int)=6:=rfl
theorem cast_7:((7:Nat):Int)=7:=rfl
theorem cast_9:((9:Nat):Int)=9:=rfl
theorem cast_0:((0:Nat):Int)=0:=rfl
def ps0:=(And.intro (And.intro (And.intro (And.intro (@bind_some' T (List T)) (And.intro trivial @cl1_s)) (And.intro trivial (And.intro trivial trivial))) (And.intro (And.intro trivial (And.intro @cl6_s trivial)) (And.intro trivial (And.intro trivial trivial)))) (And.intro (And.intro (And.intro trivial (And.intro trivial trivial)) (And.intro trivial (And.intro trivial trivial))) (And.intro (And.intro trivial (And.intro @ar1_s @ar2_s)) (And.intro trivial (And.intro trivial trivial)))))
def ps1:=(And.intro (And.intro (And.intro (And.intro trivial (And.intro trivial trivial)) (And.intro trivial (And.intro trivial trivial))) (And.intro (And.intro trivial (And.intro trivial trivial)) (And.intro trivial (And.intro trivial ifT_p)))) (And.intro (And.intro (And.intro (fun (p:Prop) (_:Decidable p)=>@decide_eq_true_eq p _) (And.intro Bool.and_eq_true Bool.or_eq_true)) (And.intro b_not (And.intro b_bne b_beq))) (And.intro (And.intro int_beq (And.intro int_bne @ev_lenM)) (And.intro ev_len0 (And.intro @ev_lens @ev_lss)))))
def ps2:=(And.intro (And.intro (And.intro (And.intro @ev_leq (And.intro @ev_gtr @ev_geq)) (And.intro @ev_eql (And.intro @ev_neq @ev_add))) (And.intro (And.intro @ev_sub (And.intro @ev_mul ev_rem64)) (And.intro ev_mx64 (And.intro ev_mn64 ev_bbneq)))) (And.intro (And.intro (And.intro ev_bbeql (And.intro ev_not @ev_scl_i)) (And.intro ev_scl_b (And.intro ev_scl_s @ev_bndZ))) (And.intro (And.intro @wrap64 (And.intro ev_eqs2 ev_eqs4)) (And.intro ev_eqs31 (And.intro @ev_lit0 cast_add)))))
def ps3:=(And.intro (And.intro (And.intro (And.intro cast_0 (And.intro cast_1 cast_2)) (And.intro cast_3 (And.intro cast_5 cast_6))) (And.intro (And.intro cast_7 (And.intro cast_9 ev_eqlS)) (And.intro ev_neqS (And.intro lit2_Int litn2_Int)))) (And.intro (And.intro (And.intro @app2_Int (And.intro (fun (k:Nat)=>@Int.toNat_natCast k) (fun (α:Type) (f:α→List T) (l:List α)=>@List.length_map α (List T) l f))) (And.intro trivial (And.intro trivial trivial))) (And.intro (And.intro trivial (And.intro trivial trivial)) (And.intro trivial (And.intro trivial trivial)))))
def ps4:=(And.intro (And.intro (And.intro (And.intro trivial (And.intro trivial trivial)) (And.intro trivial (And.intro trivial @cell_Int_0))) (And.intro (And.intro @scell_Int_0 (And.intro @app1_Int_false @app1n_Int_false)) (And.intro @app_Int_false (And.intro @appn_Int_false @app1_Int_true)))) (And.intro (And.intro (And.intro @app1n_Int_true (And.intro @app_Int_true @appn_Int_true)) (And.intro @subL_Int (And.intro @subH_Int @lit_Int))) (And.intro (And.intro @litn_Int (And.intro trivial trivial)) (And.intro trivial (And.intro trivial trivial)))))
def ps5:=(And.intro (And.intro (And.intro (And.intro trivial (And.intro trivial trivial)) (And.intro trivial (And.intro trivial trivial))) (And.intro (And.intro trivial (And.intro trivial trivial)) (And.intro trivial (And.intro trivial trivial)))) (And.intro (And.intro (And.intro trivial (And.intro trivial trivial)) (And.intro trivial (And.intro trivial trivial))) (And.intro (And.intro trivial (And.intro trivial trivial)) (And.intro trivial (And.intro trivial trivial)))))
def ps6:=(And.intro (And.intro (And.intro (And.intro trivial (And.intro trivial trivial)) (And.intro trivial (And.intro trivial trivial))) (And.intro (And.intro trivial (And.intro trivial trivial)) (And.intro trivial (And.intro trivial trivial)))) (And.intro (And.intro (And.intro trivial (And.intro trivial trivial)) (And.intro trivial (And.intro trivial trivial))) (And.intro (And.intro trivial (And.intro trivial trivial)) (And.intro trivial (And.intro trivial trivial)))))
def ps7:=(And.intro (And.intro (And.intro (And.intro trivial (And.intro trivial trivial)) (And.intro trivial (And.intro trivial trivial))) (And.intro (And.intro trivial (And.intro trivial trivial)) (And.intro trivial (And.intro trivial trivial)))) (And.intro (And.intro (And.intro trivial (And.intro trivial trivial)) (And.intro trivial (And.intro trivial trivial))) (And.intro (And.intro trivial (And.intro trivial trivial)) (And.intro trivial (And.intro trivial trivial)))))
def ps8:=(And.intro (And.intro (And.intro (And.intro trivial (And.intro trivial trivial)) (And.intro trivial (And.intro trivial trivial))) (And.intro (And.intro trivial (And.intro trivial trivial)) (And.intro trivial (And.intro trivial trivial)))) (And.intro (And.intro (And.intro trivial (And.intro trivial trivial)) (And.intro trivial (And.intro trivial trivial))) (And.intro (And.intro trivial (And.intro trivial trivial)) (And.intro trivial (And.intro trivial trivial)))))
def ps9:=(And.intro (And.intro (And.intro (And.intro trivial (And.intro trivial trivial)) (And.intro trivial (And.intro trivial trivial))) (And.intro (And.intro trivial (And.intro trivial trivial)) (And.intro trivial (And.intro trivial trivial)))) (And.intro (And.intro (And.intro trivial (And.intro trivial trivial)) (And.intro trivial (And.intro trivial trivial))) (And.intro (And.intro trivial (And.intro trivial trivial)) (And.intro trivial (And.intro trivial trivial)))))
def ps10:=(And.intro (And.intro (And.intro (And.intro trivial (And.intro trivial trivial)) (And.intro trivial (And.intro trivial trivial))) (And.intro (And.intro trivial (And.intro trivial trivial)) (And.intro trivial (And.intro trivial trivial)))) (And.intro (And.intro (And.intro trivial (And.intro trivial trivial)) (And.intro trivial (And.intro trivial trivial))) (And.intro (And.intro trivial (And.intro trivial trivial)) (And.intro trivial (And.intro trivial trivial)))))
def ps11:=(And.intro (And.intro (And.intro (And.intro trivial (And.intro trivial trivial)) (And.intro trivial (And.intro trivial trivial))) (And.intro (And.intro trivial (And.intro trivial trivial)) (And.intro trivial (And.intro trivial trivial)))) (And.intro (And.intro (And.intro trivial (And.intro trivial trivial)) (And.intro trivial (And.intro trivial trivial))) (And.intro (And.intro trivial (And.intro trivial trivial)) (And.intro trivial (And.intro trivial trivial)))))
def ps12:=(And.intro (And.intro (And.intro (And.intro trivial (And.intro trivial trivial)) (And.intro trivial (And.intro trivial trivial))) (And.intro (And.intro trivial (And.intro trivial trivial)) (And.intro trivial (And.intro trivial trivial)))) (And.intro (And.intro (And.intro trivial (And.intro trivial trivial)) (And.intro trivial (And.intro trivial trivial))) (And.intro (And.intro trivial (And.intro trivial trivial)) (And.intro trivial (And.intro trivial trivial)))))
def ps13:=(And.intro (And.intro (And.intro (And.intro trivial (And.intro trivial trivial)) (And.intro trivial (And.intro trivial trivial))) (And.intro (And.intro trivial (And.intro trivial trivial)) (And.intro trivial (And.intro trivial trivial)))) (And.intro (And.intro (And.intro trivial (And.intro trivial trivial)) (And.intro trivial (And.intro trivial trivial))) (And.intro (And.intro trivial (And.intro trivial trivial)) (And.intro trivial (And.intro trivial trivial)))))
def ps14:=(And.intro (And.intro (And.intro (And.intro trivial (And.intro trivial trivial)) (And.intro trivial (And.intro trivial trivial))) (And.intro (And.intro trivial (And.intro trivial trivial)) (And.intro trivial (And.intro trivial trivial)))) (And.intro (And.intro (And.intro trivial (And.intro trivial trivial)) (And.intro trivial (And.intro trivial trivial))) (And.intro (And.intro trivial (And.intro trivial trivial)) (And.intro trivial (And.intro trivial trivial)))))
def ps15:=(And.intro (And.intro (And.intro (And.intro trivial (And.intro trivial trivial)) (And.intro trivial (And.intro trivial trivial))) (And.intro (And.intro trivial (And.intro trivial trivial)) (And.intro trivial (And.intro trivial trivial)))) (And.intro (And.intro (And.intro trivial (And.intro trivial trivial)) (And.intro trivial (And.intro trivial trivial))) (And.intro (And.intro trivial (And.intro trivial trivial)) (And.intro trivial (And.intro trivial trivial)))))
def ps16:=(And.intro (And.intro (And.intro trivial (And.intro trivial trivial)) (And.intro (And.intro trivial trivial) (And.intro trivial trivial))) (And.intro (And.intro (And.intro trivial trivial) (And.intro trivial trivial)) (And.intro (And.intro trivial trivial) (And.intro trivial trivial))))
def pq:=(And.intro (And.intro (And.intro (And.intro (And.intro pv_s ifT_p) (And.intro Yz_s (And.intro Ya_s Yb_s))) (And.intro (And.intro Yl_s (And.intro Ye_s Yn_s)) (And.intro Yt_s (And.intro Yp_s Yo_s)))) (And.intro (And.intro (And.intro Yu_s Yg_s) (And.intro Ym_s (And.intro Yh_s Ys_s))) (And.intro (And.intro Yv_s (And.intro Yw_s Yx_s)) (And.intro Yy_s (And.intro Yc_s Yq_s))))) (And.intro (And.intro (And.intro (And.intro Y1_s Y2_s) (And.intro Y3_s (And.intro Y4_s Y6_s))) (And.intro (And.intro Y8_s (And.intro trivial @ar1_s)) (And.intro @ar2_s (And.intro trivial trivial)))) (And.intro (And.intro (And.intro trivial (And.intro trivial trivial)) (And.intro trivial (And.intro trivial trivial))) (And.intro (And.intro trivial (And.intro trivial trivial)) (And.intro trivial (And.intro trivial trivial))))))
def pj:=And.intro jn_s trivial
def ps:=(And.intro (And.intro (And.intro (And.intro ps0 ps1) (And.intro ps2 ps3)) (And.intro (And.intro ps4 ps5) (And.intro ps6 ps7))) (And.intro (And.intro (And.intro ps8 ps9) (And.intro ps10 ps11)) (And.intro (And.intro ps12 ps13) (And.intro ps14 (And.intro ps15 ps16)))))
end Go.Proofs.YtbhplkilhknciaaDoorC

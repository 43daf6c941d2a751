/- The walk by reflection: a part of its laws, for any function. Conditions: none. -/
import Derived.Test.YtjimmglpkndemaaGreatKd
namespace Go.Proofs.YtjimmglpkndemaaGreatC
set_option linter.unusedVariables false
set_option linter.unusedSimpArgs false
abbrev ii (n:Int):T:=.c (.int .i64 n)
abbrev bb (b:Bool):T:=.c (.bool b)
def I64 (n:Int):Prop:=(Lit.int .i64 n).wf=true
theorem I64.lo {n:Int} (h:I64 n):-9223372036854775808≤n:=by
 simp [I64,Lit.wf,IntKind.min,IntKind.max,IntKind.signed,IntKind.bits] at h;omega
theorem I64.hi {n:Int} (h:I64 n):n < 9223372036854775808:=by
 simp [I64,Lit.wf,IntKind.min,IntKind.max,IntKind.signed,IntKind.bits] at h;omega
theorem I64.mk {n:Int} (h:-9223372036854775808≤n) (h':n < 9223372036854775808):I64 n:=by
 simp [I64,Lit.wf,IntKind.min,IntKind.max,IntKind.signed,IntKind.bits];omega
def gt {α:Type} [Inhabited α] (l:List α) (n:Int):α:=l.getD n.toNat default
theorem zp_ {α:Type} [Inhabited α] {enc:α→List T} {l:List α} {n:Int} (h:0≤n) (h':n < l.length):(l.map enc)[n.toNat]?=some (enc (gt l n)):=by
 have hn:n.toNat < l.length:=by omega
 rw [List.getElem?_map,List.getElem?_eq_getElem hn]
 simp [gt,List.getD,List.getElem?_eq_getElem hn]
theorem auk_ {α:Type} [Inhabited α] {l:List α} {i:Nat} {a:α} (h:l[i]?=some a):gt l (i:Int)=a:=by
 simp [gt,List.getD,h]
theorem zm_ {α:Type} [Inhabited α] {l:List α} {i:Nat} (h:i < l.length):gt l (i:Int)=l[i]:=auk_ (List.getElem?_eq_getElem h)
theorem zS_ {α:Type} [Inhabited α] {l:List α} {n:Int} (h:0≤n) (h':n < l.length):gt l n∈l:=by
 have hn:n.toNat < l.length:=by omega
 simp [gt,List.getD,List.getElem?_eq_getElem hn]
theorem ajv_ {xs:List (List T)} {n:Int} {r:List T} (h0:0≤n) (h:xs[n.toNat]?=some r):v8_ (.l xs) (ii n)=some r:=by
 simp [v8_,T.rows,T.int,h0,h]
theorem akd_ {α:Type} [Inhabited α] {enc:α→List T} {l:List α} {n:Int} (h:0≤n) (h':n < l.length):Prim.ev .bnd [.l (l.map enc),ii n]=some (bb true):=by
 simp [Prim.ev,ajv_ h (zp_ (enc:=enc) h h')]
theorem zQ_ {xs:List (List T)} {n:Int} {w j:Nat} {r:List T} {t:T} (h0:0≤n) (h:xs[n.toNat]?=some r) (hw:r.length=w) (hj:r[j]?=some t):Prim.ev (.cell w j) [.l xs,ii n]=some t:=by
 simp [Prim.ev,ajv_ h0 h,hw,hj]
theorem z7_ {xs:List (List T)} {n:Int} {w j:Nat} {r:List T} {t:T} (h0:0≤n) (h:xs[n.toNat]?=some r) (hw:r.length=w) (hj:r[j]?=some t) (hs:scal t=true):Prim.ev (.scell w j) [.l xs,ii n]=some t:=by
 simp [Prim.ev,ajv_ h0 h,hw,hj,hs]
theorem abd_ {xs ys:List (List T)} {n:Int} {w j:Nat} {r:List T} (h0:0≤n) (h:xs[n.toNat]?=some r) (hw:r.length=w) (hj:r[j]?=some (.l ys)):Prim.ev (.dig w j) [.l xs,ii n]=some (.l ys):=by
 simp [Prim.ev,ajv_ h0 h,hw,hj,T.rows]
theorem ky_ {α:Type} {enc:α→List T} {l:List α}:Prim.ev .len [.l (l.map enc)]=some (ii l.length):=by
 rw [amw_,List.length_map]
theorem akk_ {α:Type} {enc:α→List T} {w:Nat} (hw:∀ x,(enc x).length=w) (l:List α):okW w (l.map enc)=true:=by
 cases l with
 | nil=>rfl
 | cons x l=>simp [okW,hw]
theorem wm_ {α:Type} {enc:α→List T} {w:Nat} {sc:Bool} (hw:∀ x,(enc x).length=w) (hs:sc=false∨∀ x,(enc x).all scal=true) {l m:List α} (h:l.length+m.length < v9_):Prim.ev (.app sc w) [.l (l.map enc),.l (m.map enc)]=some (.l ((l++m).map enc)):=by
 rw [List.map_append]
 refine aN4_ (by simpa using h) ?_ (akk_ hw l) (akk_ hw m)
 rcases hs with rfl | hs
 ·rfl
 ·have:(m.map enc).all (·.all scal)=true:=by simp only [List.all_map,List.all_eq_true];exact fun x _=>hs x
  rw [this];simp
theorem wk_ {α:Type} {enc:α→List T} {w:Nat} {sc:Bool} (hw:∀ x,(enc x).length=w) (hs:sc=false∨∀ x,(enc x).all scal=true) {m:List α} (h:m.length < v9_):Prim.ev (.app sc w) [.l [],.l (m.map enc)]=some (.l (m.map enc)) :=
 wm_ (l:=[]) hw hs (by simpa using h)
theorem uD_ {α:Type} {enc:α→List T} {w:Nat} (hw:∀ x,(enc x).length=w) {l:List α} {a:Int} (h:0≤a) (h':a≤l.length):Prim.ev (.sub w true false) [.l (l.map enc),ii a]=some (.l ((l.drop a.toNat).map enc)):=by
 simp only [Prim.ev,akk_ hw l,if_true,List.length_map,zd_,h,h']
 rw [if_pos (by omega)]
 have:((l.map enc).take (l.length:Int).toNat).drop a.toNat=(l.drop a.toNat).map enc:=by
  rw [List.map_drop,Int.toNat_natCast,List.take_of_length_le (by simp)]
 rw [this]
theorem uQ_ {α:Type} {enc:α→List T} {w:Nat} (hw:∀ x,(enc x).length=w) {l:List α} {a:Int} (h:0≤a) (h':a≤l.length):Prim.ev (.sub w false true) [.l (l.map enc),ii a]=some (.l ((l.take a.toNat).map enc)):=by
 simp only [Prim.ev,akk_ hw l,if_true,List.length_map,zd_,h,h',Int.le_refl,Int.toNat_zero,List.drop_zero,List.map_take]
theorem awp_ {α:Type} {enc:α→List T} {ok:α→Prop} {ty:List Ty} (h:∀ r,WTs ty r→∃ x,r=enc x∧ok x):∀ {xs:List (List T)},(∀ r∈xs,WTs ty r)→∃ l:List α,xs=l.map enc∧∀ x∈l,ok x
 | [],_=>⟨[],rfl,by simp⟩
 | r :: xs,hx=>by
  obtain ⟨x,rfl,h1⟩:=h r (hx _ (.head _))
  obtain ⟨l,rfl,h2⟩:=awp_ h (xs:=xs) fun r hr=>hx r (.tail _ hr)
  refine ⟨x :: l,rfl,?_⟩
  intro y hy
  rcases List.mem_cons.1 hy with rfl | hy
  ·exact h1
  ·exact h2 y hy
def eInt (n:Int):List T:=[ii n]
def z3_ (b:Bool):List T:=[bb b]
theorem aD8_ {l:List Int} {n:Int} (h:0≤n) (h':n < l.length):Prim.ev (.cell 1 0) [.l (l.map eInt),ii n]=some (ii (gt l n)):=zQ_ h (zp_ h h') rfl rfl
theorem azf_ {l:List Int} {n:Int} (h:0≤n) (h':n < l.length):Prim.ev (.scell 1 0) [.l (l.map eInt),ii n]=some (ii (gt l n)):=z7_ h (zp_ h h') rfl rfl rfl
theorem aie_ {l m:List Int} (h:l.length+m.length < 4294967296):Prim.ev (.app false 1) [.l (l.map eInt),.l (m.map eInt)]=some (.l ((l++m).map eInt)):=wm_ (w:=1) (fun _=>rfl) (.inl rfl) h
theorem aey_ {m:List Int} (h:m.length < 4294967296):Prim.ev (.app false 1) [.l [],.l (m.map eInt)]=some (.l (m.map eInt)):=wk_ (w:=1) (fun _=>rfl) (.inl rfl) h
theorem xR_ {l m:List Int} (h:l.length+m.length < 4294967296):Prim.ev (.app true 1) [.l (l.map eInt),.l (m.map eInt)]=some (.l ((l++m).map eInt)):=wm_ (w:=1) (fun _=>rfl) (.inr fun _=>rfl) h
theorem ah4_ {m:List Int} (h:m.length < 4294967296):Prim.ev (.app true 1) [.l [],.l (m.map eInt)]=some (.l (m.map eInt)):=wk_ (w:=1) (fun _=>rfl) (.inr fun _=>rfl) h
theorem apr_ {l:List Int} {x:Int} (h:l.length < 4294967295):Prim.ev (.app false 1) [.l (l.map eInt),.l ([x].map eInt)]=some (.l ((l++[x]).map eInt)):=aie_ (by simp;omega)
theorem ao4_ {x:Int}:Prim.ev (.app false 1) [.l [],.l ([x].map eInt)]=some (.l ([x].map eInt)):=aey_ (by simp)
theorem wf_ {l:List Int} {x:Int} (h:l.length < 4294967295):Prim.ev (.app true 1) [.l (l.map eInt),.l ([x].map eInt)]=some (.l ((l++[x]).map eInt)):=xR_ (by simp;omega)
theorem ap9_ {x:Int}:Prim.ev (.app true 1) [.l [],.l ([x].map eInt)]=some (.l ([x].map eInt)):=ah4_ (by simp)
theorem aLg_ {l:List Int} {a:Int} (h:0≤a) (h':a≤l.length):Prim.ev (.sub 1 true false) [.l (l.map eInt),ii a]=some (.l ((l.drop a.toNat).map eInt)):=uD_ (enc:=eInt) (w:=1) (fun _=>rfl) h h'
theorem aJv_ {l:List Int} {a:Int} (h:0≤a) (h':a≤l.length):Prim.ev (.sub 1 false true) [.l (l.map eInt),ii a]=some (.l ((l.take a.toNat).map eInt)):=uQ_ (enc:=eInt) (w:=1) (fun _=>rfl) h h'
theorem aL5_ (x:Int):Prim.ev (.lit 1 [true]) [ii x]=some (.l ([x].map eInt)):=wb_ (by decide) rfl rfl
theorem aKu_ (x:Int):Prim.ev (.lit 1 []) [ii x]=some (.l ([x].map eInt)):=wb_ (by decide) rfl rfl
theorem aAj_ {l:List Bool} {n:Int} (h:0≤n) (h':n < l.length):Prim.ev (.cell 1 0) [.l (l.map z3_),ii n]=some (bb (gt l n)):=zQ_ h (zp_ h h') rfl rfl
theorem atv_ {l:List Bool} {n:Int} (h:0≤n) (h':n < l.length):Prim.ev (.scell 1 0) [.l (l.map z3_),ii n]=some (bb (gt l n)):=z7_ h (zp_ h h') rfl rfl rfl
theorem ae8_ {l m:List Bool} (h:l.length+m.length < 4294967296):Prim.ev (.app false 1) [.l (l.map z3_),.l (m.map z3_)]=some (.l ((l++m).map z3_)):=wm_ (w:=1) (fun _=>rfl) (.inl rfl) h
theorem ada_ {m:List Bool} (h:m.length < 4294967296):Prim.ev (.app false 1) [.l [],.l (m.map z3_)]=some (.l (m.map z3_)):=wk_ (w:=1) (fun _=>rfl) (.inl rfl) h
theorem ah3_ {l m:List Bool} (h:l.length+m.length < 4294967296):Prim.ev (.app true 1) [.l (l.map z3_),.l (m.map z3_)]=some (.l ((l++m).map z3_)):=wm_ (w:=1) (fun _=>rfl) (.inr fun _=>rfl) h
theorem afu_ {m:List Bool} (h:m.length < 4294967296):Prim.ev (.app true 1) [.l [],.l (m.map z3_)]=some (.l (m.map z3_)):=wk_ (w:=1) (fun _=>rfl) (.inr fun _=>rfl) h
theorem aon_ {l:List Bool} {x:Bool} (h:l.length < 4294967295):Prim.ev (.app false 1) [.l (l.map z3_),.l ([x].map z3_)]=some (.l ((l++[x]).map z3_)):=ae8_ (by simp;omega)
theorem al5_ {x:Bool}:Prim.ev (.app false 1) [.l [],.l ([x].map z3_)]=some (.l ([x].map z3_)):=ada_ (by simp)
theorem ap2_ {l:List Bool} {x:Bool} (h:l.length < 4294967295):Prim.ev (.app true 1) [.l (l.map z3_),.l ([x].map z3_)]=some (.l ((l++[x]).map z3_)):=ah3_ (by simp;omega)
theorem aoo_ {x:Bool}:Prim.ev (.app true 1) [.l [],.l ([x].map z3_)]=some (.l ([x].map z3_)):=afu_ (by simp)
theorem aG4_ {l:List Bool} {a:Int} (h:0≤a) (h':a≤l.length):Prim.ev (.sub 1 true false) [.l (l.map z3_),ii a]=some (.l ((l.drop a.toNat).map z3_)):=uD_ (enc:=z3_) (w:=1) (fun _=>rfl) h h'
theorem aH0_ {l:List Bool} {a:Int} (h:0≤a) (h':a≤l.length):Prim.ev (.sub 1 false true) [.l (l.map z3_),ii a]=some (.l ((l.take a.toNat).map z3_)):=uQ_ (enc:=z3_) (w:=1) (fun _=>rfl) h h'
theorem aJn_ (x:Bool):Prim.ev (.lit 1 [true]) [bb x]=some (.l ([x].map z3_)):=wb_ (by decide) rfl rfl
theorem aFp_ (x:Bool):Prim.ev (.lit 1 []) [bb x]=some (.l ([x].map z3_)):=wb_ (by decide) rfl rfl
structure Link where
 a:Int
 b:Int
 cost:Int
 area:Int
 deriving Inhabited
def zr_ (x:Link):List T:=[ii x.a,ii x.b,ii x.cost,ii x.area]
theorem aye_ {l:List Link} {n:Int} (h:0≤n) (h':n < l.length):Prim.ev (.cell 4 0) [.l (l.map zr_),ii n]=some (ii (gt l n).a):=zQ_ h (zp_ h h') rfl rfl
theorem avy_ {l:List Link} {n:Int} (h:0≤n) (h':n < l.length):Prim.ev (.scell 4 0) [.l (l.map zr_),ii n]=some (ii (gt l n).a):=z7_ h (zp_ h h') rfl rfl rfl
theorem az6_ {l:List Link} {n:Int} (h:0≤n) (h':n < l.length):Prim.ev (.cell 4 1) [.l (l.map zr_),ii n]=some (ii (gt l n).b):=zQ_ h (zp_ h h') rfl rfl
theorem avm_ {l:List Link} {n:Int} (h:0≤n) (h':n < l.length):Prim.ev (.scell 4 1) [.l (l.map zr_),ii n]=some (ii (gt l n).b):=z7_ h (zp_ h h') rfl rfl rfl
theorem ax6_ {l:List Link} {n:Int} (h:0≤n) (h':n < l.length):Prim.ev (.cell 4 2) [.l (l.map zr_),ii n]=some (ii (gt l n).cost):=zQ_ h (zp_ h h') rfl rfl
theorem awe_ {l:List Link} {n:Int} (h:0≤n) (h':n < l.length):Prim.ev (.scell 4 2) [.l (l.map zr_),ii n]=some (ii (gt l n).cost):=z7_ h (zp_ h h') rfl rfl rfl
theorem ax7_ {l:List Link} {n:Int} (h:0≤n) (h':n < l.length):Prim.ev (.cell 4 3) [.l (l.map zr_),ii n]=some (ii (gt l n).area):=zQ_ h (zp_ h h') rfl rfl
theorem aux_ {l:List Link} {n:Int} (h:0≤n) (h':n < l.length):Prim.ev (.scell 4 3) [.l (l.map zr_),ii n]=some (ii (gt l n).area):=z7_ h (zp_ h h') rfl rfl rfl
theorem afj_ {l m:List Link} (h:l.length+m.length < 4294967296):Prim.ev (.app false 4) [.l (l.map zr_),.l (m.map zr_)]=some (.l ((l++m).map zr_)):=wm_ (w:=4) (fun _=>rfl) (.inl rfl) h
theorem add_ {m:List Link} (h:m.length < 4294967296):Prim.ev (.app false 4) [.l [],.l (m.map zr_)]=some (.l (m.map zr_)):=wk_ (w:=4) (fun _=>rfl) (.inl rfl) h
theorem ah5_ {l m:List Link} (h:l.length+m.length < 4294967296):Prim.ev (.app true 4) [.l (l.map zr_),.l (m.map zr_)]=some (.l ((l++m).map zr_)):=wm_ (w:=4) (fun _=>rfl) (.inr fun _=>rfl) h
theorem afl_ {m:List Link} (h:m.length < 4294967296):Prim.ev (.app true 4) [.l [],.l (m.map zr_)]=some (.l (m.map zr_)):=wk_ (w:=4) (fun _=>rfl) (.inr fun _=>rfl) h
theorem am8_ {l:List Link} {x:Link} (h:l.length < 4294967295):Prim.ev (.app false 4) [.l (l.map zr_),.l ([x].map zr_)]=some (.l ((l++[x]).map zr_)):=afj_ (by simp;omega)
theorem amn_ {x:Link}:Prim.ev (.app false 4) [.l [],.l ([x].map zr_)]=some (.l ([x].map zr_)):=add_ (by simp)
theorem aqh_ {l:List Link} {x:Link} (h:l.length < 4294967295):Prim.ev (.app true 4) [.l (l.map zr_),.l ([x].map zr_)]=some (.l ((l++[x]).map zr_)):=ah5_ (by simp;omega)
theorem amx_ {x:Link}:Prim.ev (.app true 4) [.l [],.l ([x].map zr_)]=some (.l ([x].map zr_)):=afl_ (by simp)
theorem aHs_ {l:List Link} {a:Int} (h:0≤a) (h':a≤l.length):Prim.ev (.sub 4 true false) [.l (l.map zr_),ii a]=some (.l ((l.drop a.toNat).map zr_)):=uD_ (enc:=zr_) (w:=4) (fun _=>rfl) h h'
theorem aG9_ {l:List Link} {a:Int} (h:0≤a) (h':a≤l.length):Prim.ev (.sub 4 false true) [.l (l.map zr_),ii a]=some (.l ((l.take a.toNat).map zr_)):=uQ_ (enc:=zr_) (w:=4) (fun _=>rfl) h h'
theorem aJc_ (v0:Int) (v1:Int) (v2:Int) (v3:Int):Prim.ev (.lit 4 [true,true,true,true]) [ii v0,ii v1,ii v2,ii v3]=some (.l ([(⟨v0,v1,v2,v3⟩:Link)].map zr_)):=wb_ (by decide) rfl rfl
theorem aFm_ (v0:Int) (v1:Int) (v2:Int) (v3:Int):Prim.ev (.lit 4 []) [ii v0,ii v1,ii v2,ii v3]=some (.l ([(⟨v0,v1,v2,v3⟩:Link)].map zr_)):=wb_ (by decide) rfl rfl
theorem aJz_ (x:Link):(⟨x.a,x.b,x.cost,x.area⟩:Link)=x:=rfl
structure Thing where
 owner:Int
 key:Int
 cost:Int
 far:Bool
 deriving Inhabited
def zo_ (x:Thing):List T:=[ii x.owner,ii x.key,ii x.cost,bb x.far]
theorem awz_ {l:List Thing} {n:Int} (h:0≤n) (h':n < l.length):Prim.ev (.cell 4 0) [.l (l.map zo_),ii n]=some (ii (gt l n).owner):=zQ_ h (zp_ h h') rfl rfl
theorem ase_ {l:List Thing} {n:Int} (h:0≤n) (h':n < l.length):Prim.ev (.scell 4 0) [.l (l.map zo_),ii n]=some (ii (gt l n).owner):=z7_ h (zp_ h h') rfl rfl rfl
theorem avd_ {l:List Thing} {n:Int} (h:0≤n) (h':n < l.length):Prim.ev (.cell 4 1) [.l (l.map zo_),ii n]=some (ii (gt l n).key):=zQ_ h (zp_ h h') rfl rfl
theorem asw_ {l:List Thing} {n:Int} (h:0≤n) (h':n < l.length):Prim.ev (.scell 4 1) [.l (l.map zo_),ii n]=some (ii (gt l n).key):=z7_ h (zp_ h h') rfl rfl rfl
theorem av1_ {l:List Thing} {n:Int} (h:0≤n) (h':n < l.length):Prim.ev (.cell 4 2) [.l (l.map zo_),ii n]=some (ii (gt l n).cost):=zQ_ h (zp_ h h') rfl rfl
theorem asr_ {l:List Thing} {n:Int} (h:0≤n) (h':n < l.length):Prim.ev (.scell 4 2) [.l (l.map zo_),ii n]=some (ii (gt l n).cost):=z7_ h (zp_ h h') rfl rfl rfl
theorem awm_ {l:List Thing} {n:Int} (h:0≤n) (h':n < l.length):Prim.ev (.cell 4 3) [.l (l.map zo_),ii n]=some (bb (gt l n).far):=zQ_ h (zp_ h h') rfl rfl
theorem ar8_ {l:List Thing} {n:Int} (h:0≤n) (h':n < l.length):Prim.ev (.scell 4 3) [.l (l.map zo_),ii n]=some (bb (gt l n).far):=z7_ h (zp_ h h') rfl rfl rfl
theorem ac9_ {l m:List Thing} (h:l.length+m.length < 4294967296):Prim.ev (.app false 4) [.l (l.map zo_),.l (m.map zo_)]=some (.l ((l++m).map zo_)):=wm_ (w:=4) (fun _=>rfl) (.inl rfl) h
theorem act_ {m:List Thing} (h:m.length < 4294967296):Prim.ev (.app false 4) [.l [],.l (m.map zo_)]=some (.l (m.map zo_)):=wk_ (w:=4) (fun _=>rfl) (.inl rfl) h
theorem afk_ {l m:List Thing} (h:l.length+m.length < 4294967296):Prim.ev (.app true 4) [.l (l.map zo_),.l (m.map zo_)]=some (.l ((l++m).map zo_)):=wm_ (w:=4) (fun _=>rfl) (.inr fun _=>rfl) h
theorem adk_ {m:List Thing} (h:m.length < 4294967296):Prim.ev (.app true 4) [.l [],.l (m.map zo_)]=some (.l (m.map zo_)):=wk_ (w:=4) (fun _=>rfl) (.inr fun _=>rfl) h
theorem al8_ {l:List Thing} {x:Thing} (h:l.length < 4294967295):Prim.ev (.app false 4) [.l (l.map zo_),.l ([x].map zo_)]=some (.l ((l++[x]).map zo_)):=ac9_ (by simp;omega)
theorem ak4_ {x:Thing}:Prim.ev (.app false 4) [.l [],.l ([x].map zo_)]=some (.l ([x].map zo_)):=act_ (by simp)
theorem apb_ {l:List Thing} {x:Thing} (h:l.length < 4294967295):Prim.ev (.app true 4) [.l (l.map zo_),.l ([x].map zo_)]=some (.l ((l++[x]).map zo_)):=afk_ (by simp;omega)
theorem ama_ {x:Thing}:Prim.ev (.app true 4) [.l [],.l ([x].map zo_)]=some (.l ([x].map zo_)):=adk_ (by simp)
theorem aEc_ {l:List Thing} {a:Int} (h:0≤a) (h':a≤l.length):Prim.ev (.sub 4 true false) [.l (l.map zo_),ii a]=some (.l ((l.drop a.toNat).map zo_)):=uD_ (enc:=zo_) (w:=4) (fun _=>rfl) h h'
theorem aDb_ {l:List Thing} {a:Int} (h:0≤a) (h':a≤l.length):Prim.ev (.sub 4 false true) [.l (l.map zo_),ii a]=some (.l ((l.take a.toNat).map zo_)):=uQ_ (enc:=zo_) (w:=4) (fun _=>rfl) h h'
theorem aH4_ (x:Thing):(⟨x.owner,x.key,x.cost,x.far⟩:Thing)=x:=rfl
structure Net where
 n:Int
 links:List Link
 things:List Thing
 deriving Inhabited
structure Near where
 to:Int
 cost:Int
 deriving Inhabited
def zu_ (x:Near):List T:=[ii x.to,ii x.cost]
theorem ayx_ {l:List Near} {n:Int} (h:0≤n) (h':n < l.length):Prim.ev (.cell 2 0) [.l (l.map zu_),ii n]=some (ii (gt l n).to):=zQ_ h (zp_ h h') rfl rfl
theorem atf_ {l:List Near} {n:Int} (h:0≤n) (h':n < l.length):Prim.ev (.scell 2 0) [.l (l.map zu_),ii n]=some (ii (gt l n).to):=z7_ h (zp_ h h') rfl rfl rfl
theorem az4_ {l:List Near} {n:Int} (h:0≤n) (h':n < l.length):Prim.ev (.cell 2 1) [.l (l.map zu_),ii n]=some (ii (gt l n).cost):=zQ_ h (zp_ h h') rfl rfl
theorem at6_ {l:List Near} {n:Int} (h:0≤n) (h':n < l.length):Prim.ev (.scell 2 1) [.l (l.map zu_),ii n]=some (ii (gt l n).cost):=z7_ h (zp_ h h') rfl rfl rfl
theorem ae4_ {l m:List Near} (h:l.length+m.length < 4294967296):Prim.ev (.app false 2) [.l (l.map zu_),.l (m.map zu_)]=some (.l ((l++m).map zu_)):=wm_ (w:=2) (fun _=>rfl) (.inl rfl) h
theorem adf_ {m:List Near} (h:m.length < 4294967296):Prim.ev (.app false 2) [.l [],.l (m.map zu_)]=some (.l (m.map zu_)):=wk_ (w:=2) (fun _=>rfl) (.inl rfl) h
theorem aid_ {l m:List Near} (h:l.length+m.length < 4294967296):Prim.ev (.app true 2) [.l (l.map zu_),.l (m.map zu_)]=some (.l ((l++m).map zu_)):=wm_ (w:=2) (fun _=>rfl) (.inr fun _=>rfl) h
theorem afx_ {m:List Near} (h:m.length < 4294967296):Prim.ev (.app true 2) [.l [],.l (m.map zu_)]=some (.l (m.map zu_)):=wk_ (w:=2) (fun _=>rfl) (.inr fun _=>rfl) h
theorem anf_ {l:List Near} {x:Near} (h:l.length < 4294967295):Prim.ev (.app false 2) [.l (l.map zu_),.l ([x].map zu_)]=some (.l ((l++[x]).map zu_)):=ae4_ (by simp;omega)
theorem amd_ {x:Near}:Prim.ev (.app false 2) [.l [],.l ([x].map zu_)]=some (.l ([x].map zu_)):=adf_ (by simp)
theorem afs_ {l:List Near} {x:Near} (h:l.length < 4294967295):Prim.ev (.app true 2) [.l (l.map zu_),.l ([x].map zu_)]=some (.l ((l++[x]).map zu_)):=aid_ (by simp;omega)
theorem aoy_ {x:Near}:Prim.ev (.app true 2) [.l [],.l ([x].map zu_)]=some (.l ([x].map zu_)):=afx_ (by simp)
theorem aGx_ {l:List Near} {a:Int} (h:0≤a) (h':a≤l.length):Prim.ev (.sub 2 true false) [.l (l.map zu_),ii a]=some (.l ((l.drop a.toNat).map zu_)):=uD_ (enc:=zu_) (w:=2) (fun _=>rfl) h h'
theorem aFr_ {l:List Near} {a:Int} (h:0≤a) (h':a≤l.length):Prim.ev (.sub 2 false true) [.l (l.map zu_),ii a]=some (.l ((l.take a.toNat).map zu_)):=uQ_ (enc:=zu_) (w:=2) (fun _=>rfl) h h'
theorem aK9_ (v0:Int) (v1:Int):Prim.ev (.lit 2 [true,true]) [ii v0,ii v1]=some (.l ([(⟨v0,v1⟩:Near)].map zu_)):=wb_ (by decide) rfl rfl
theorem aHv_ (v0:Int) (v1:Int):Prim.ev (.lit 2 []) [ii v0,ii v1]=some (.l ([(⟨v0,v1⟩:Near)].map zu_)):=wb_ (by decide) rfl rfl
theorem aJ0_ (x:Near):(⟨x.to,x.cost⟩:Near)=x:=rfl
structure Rcd where
 area:Int
 kind:Int
 owner:Int
 key:Int
 seq:Int
 near:List Near
 cost:Int
 far:Bool
 deriving Inhabited
def eRcd (x:Rcd):List T:=[ii x.area,ii x.kind,ii x.owner,ii x.key,ii x.seq,.l (x.near.map zu_),ii x.cost,bb x.far]
theorem aD6_ {l:List Rcd} {n:Int} (h:0≤n) (h':n < l.length):Prim.ev (.cell 8 0) [.l (l.map eRcd),ii n]=some (ii (gt l n).area):=zQ_ h (zp_ h h') rfl rfl
theorem ayl_ {l:List Rcd} {n:Int} (h:0≤n) (h':n < l.length):Prim.ev (.scell 8 0) [.l (l.map eRcd),ii n]=some (ii (gt l n).area):=z7_ h (zp_ h h') rfl rfl rfl
theorem aB9_ {l:List Rcd} {n:Int} (h:0≤n) (h':n < l.length):Prim.ev (.cell 8 1) [.l (l.map eRcd),ii n]=some (ii (gt l n).kind):=zQ_ h (zp_ h h') rfl rfl
theorem azb_ {l:List Rcd} {n:Int} (h:0≤n) (h':n < l.length):Prim.ev (.scell 8 1) [.l (l.map eRcd),ii n]=some (ii (gt l n).kind):=z7_ h (zp_ h h') rfl rfl rfl
theorem aCv_ {l:List Rcd} {n:Int} (h:0≤n) (h':n < l.length):Prim.ev (.cell 8 2) [.l (l.map eRcd),ii n]=some (ii (gt l n).owner):=zQ_ h (zp_ h h') rfl rfl
theorem azz_ {l:List Rcd} {n:Int} (h:0≤n) (h':n < l.length):Prim.ev (.scell 8 2) [.l (l.map eRcd),ii n]=some (ii (gt l n).owner):=z7_ h (zp_ h h') rfl rfl rfl
theorem aB0_ {l:List Rcd} {n:Int} (h:0≤n) (h':n < l.length):Prim.ev (.cell 8 3) [.l (l.map eRcd),ii n]=some (ii (gt l n).key):=zQ_ h (zp_ h h') rfl rfl
theorem aAl_ {l:List Rcd} {n:Int} (h:0≤n) (h':n < l.length):Prim.ev (.scell 8 3) [.l (l.map eRcd),ii n]=some (ii (gt l n).key):=z7_ h (zp_ h h') rfl rfl rfl
theorem aFg_ {l:List Rcd} {n:Int} (h:0≤n) (h':n < l.length):Prim.ev (.cell 8 4) [.l (l.map eRcd),ii n]=some (ii (gt l n).seq):=zQ_ h (zp_ h h') rfl rfl
theorem ayj_ {l:List Rcd} {n:Int} (h:0≤n) (h':n < l.length):Prim.ev (.scell 8 4) [.l (l.map eRcd),ii n]=some (ii (gt l n).seq):=z7_ h (zp_ h h') rfl rfl rfl
theorem aCr_ {l:List Rcd} {n:Int} (h:0≤n) (h':n < l.length):Prim.ev (.cell 8 5) [.l (l.map eRcd),ii n]=some (.l ((gt l n).near.map zu_)):=zQ_ h (zp_ h h') rfl rfl
theorem aIj_ {l:List Rcd} {n:Int} (h:0≤n) (h':n < l.length):Prim.ev (.dig 8 5) [.l (l.map eRcd),ii n]=some (.l ((gt l n).near.map zu_)):=abd_ h (zp_ h h') rfl rfl
theorem aB3_ {l:List Rcd} {n:Int} (h:0≤n) (h':n < l.length):Prim.ev (.cell 8 6) [.l (l.map eRcd),ii n]=some (ii (gt l n).cost):=zQ_ h (zp_ h h') rfl rfl
theorem ax9_ {l:List Rcd} {n:Int} (h:0≤n) (h':n < l.length):Prim.ev (.scell 8 6) [.l (l.map eRcd),ii n]=some (ii (gt l n).cost):=z7_ h (zp_ h h') rfl rfl rfl
theorem aCo_ {l:List Rcd} {n:Int} (h:0≤n) (h':n < l.length):Prim.ev (.cell 8 7) [.l (l.map eRcd),ii n]=some (bb (gt l n).far):=zQ_ h (zp_ h h') rfl rfl
theorem azh_ {l:List Rcd} {n:Int} (h:0≤n) (h':n < l.length):Prim.ev (.scell 8 7) [.l (l.map eRcd),ii n]=some (bb (gt l n).far):=z7_ h (zp_ h h') rfl rfl rfl
theorem uR_ {l m:List Rcd} (h:l.length+m.length < 4294967296):Prim.ev (.app false 8) [.l (l.map eRcd),.l (m.map eRcd)]=some (.l ((l++m).map eRcd)):=wm_ (w:=8) (fun _=>rfl) (.inl rfl) h
theorem afr_ {m:List Rcd} (h:m.length < 4294967296):Prim.ev (.app false 8) [.l [],.l (m.map eRcd)]=some (.l (m.map eRcd)):=wk_ (w:=8) (fun _=>rfl) (.inl rfl) h
theorem aqg_ {l:List Rcd} {x:Rcd} (h:l.length < 4294967295):Prim.ev (.app false 8) [.l (l.map eRcd),.l ([x].map eRcd)]=some (.l ((l++[x]).map eRcd)):=uR_ (by simp;omega)
theorem aoh_ {x:Rcd}:Prim.ev (.app false 8) [.l [],.l ([x].map eRcd)]=some (.l ([x].map eRcd)):=afr_ (by simp)
theorem aJx_ {l:List Rcd} {a:Int} (h:0≤a) (h':a≤l.length):Prim.ev (.sub 8 true false) [.l (l.map eRcd),ii a]=some (.l ((l.drop a.toNat).map eRcd)):=uD_ (enc:=eRcd) (w:=8) (fun _=>rfl) h h'
theorem aKe_ {l:List Rcd} {a:Int} (h:0≤a) (h':a≤l.length):Prim.ev (.sub 8 false true) [.l (l.map eRcd),ii a]=some (.l ((l.take a.toNat).map eRcd)):=uQ_ (enc:=eRcd) (w:=8) (fun _=>rfl) h h'
theorem aBj_ (v0:Int) (v1:Int) (v2:Int) (v3:Int) (v4:Int) (v5:List Near) (v6:Int) (v7:Bool):Prim.ev (.lit 8 [true,true,true,true,true,false,true,true]) [ii v0,ii v1,ii v2,ii v3,ii v4,.l (v5.map zu_),ii v6,bb v7]=some (.l ([(⟨v0,v1,v2,v3,v4,v5,v6,v7⟩:Rcd)].map eRcd)):=wb_ (by decide) rfl rfl
theorem aJe_ (v0:Int) (v1:Int) (v2:Int) (v3:Int) (v4:Int) (v5:List Near) (v6:Int) (v7:Bool):Prim.ev (.lit 8 []) [ii v0,ii v1,ii v2,ii v3,ii v4,.l (v5.map zu_),ii v6,bb v7]=some (.l ([(⟨v0,v1,v2,v3,v4,v5,v6,v7⟩:Rcd)].map eRcd)):=wb_ (by decide) rfl rfl
theorem aL2_ (x:Rcd):(⟨x.area,x.kind,x.owner,x.key,x.seq,x.near,x.cost,x.far⟩:Rcd)=x:=rfl
structure Way where
 to:Int
 cost:Int
 hops:List Int
 deriving Inhabited
def eWay (x:Way):List T:=[ii x.to,ii x.cost,.l (x.hops.map eInt)]
theorem aB5_ {l:List Way} {n:Int} (h:0≤n) (h':n < l.length):Prim.ev (.cell 3 0) [.l (l.map eWay),ii n]=some (ii (gt l n).to):=zQ_ h (zp_ h h') rfl rfl
theorem aAg_ {l:List Way} {n:Int} (h:0≤n) (h':n < l.length):Prim.ev (.scell 3 0) [.l (l.map eWay),ii n]=some (ii (gt l n).to):=z7_ h (zp_ h h') rfl rfl rfl
theorem aDj_ {l:List Way} {n:Int} (h:0≤n) (h':n < l.length):Prim.ev (.cell 3 1) [.l (l.map eWay),ii n]=some (ii (gt l n).cost):=zQ_ h (zp_ h h') rfl rfl
theorem aAm_ {l:List Way} {n:Int} (h:0≤n) (h':n < l.length):Prim.ev (.scell 3 1) [.l (l.map eWay),ii n]=some (ii (gt l n).cost):=z7_ h (zp_ h h') rfl rfl rfl
theorem aD4_ {l:List Way} {n:Int} (h:0≤n) (h':n < l.length):Prim.ev (.cell 3 2) [.l (l.map eWay),ii n]=some (.l ((gt l n).hops.map eInt)):=zQ_ h (zp_ h h') rfl rfl
theorem aF1_ {l:List Way} {n:Int} (h:0≤n) (h':n < l.length):Prim.ev (.dig 3 2) [.l (l.map eWay),ii n]=some (.l ((gt l n).hops.map eInt)):=abd_ h (zp_ h h') rfl rfl
theorem wG_ {l m:List Way} (h:l.length+m.length < 4294967296):Prim.ev (.app false 3) [.l (l.map eWay),.l (m.map eWay)]=some (.l ((l++m).map eWay)):=wm_ (w:=3) (fun _=>rfl) (.inl rfl) h
theorem wl_ {m:List Way} (h:m.length < 4294967296):Prim.ev (.app false 3) [.l [],.l (m.map eWay)]=some (.l (m.map eWay)):=wk_ (w:=3) (fun _=>rfl) (.inl rfl) h
theorem wN_ {l:List Way} {x:Way} (h:l.length < 4294967295):Prim.ev (.app false 3) [.l (l.map eWay),.l ([x].map eWay)]=some (.l ((l++[x]).map eWay)):=wG_ (by simp;omega)
theorem anx_ {x:Way}:Prim.ev (.app false 3) [.l [],.l ([x].map eWay)]=some (.l ([x].map eWay)):=wl_ (by simp)
theorem aKt_ {l:List Way} {a:Int} (h:0≤a) (h':a≤l.length):Prim.ev (.sub 3 true false) [.l (l.map eWay),ii a]=some (.l ((l.drop a.toNat).map eWay)):=uD_ (enc:=eWay) (w:=3) (fun _=>rfl) h h'
theorem aJo_ {l:List Way} {a:Int} (h:0≤a) (h':a≤l.length):Prim.ev (.sub 3 false true) [.l (l.map eWay),ii a]=some (.l ((l.take a.toNat).map eWay)):=uQ_ (enc:=eWay) (w:=3) (fun _=>rfl) h h'
theorem aL0_ (v0:Int) (v1:Int) (v2:List Int):Prim.ev (.lit 3 [true,true,false]) [ii v0,ii v1,.l (v2.map eInt)]=some (.l ([(⟨v0,v1,v2⟩:Way)].map eWay)):=wb_ (by decide) rfl rfl
theorem aJ6_ (v0:Int) (v1:Int) (v2:List Int):Prim.ev (.lit 3 []) [ii v0,ii v1,.l (v2.map eInt)]=some (.l ([(⟨v0,v1,v2⟩:Way)].map eWay)):=wb_ (by decide) rfl rfl
theorem aMi_ (x:Way):(⟨x.to,x.cost,x.hops⟩:Way)=x:=rfl
structure Route where
 thing:Bool
 to:Int
 kind:Int
 cost:Int
 far:Int
 hops:List Int
 deriving Inhabited
structure Self where
 id:Int
 boot:Int
 net:Net
 heard:List Int
 store:List Rcd
 deriving Inhabited
def yk_ (x:Self):List T:=[ii x.id,ii x.boot,ii x.net.n,.l (x.net.links.map zr_),.l (x.net.things.map zo_),.l (x.heard.map eInt),.l (x.store.map eRcd)]
theorem ay6_ {l:List Self} {n:Int} (h:0≤n) (h':n < l.length):Prim.ev (.cell 7 0) [.l (l.map yk_),ii n]=some (ii (gt l n).id):=zQ_ h (zp_ h h') rfl rfl
theorem avc_ {l:List Self} {n:Int} (h:0≤n) (h':n < l.length):Prim.ev (.scell 7 0) [.l (l.map yk_),ii n]=some (ii (gt l n).id):=z7_ h (zp_ h h') rfl rfl rfl
theorem azm_ {l:List Self} {n:Int} (h:0≤n) (h':n < l.length):Prim.ev (.cell 7 1) [.l (l.map yk_),ii n]=some (ii (gt l n).boot):=zQ_ h (zp_ h h') rfl rfl
theorem au7_ {l:List Self} {n:Int} (h:0≤n) (h':n < l.length):Prim.ev (.scell 7 1) [.l (l.map yk_),ii n]=some (ii (gt l n).boot):=z7_ h (zp_ h h') rfl rfl rfl
theorem axz_ {l:List Self} {n:Int} (h:0≤n) (h':n < l.length):Prim.ev (.cell 7 2) [.l (l.map yk_),ii n]=some (ii (gt l n).net.n):=zQ_ h (zp_ h h') rfl rfl
theorem avl_ {l:List Self} {n:Int} (h:0≤n) (h':n < l.length):Prim.ev (.scell 7 2) [.l (l.map yk_),ii n]=some (ii (gt l n).net.n):=z7_ h (zp_ h h') rfl rfl rfl
theorem aAs_ {l:List Self} {n:Int} (h:0≤n) (h':n < l.length):Prim.ev (.cell 7 3) [.l (l.map yk_),ii n]=some (.l ((gt l n).net.links.map zr_)):=zQ_ h (zp_ h h') rfl rfl
theorem aDp_ {l:List Self} {n:Int} (h:0≤n) (h':n < l.length):Prim.ev (.dig 7 3) [.l (l.map yk_),ii n]=some (.l ((gt l n).net.links.map zr_)):=abd_ h (zp_ h h') rfl rfl
theorem azq_ {l:List Self} {n:Int} (h:0≤n) (h':n < l.length):Prim.ev (.cell 7 4) [.l (l.map yk_),ii n]=some (.l ((gt l n).net.things.map zo_)):=zQ_ h (zp_ h h') rfl rfl
theorem aDh_ {l:List Self} {n:Int} (h:0≤n) (h':n < l.length):Prim.ev (.dig 7 4) [.l (l.map yk_),ii n]=some (.l ((gt l n).net.things.map zo_)):=abd_ h (zp_ h h') rfl rfl
theorem azi_ {l:List Self} {n:Int} (h:0≤n) (h':n < l.length):Prim.ev (.cell 7 5) [.l (l.map yk_),ii n]=some (.l ((gt l n).heard.map eInt)):=zQ_ h (zp_ h h') rfl rfl
theorem aCp_ {l:List Self} {n:Int} (h:0≤n) (h':n < l.length):Prim.ev (.dig 7 5) [.l (l.map yk_),ii n]=some (.l ((gt l n).heard.map eInt)):=abd_ h (zp_ h h') rfl rfl
theorem aAi_ {l:List Self} {n:Int} (h:0≤n) (h':n < l.length):Prim.ev (.cell 7 6) [.l (l.map yk_),ii n]=some (.l ((gt l n).store.map eRcd)):=zQ_ h (zp_ h h') rfl rfl
theorem aDw_ {l:List Self} {n:Int} (h:0≤n) (h':n < l.length):Prim.ev (.dig 7 6) [.l (l.map yk_),ii n]=some (.l ((gt l n).store.map eRcd)):=abd_ h (zp_ h h') rfl rfl
theorem afg_ {l m:List Self} (h:l.length+m.length < 4294967296):Prim.ev (.app false 7) [.l (l.map yk_),.l (m.map yk_)]=some (.l ((l++m).map yk_)):=wm_ (w:=7) (fun _=>rfl) (.inl rfl) h
theorem ac8_ {m:List Self} (h:m.length < 4294967296):Prim.ev (.app false 7) [.l [],.l (m.map yk_)]=some (.l (m.map yk_)):=wk_ (w:=7) (fun _=>rfl) (.inl rfl) h
theorem any_ {l:List Self} {x:Self} (h:l.length < 4294967295):Prim.ev (.app false 7) [.l (l.map yk_),.l ([x].map yk_)]=some (.l ((l++[x]).map yk_)):=afg_ (by simp;omega)
theorem amo_ {x:Self}:Prim.ev (.app false 7) [.l [],.l ([x].map yk_)]=some (.l ([x].map yk_)):=ac8_ (by simp)
theorem aHd_ {l:List Self} {a:Int} (h:0≤a) (h':a≤l.length):Prim.ev (.sub 7 true false) [.l (l.map yk_),ii a]=some (.l ((l.drop a.toNat).map yk_)):=uD_ (enc:=yk_) (w:=7) (fun _=>rfl) h h'
theorem aFt_ {l:List Self} {a:Int} (h:0≤a) (h':a≤l.length):Prim.ev (.sub 7 false true) [.l (l.map yk_),ii a]=some (.l ((l.take a.toNat).map yk_)):=uQ_ (enc:=yk_) (w:=7) (fun _=>rfl) h h'
theorem aK2_ (v0:Int) (v1:Int) (v2:Int) (v3:List Link) (v4:List Thing) (v5:List Int) (v6:List Rcd):Prim.ev (.lit 7 [true,true,true,false,false,false,false]) [ii v0,ii v1,ii v2,.l (v3.map zr_),.l (v4.map zo_),.l (v5.map eInt),.l (v6.map eRcd)]=some (.l ([(⟨v0,v1,⟨v2,v3,v4⟩,v5,v6⟩:Self)].map yk_)):=wb_ (by decide) rfl rfl
theorem aId_ (v0:Int) (v1:Int) (v2:Int) (v3:List Link) (v4:List Thing) (v5:List Int) (v6:List Rcd):Prim.ev (.lit 7 []) [ii v0,ii v1,ii v2,.l (v3.map zr_),.l (v4.map zo_),.l (v5.map eInt),.l (v6.map eRcd)]=some (.l ([(⟨v0,v1,⟨v2,v3,v4⟩,v5,v6⟩:Self)].map yk_)):=wb_ (by decide) rfl rfl
theorem aKh_ (x:Self):(⟨x.id,x.boot,⟨x.net.n,x.net.links,x.net.things⟩,x.heard,x.store⟩:Self)=x:=rfl
structure Ear where
 node:Int
 area:Int
 left:Int
 both:Bool
 deriving Inhabited
def eEar (x:Ear):List T:=[ii x.node,ii x.area,ii x.left,bb x.both]
theorem aDi_ {l:List Ear} {n:Int} (h:0≤n) (h':n < l.length):Prim.ev (.cell 4 0) [.l (l.map eEar),ii n]=some (ii (gt l n).node):=zQ_ h (zp_ h h') rfl rfl
theorem azx_ {l:List Ear} {n:Int} (h:0≤n) (h':n < l.length):Prim.ev (.scell 4 0) [.l (l.map eEar),ii n]=some (ii (gt l n).node):=z7_ h (zp_ h h') rfl rfl rfl
theorem aEj_ {l:List Ear} {n:Int} (h:0≤n) (h':n < l.length):Prim.ev (.cell 4 1) [.l (l.map eEar),ii n]=some (ii (gt l n).area):=zQ_ h (zp_ h h') rfl rfl
theorem aAn_ {l:List Ear} {n:Int} (h:0≤n) (h':n < l.length):Prim.ev (.scell 4 1) [.l (l.map eEar),ii n]=some (ii (gt l n).area):=z7_ h (zp_ h h') rfl rfl rfl
theorem aC2_ {l:List Ear} {n:Int} (h:0≤n) (h':n < l.length):Prim.ev (.cell 4 2) [.l (l.map eEar),ii n]=some (ii (gt l n).left):=zQ_ h (zp_ h h') rfl rfl
theorem aAz_ {l:List Ear} {n:Int} (h:0≤n) (h':n < l.length):Prim.ev (.scell 4 2) [.l (l.map eEar),ii n]=some (ii (gt l n).left):=z7_ h (zp_ h h') rfl rfl rfl
theorem aDr_ {l:List Ear} {n:Int} (h:0≤n) (h':n < l.length):Prim.ev (.cell 4 3) [.l (l.map eEar),ii n]=some (bb (gt l n).both):=zQ_ h (zp_ h h') rfl rfl
theorem azt_ {l:List Ear} {n:Int} (h:0≤n) (h':n < l.length):Prim.ev (.scell 4 3) [.l (l.map eEar),ii n]=some (bb (gt l n).both):=z7_ h (zp_ h h') rfl rfl rfl
theorem ah8_ {l m:List Ear} (h:l.length+m.length < 4294967296):Prim.ev (.app false 4) [.l (l.map eEar),.l (m.map eEar)]=some (.l ((l++m).map eEar)):=wm_ (w:=4) (fun _=>rfl) (.inl rfl) h
theorem ae1_ {m:List Ear} (h:m.length < 4294967296):Prim.ev (.app false 4) [.l [],.l (m.map eEar)]=some (.l (m.map eEar)):=wk_ (w:=4) (fun _=>rfl) (.inl rfl) h
theorem aip_ {l m:List Ear} (h:l.length+m.length < 4294967296):Prim.ev (.app true 4) [.l (l.map eEar),.l (m.map eEar)]=some (.l ((l++m).map eEar)):=wm_ (w:=4) (fun _=>rfl) (.inr fun _=>rfl) h
theorem ah2_ {m:List Ear} (h:m.length < 4294967296):Prim.ev (.app true 4) [.l [],.l (m.map eEar)]=some (.l (m.map eEar)):=wk_ (w:=4) (fun _=>rfl) (.inr fun _=>rfl) h
theorem api_ {l:List Ear} {x:Ear} (h:l.length < 4294967295):Prim.ev (.app false 4) [.l (l.map eEar),.l ([x].map eEar)]=some (.l ((l++[x]).map eEar)):=ah8_ (by simp;omega)
theorem am5_ {x:Ear}:Prim.ev (.app false 4) [.l [],.l ([x].map eEar)]=some (.l ([x].map eEar)):=ae1_ (by simp)
theorem asf_ {l:List Ear} {x:Ear} (h:l.length < 4294967295):Prim.ev (.app true 4) [.l (l.map eEar),.l ([x].map eEar)]=some (.l ((l++[x]).map eEar)):=aip_ (by simp;omega)
theorem ap1_ {x:Ear}:Prim.ev (.app true 4) [.l [],.l ([x].map eEar)]=some (.l ([x].map eEar)):=ah2_ (by simp)
theorem aKx_ {l:List Ear} {a:Int} (h:0≤a) (h':a≤l.length):Prim.ev (.sub 4 true false) [.l (l.map eEar),ii a]=some (.l ((l.drop a.toNat).map eEar)):=uD_ (enc:=eEar) (w:=4) (fun _=>rfl) h h'
theorem aKp_ {l:List Ear} {a:Int} (h:0≤a) (h':a≤l.length):Prim.ev (.sub 4 false true) [.l (l.map eEar),ii a]=some (.l ((l.take a.toNat).map eEar)):=uQ_ (enc:=eEar) (w:=4) (fun _=>rfl) h h'
theorem aN0_ (v0:Int) (v1:Int) (v2:Int) (v3:Bool):Prim.ev (.lit 4 [true,true,true,true]) [ii v0,ii v1,ii v2,bb v3]=some (.l ([(⟨v0,v1,v2,v3⟩:Ear)].map eEar)):=wb_ (by decide) rfl rfl
theorem aI4_ (v0:Int) (v1:Int) (v2:Int) (v3:Bool):Prim.ev (.lit 4 []) [ii v0,ii v1,ii v2,bb v3]=some (.l ([(⟨v0,v1,v2,v3⟩:Ear)].map eEar)):=wb_ (by decide) rfl rfl
theorem aNt_ (x:Ear):(⟨x.node,x.area,x.left,x.both⟩:Ear)=x:=rfl
structure Node where
 self:Self
 ears:List Ear
 deriving Inhabited
structure Packet where
 kind:Int
 frm:Int
 to:Int
 area:Int
 heard:List Int
 list:List Rcd
 deriving Inhabited
structure Line where
 thing:Bool
 to:Int
 hops:List Int
 deriving Inhabited
structure Turn where
 gone:Bool
 line:Line
 deriving Inhabited
structure World where
 net:Net
 links:List Bool
 up:List Bool
 boots:List Int
 nodes:List Node
 flying:List Packet
 told:List Rcd
 errors:Int
 deriving Inhabited
set_option linter.unusedSimpArgs false
set_option linter.defProp false
theorem pz:(∀ p:Prop,(p∨p)=p)∧(∀ p:Prop,(p∨True)=True)∧(∀ p:Prop,(True∨p)=True)∧(∀ p:Prop,(p∨False)=p)∧(∀ p:Prop,(False∨p)=p)∧(¬ True)=False∧(¬ False)=True∧(∀ a:Int,(a < a)=False) :=
 ⟨or_self,or_true,true_or,or_false,false_or,not_true_eq_false,not_false_eq_true,fun a=>eq_false (Int.lt_irrefl a)⟩
@[congr] theorem aPz_ {α β:Type} {F:(α→Option β)→α→Option β} {R:Nat} {x y:α} (h:x=y):iter F R x=iter F R y:=by rw [h]
@[congr] theorem aPy_ {α β:Type} {o o':Option α} {f:α→Option β} (h:o=o'):o.bind f=o'.bind f:=by rw [h]
@[congr] theorem aQf_ {t t':T} {x y:Option (List T)} (h:t=t'):ifT t x y=ifT t' x y:=by rw [h]
@[congr] theorem aQj_ {k:Sem1} {b:Sem1→Option (List T)}:jn k b=jn k b:=rfl
@[congr] theorem aP4_ {k:Option (List T)} {l l':List T} (h:l=l'):ar0 k l=ar0 k l':=by rw [h]
@[congr] theorem aQi_ {o o':Option (List T)} {k:T→Option (List T)} (h:o=o'):cl1 o k=cl1 o' k:=by rw [h]
@[congr] theorem aQa_ {k:T→Option (List T)} {l l':List T} (h:l=l'):ar1 k l=ar1 k l':=by rw [h]
@[congr] theorem aQc_ {o o':Option (List T)} {k:T→T→Option (List T)} (h:o=o'):cl2 o k=cl2 o' k:=by rw [h]
@[congr] theorem aP8_ {k:T→T→Option (List T)} {l l':List T} (h:l=l'):ar2 k l=ar2 k l':=by rw [h]
@[congr] theorem aQe_ {o o':Option (List T)} {k:T→T→T→Option (List T)} (h:o=o'):cl3 o k=cl3 o' k:=by rw [h]
@[congr] theorem aP5_ {k:T→T→T→Option (List T)} {l l':List T} (h:l=l'):ar3 k l=ar3 k l':=by rw [h]
@[congr] theorem aP3_ {o o':Option (List T)} {k:T→T→T→T→Option (List T)} (h:o=o'):cl4 o k=cl4 o' k:=by rw [h]
@[congr] theorem aQd_ {k:T→T→T→T→Option (List T)} {l l':List T} (h:l=l'):ar4 k l=ar4 k l':=by rw [h]
@[congr] theorem aP7_ {k:T→T→T→T→T→Option (List T)} {l l':List T} (h:l=l'):ar5 k l=ar5 k l':=by rw [h]
@[congr] theorem aQh_ {o o':Option (List T)} {k:T→T→T→T→T→T→Option (List T)} (h:o=o'):cl6 o k=cl6 o' k:=by rw [h]
@[congr] theorem aP6_ {o o':Option (List T)} {k:T→T→T→T→T→T→T→Option (List T)} (h:o=o'):cl7 o k=cl7 o' k:=by rw [h]
@[congr] theorem aP9_ {k:T→T→T→T→T→T→T→Option (List T)} {l l':List T} (h:l=l'):ar7 k l=ar7 k l':=by rw [h]
@[congr] theorem aP2_ {o o':Option (List T)} {k:T→T→T→T→T→T→T→T→Option (List T)} (h:o=o'):cl8 o k=cl8 o' k:=by rw [h]
@[congr] theorem aQb_ {k:T→T→T→T→T→T→T→T→Option (List T)} {l l':List T} (h:l=l'):ar8 k l=ar8 k l':=by rw [h]
@[congr] theorem aQg_ {o o':Option (List T)} {k:T→T→T→T→T→T→T→T→T→Option (List T)} (h:o=o'):cl9 o k=cl9 o' k:=by rw [h]
@[congr] theorem aP1_ {o o':Option (List T)} {k:T→T→T→T→T→T→T→T→T→T→Option (List T)} (h:o=o'):cl10 o k=cl10 o' k:=by rw [h]
@[congr] theorem aP0_ {o o':Option (List T)} {k:T→T→T→T→T→T→T→T→T→T→T→Option (List T)} (h:o=o'):cl11 o k=cl11 o' k:=by rw [h]
theorem aLt_ (b:Bool) (x y:Option (List T)):ifT (bb b) x y=if b=true then x else y:=by cases b <;> rfl
theorem aNn_:Prim.ev .len [.l []]=some (ii 0):=rfl
theorem aJi_ (a b:Int) (h:b≠0):Prim.ev (.bin .rem) [ii a,ii b]=some (ii (a.tmod b)):=by
 simp only [Prim.ev,T.val,binV,Option.bind_some,if_true,h,if_false]
theorem aMh_ (a b:Int):Prim.ev .mx [ii a,ii b]=some (ii (if b > a then b else a)):=rfl
theorem aM8_ (a b:Int):Prim.ev .mn [ii a,ii b]=some (ii (if b < a then b else a)):=rfl
theorem aMb_ (a b c d a' b' c' d':Int):Prim.ev (.eqs [1,1,1,1]) [ii a,ii b,ii c,ii d,ii a',ii b',ii c',ii d']=some (bb (a == a' && (b == b' && (c == c' && (d == d'))))):=by
 simp [Prim.ev,eqT,eqV]
theorem aKm_ (a b c a' b' c':Int) (d d':Bool):Prim.ev (.eqs [1,1,1,4]) [ii a,ii b,ii c,bb d,ii a',ii b',ii c',bb d']=some (bb (a == a' && (b == b' && (c == c' && (d == d'))))):=by
 simp [Prim.ev,eqT,eqV]
theorem aNq_ {w:Nat} (h:0 < w):Prim.ev (.lit w []) []=some (.l []):=by
 simp [Prim.ev,wL_,xK_,h]
theorem aJg_ (a b:Int):Prim.ev (.lit 1 [true,true]) [ii a,ii b]=some (.l ([a,b].map eInt)):=by simp [Prim.ev,wL_,xK_,scal,eInt]
theorem aHa_ (a b:Int):Prim.ev (.lit 1 []) [ii a,ii b]=some (.l ([a,b].map eInt)):=by simp [Prim.ev,wL_,xK_,eInt]
theorem avv_ {l:List Int} {x y:Int} (h:l.length < 4294967294):Prim.ev (.app true 1) [.l (l.map eInt),.l ([x,y].map eInt)]=some (.l ((l++[x,y]).map eInt)):=xR_ (by simp;omega)
theorem aMr_ (a b:Int):((a == b)=true)=(a=b):=by simp
theorem aNl_ (a b:Int):((a != b)=true)=¬ (a=b):=by simp
theorem aPc_ (b:Bool):((!b)=true)=¬ (b=true):=by simp
theorem aPk_ (a b:Bool):((a != b)=true)=¬ ((a=true)=(b=true)):=by cases a <;> cases b <;> simp
theorem aPv_ (a b:Bool):((a == b)=true)=((a=true)=(b=true)):=by cases a <;> cases b <;> simp
theorem uv_ (n:Nat):((n+1:Nat):Int)=(n:Int)+1:=by simp
theorem amt_ (a b:Nat):((a+b:Nat):Int)=(a:Int)+b:=by simp
theorem awq_:((1:Nat):Int)=1:=rfl
theorem aOe_:((2:Nat):Int)=2:=rfl
theorem aOy_:((3:Nat):Int)=3:=rfl
theorem aOt_:((5:Nat):Int)=5:=rfl
theorem aN7_:((6:Nat):Int)=6:=rfl
theorem aO0_:((7:Nat):Int)=7:=rfl
theorem aO2_:((9:Nat):Int)=9:=rfl
theorem av5_:((0:Nat):Int)=0:=rfl
theorem akp_ {α:Type} {p q:Prop} [Decidable p] [Decidable q] (h:p↔q) (x y:α):(if p then x else y)=if q then x else y:=by
 by_cases hq:q
 ·rw [if_pos (h.2 hq),if_pos hq]
 ·rw [if_neg (fun hp=>hq (h.1 hp)),if_neg hq]
def allB (n:Nat) (p:Nat→Bool):Bool:=(List.range n).all p
theorem allB_iff {n:Nat} {p:Nat→Bool}:allB n p=true↔∀ i,i < n→p i=true:=by
 simp [allB]
theorem acm_ {β σ:Type} {F:(σ→Option β)→σ→Option β} (n:Nat) (st:Nat→σ) (p:Nat→Bool) {outT outF:Option β}
  (step:∀ i:Nat,(i:Int) < (n:Int)→∀ s,F s (st i)=if p i=true then s (st (i+1)) else outF) (fin:∀ s,F s (st n)=outT) {R:Nat} (hR:n < R) :
  iter F R (st 0)=if allB n p=true then outT else outF:=by
 classical
 have:∀ (d i:Nat),i+d=n→∀ R,d < R→iter F R (st i)=if (∀ j,i≤j→j < n→p j=true) then outT else outF:=by
  intro d
  induction d with
  | zero =>
   intro i hi R hR
   cases R with
   | zero=>omega
   | succ R =>
    have hi:i=n:=hi
    subst hi
    rw [if_pos (fun j h1 h2=>absurd h1 (by omega))]
    exact fin _
  | succ d ih =>
   intro i hi R hR
   cases R with
   | zero=>omega
   | succ R =>
    unfold iter
    rw [step i (by omega)]
    by_cases hp:p i=true
    ·rw [if_pos hp,ih (i+1) (by omega) R (by omega)]
     refine akp_ ⟨fun h j h1 h2=>?_,fun h j h1 h2=>h j (by omega) h2⟩ _ _
     rcases Nat.lt_or_ge i j with h3 | h3
     ·exact h j h3 h2
     ·have:j=i:=by omega
      subst this;exact hp
    ·rw [if_neg hp,if_neg fun h=>hp (h i (Nat.le_refl i) (by omega))]
 rw [this n 0 (by omega) R hR]
 exact akp_ ⟨fun h=>allB_iff.2 fun i hi=>h i (Nat.zero_le i) hi,fun h j _ h2=>allB_iff.1 h j h2⟩ _ _
def zn_ {α:Type} (p:α→Bool) (l:List α):Int:=match l.findIdx? p with | some i=>(i:Int) | none=>-1
theorem y9_ {α:Type} (p:α→Bool) (l:List α):zn_ p l < l.length:=by
 unfold zn_
 cases h:l.findIdx? p with
 | none=>show (-1:Int) < _;omega
 | some i =>
  obtain ⟨h1,_⟩:=List.findIdx?_eq_some_iff_getElem.1 h
  show (i:Int) < _;omega
theorem aKd_ {α:Type} (p:α→Bool) (l:List α):-1≤zn_ p l:=by
 unfold zn_
 cases h:l.findIdx? p with
 | none=>show (-1:Int)≤-1;omega
 | some i=>show (-1:Int)≤(i:Int);omega
theorem yE_ {α:Type} [Inhabited α] (p:α→Bool) (l:List α) (h:0≤zn_ p l):p (gt l (zn_ p l))=true:=by
 unfold zn_ at h ⊢
 cases h':l.findIdx? p with
 | none=>rw [h'] at h;exact absurd h (by decide)
 | some i =>
  obtain ⟨h1,h2,_⟩:=List.findIdx?_eq_some_iff_getElem.1 h'
  show p (gt l (i:Int))=true
  rw [zm_ h1];exact h2
theorem wX_ {α:Type} (p:α→Bool) (l:List α):zn_ p l < 0↔∀ x∈l,p x=false:=by
 unfold zn_
 cases h:l.findIdx? p with
 | none =>
  rw [List.findIdx?_eq_none_iff] at h
  exact ⟨fun _=>h,fun _=>by show (-1:Int) < 0;decide⟩
 | some i =>
  obtain ⟨h1,h2,_⟩:=List.findIdx?_eq_some_iff_getElem.1 h
  refine ⟨fun h3=>absurd (show (i:Int) < 0 from h3) (by omega),fun h3=>?_⟩
  rw [h3 _ (List.getElem_mem h1)] at h2
  cases h2
theorem af8_ {α β σ:Type} [Inhabited α] {F:(σ→Option β)→σ→Option β} (l:List α) (st:Nat→σ) (p:α→Bool) (outS:Int→Option β) {outN:Option β}
  (step:∀ i:Nat,(i:Int) < (l.length:Int)→∀ s,F s (st i)=if p (gt l i)=true then outS i else s (st (i+1))) (fin:∀ s,F s (st l.length)=outN) {R:Nat} (hR:l.length < R) :
  iter F R (st 0)=if zn_ p l < 0 then outN else outS (zn_ p l):=by
 have:∀ (d i:Nat),i+d=l.length→∀ R,d < R→iter F R (st i)=(match (l.drop i).findIdx? p with | some k=>outS ((i+k:Nat):Int) | none=>outN):=by
  intro d
  induction d with
  | zero =>
   intro i hi R hR
   cases R with
   | zero=>omega
   | succ R =>
    rw [Nat.add_zero] at hi
    subst hi
    rw [List.drop_length]
    exact fin _
  | succ d ih =>
   intro i hi R hR
   cases R with
   | zero=>omega
   | succ R =>
    have hlt:i < l.length:=by omega
    unfold iter
    rw [step i (by omega),List.drop_eq_getElem_cons hlt,List.findIdx?_cons,zm_ hlt]
    cases hp:p l[i] with
    | true=>simp
    | false =>
     simp only [bF_,if_false]
     rw [ih (i+1) (by omega) R (by omega)]
     cases (l.drop (i+1)).findIdx? p with
     | none=>rfl
     | some k=>simp [Int.add_assoc,Int.add_comm 1]
 have h:=this l.length 0 (by omega) R hR
 rw [h,List.drop_zero]
 unfold zn_
 cases l.findIdx? p with
 | none=>rfl
 | some i =>
  show outS ((0+i:Nat):Int)=if (i:Int) < 0 then outN else outS (i:Int)
  rw [if_neg (by omega),Nat.zero_add]
theorem anp_ {α γ β σ:Type} [Inhabited α] {F:(σ→Option β)→σ→Option β} (l:List α) (st:Nat→γ→σ) (g:γ→α→γ) (out:γ→Option β) (c:γ) (Inv:Nat→γ→Prop) (h0:Inv 0 c)
  (step:∀ (i:Nat) c,(i:Int) < (l.length:Int)→Inv i c→Inv (i+1) (g c (gt l i))∧∀ s,F s (st i c)=s (st (i+1) (g c (gt l i)))) (fin:∀ c s,Inv l.length c→F s (st l.length c)=out c) {R:Nat} (hR:l.length < R) :
  iter F R (st 0 c)=out (l.foldl g c):=by
 have:∀ (d i:Nat) (c:γ),i+d=l.length→Inv i c→∀ R,d < R→iter F R (st i c)=out ((l.drop i).foldl g c):=by
  intro d
  induction d with
  | zero =>
   intro i c hi hc R hR
   cases R with
   | zero=>omega
   | succ R =>
    rw [Nat.add_zero] at hi
    subst hi
    rw [List.drop_length]
    exact fin _ _ hc
  | succ d ih =>
   intro i c hi hc R hR
   cases R with
   | zero=>omega
   | succ R =>
    have hlt:i < l.length:=by omega
    unfold iter
    obtain ⟨h1,h2⟩:=step i c (by omega) hc
    rw [h2,List.drop_eq_getElem_cons hlt,List.foldl_cons,ih (i+1) _ (by omega) h1 R (by omega),zm_ hlt]
 have h:=this l.length 0 c (by omega) h0 R hR
 simpa using h
theorem aIt_ {γ β σ:Type} {F:(σ→Option β)→σ→Option β} (n:Nat) (st:Nat→γ→σ) (g:γ→Nat→γ) (out:γ→Option β) (c:γ) (Inv:Nat→γ→Prop) (h0:Inv 0 c)
  (step:∀ (i:Nat) c,(i:Int) < (n:Int)→Inv i c→Inv (i+1) (g c i)∧∀ s,F s (st i c)=s (st (i+1) (g c i))) (fin:∀ c s,Inv n c→F s (st n c)=out c) {R:Nat} (hR:n < R) :
  iter F R (st 0 c)=out ((List.range n).foldl g c):=by
 have hl:(List.range n).length=n:=List.length_range
 refine anp_ (List.range n) st g out c Inv h0 (fun i c hi hc=>?_) (fun c s hc=>?_) (by rw [hl];exact hR)
 ·rw [hl] at hi
  rw [zm_ (by rw [hl];omega),List.getElem_range]
  exact step i c hi hc
 ·rw [hl] at hc ⊢
  exact fin c s hc
theorem vR_ {α β:Type} (p:α→Bool) (f:α→β) (l:List α) (acc:List β):l.foldl (fun c a=>if p a=true then c++[f a] else c) acc=acc++(l.filter p).map f:=by
 induction l generalizing acc with
 | nil=>simp
 | cons a l ih =>
  rw [List.foldl_cons,ih]
  cases h:p a <;> simp [h,List.filter_cons]
theorem foldl_map {α β:Type} (f:α→β) (l:List α) (acc:List β):l.foldl (fun c a=>c++[f a]) acc=acc++l.map f:=by
 induction l generalizing acc with
 | nil=>simp
 | cons a l ih=>rw [List.foldl_cons,ih];simp
theorem w3_ {β σ:Type} {F:(σ→Option β)→σ→Option β} {R:Nat} {x:σ} (n:Nat) (st:Nat→σ) (p:Nat→Bool) {outT outF:Option β} (hx:x=st 0) (hR:n < R)
  (step:∀ i:Nat,(i:Int) < (n:Int)→∀ s,F s (st i)=if p i=true then s (st (i+1)) else outF) (fin:∀ s,F s (st n)=outT) :
  iter F R x=if allB n p=true then outT else outF:=by rw [hx];exact acm_ n st p step fin hR
theorem vx_ {α β σ:Type} [Inhabited α] {F:(σ→Option β)→σ→Option β} {R:Nat} {x:σ} (l:List α) (st:Nat→σ) (p:α→Bool) (outS:Int→Option β) {outN:Option β} (hx:x=st 0) (hR:l.length < R)
  (step:∀ i:Nat,(i:Int) < (l.length:Int)→∀ s,F s (st i)=if p (gt l i)=true then outS i else s (st (i+1))) (fin:∀ s,F s (st l.length)=outN) :
  iter F R x=if zn_ p l < 0 then outN else outS (zn_ p l):=by rw [hx];exact af8_ l st p outS step fin hR
theorem zj_ {α γ β σ:Type} [Inhabited α] {F:(σ→Option β)→σ→Option β} {R:Nat} {x:σ} (l:List α) (st:Nat→γ→σ) (g:γ→α→γ) (out:γ→Option β) (c:γ) (Inv:Nat→γ→Prop) (hx:x=st 0 c) (hR:l.length < R) (h0:Inv 0 c)
  (step:∀ (i:Nat) c,(i:Int) < (l.length:Int)→Inv i c→Inv (i+1) (g c (gt l i))∧∀ s,F s (st i c)=s (st (i+1) (g c (gt l i)))) (fin:∀ c s,Inv l.length c→F s (st l.length c)=out c) :
  iter F R x=out (l.foldl g c):=by rw [hx];exact anp_ l st g out c Inv h0 step fin hR
theorem yV_ {γ β σ:Type} {F:(σ→Option β)→σ→Option β} {R:Nat} {x:σ} (n:Nat) (st:Nat→γ→σ) (g:γ→Nat→γ) (out:γ→Option β) (c:γ) (Inv:Nat→γ→Prop) (hx:x=st 0 c) (hR:n < R) (h0:Inv 0 c)
  (step:∀ (i:Nat) c,(i:Int) < (n:Int)→Inv i c→Inv (i+1) (g c i)∧∀ s,F s (st i c)=s (st (i+1) (g c i))) (fin:∀ c s,Inv n c→F s (st n c)=out c) :
  iter F R x=out ((List.range n).foldl g c):=by rw [hx];exact aIt_ n st g out c Inv h0 step fin hR
theorem aai_ {α γ:Type} [Inhabited α] {l:List α} {g:γ→α→γ} {c:γ} {Inv:Nat→γ→Prop} (h0:Inv 0 c) (step:∀ (i:Nat) c,(i:Int) < (l.length:Int)→Inv i c→Inv (i+1) (g c (gt l i))):Inv l.length (l.foldl g c):=by
 have:∀ (d i:Nat) (c:γ),i+d=l.length→Inv i c→Inv l.length ((l.drop i).foldl g c):=by
  intro d
  induction d with
  | zero=>intro i c hi hc;rw [Nat.add_zero] at hi;subst hi;rw [List.drop_length];exact hc
  | succ d ih =>
   intro i c hi hc
   have hlt:i < l.length:=by omega
   rw [List.drop_eq_getElem_cons hlt,List.foldl_cons]
   have:=step i c (by omega) hc
   rw [zm_ hlt] at this
   exact ih (i+1) _ (by omega) this
 have h:=this l.length 0 c (by omega) h0
 simpa using h
theorem aLw_ (n:Nat):(n:Int).tmod 2=((n % 2:Nat):Int):=rfl
theorem za_ {n:Nat} (h:n≤1048576):n < rounds:=by unfold rounds;omega
def runE {γ:Type} (ok:Nat→γ→Bool) (g:γ→Nat→γ) (n:Nat) (c:γ):Option γ:=(List.range n).foldl (fun o i=>o.bind fun c=>if ok i c=true then some (g c i) else none) (some c)
theorem aHz_ {γ:Type} (ok:Nat→γ→Bool) (g:γ→Nat→γ) (l:List Nat):l.foldl (fun o i=>o.bind fun c=>if ok i c=true then some (g c i) else none) (none:Option γ)=none:=by
 induction l with
 | nil=>rfl
 | cons i l ih=>exact ih
theorem aG3_ {γ β σ:Type} {F:(σ→Option β)→σ→Option β} {R:Nat} {x:σ} (n:Nat) (st:Nat→γ→σ) (ok:Nat→γ→Bool) (g:γ→Nat→γ) (out:γ→Option β) {outF:Option β} (c:γ) (Inv:Nat→γ→Prop) (hx:x=st 0 c) (hR:n < R) (h0:Inv 0 c)
  (step:∀ (i:Nat) c,(i:Int) < (n:Int)→Inv i c→(ok i c=true→Inv (i+1) (g c i))∧∀ s,F s (st i c)=if ok i c=true then s (st (i+1) (g c i)) else outF) (fin:∀ c s,Inv n c→F s (st n c)=out c) :
  iter F R x=match runE ok g n c with | some c=>out c | none=>outF:=by
 subst hx
 have:∀ (d i:Nat) (c:γ),i+d=n→Inv i c→∀ R,d < R→iter F R (st i c)=match ((List.range n).drop i).foldl (fun o i=>o.bind fun c=>if ok i c=true then some (g c i) else none) (some c) with | some c=>out c | none=>outF:=by
  intro d
  induction d with
  | zero =>
   intro i c hi hc R hR
   cases R with
   | zero=>omega
   | succ R =>
    rw [Nat.add_zero] at hi
    subst hi
    rw [List.drop_eq_nil_iff.2 (by simp)]
    exact fin _ _ hc
  | succ d ih =>
   intro i c hi hc R hR
   cases R with
   | zero=>omega
   | succ R =>
    have hlt:i < (List.range n).length:=by simp;omega
    unfold iter
    obtain ⟨h1,h2⟩:=step i c (by omega) hc
    rw [h2,List.drop_eq_getElem_cons hlt,List.foldl_cons,List.getElem_range]
    cases hp:ok i c with
    | true =>
     simp only [if_true,Option.bind_some,hp]
     exact ih (i+1) _ (by omega) (h1 hp) R (by omega)
    | false =>
     simp only [bF_,if_false,Option.bind_some,hp,aHz_]
 have h:=this n 0 c (by omega) h0 R hR
 simpa [runE] using h
theorem ww_ {α:Type} (p:α→Bool) (l:List α) (acc:List α):l.foldl (fun c a=>if p a=true then c++[a] else c) acc=acc++l.filter p:=by
 induction l generalizing acc with
 | nil=>simp
 | cons a l ih =>
  rw [List.foldl_cons,ih]
  cases h:p a <;> simp [h,List.filter_cons]
def ps0:=(aI_ (aI_ (aI_ (aI_ (@zd_ T (List T)) (aI_ trivial @aLq_)) (aI_ @aPs_ (aI_ @aPw_ @aPl_))) (aI_ (aI_ trivial (aI_ @aPe_ @aPr_)) (aI_ @aPo_ (aI_ @aPf_ @aO7_)))) (aI_ (aI_ (aI_ @aO5_ (aI_ trivial trivial)) (aI_ trivial (aI_ trivial trivial))) (aI_ (aI_ @aLs_ (aI_ @aLu_ @aLr_)) (aI_ @aLo_ (aI_ @aLx_ @aLk_)))))
def ps1:=(aI_ (aI_ (aI_ (aI_ trivial (aI_ @aLl_ @aLz_)) (aI_ trivial (aI_ trivial trivial))) (aI_ (aI_ trivial (aI_ trivial trivial)) (aI_ trivial (aI_ trivial aLt_)))) (aI_ (aI_ (aI_ (fun (p:Prop) (_:Decidable p)=>@decide_eq_true_eq p _) (aI_ bA_ Bool.or_eq_true)) (aI_ aPc_ (aI_ aPk_ aPv_))) (aI_ (aI_ aMr_ (aI_ aNl_ @ky_)) (aI_ aNn_ (aI_ @aBg_ @aog_)))))
def ps2:=(aI_ (aI_ (aI_ (aI_ @aIx_ (aI_ @aIo_ @aH3_)) (aI_ @avt_ (aI_ @aIf_ @k5_))) (aI_ (aI_ @aGd_ (aI_ @at9_ aJi_)) (aI_ aMh_ (aI_ aM8_ au6_)))) (aI_ (aI_ (aI_ avx_ (aI_ aFj_ @awo_)) (aI_ aty_ (aI_ aub_ @akd_))) (aI_ (aI_ @afw_ (aI_ aNc_ aMb_)) (aI_ aKm_ (aI_ @aNq_ amt_)))))
def ps3:=(aI_ (aI_ (aI_ (aI_ av5_ (aI_ awq_ aOe_)) (aI_ aOy_ (aI_ aOt_ aN7_))) (aI_ (aI_ aO0_ (aI_ aO2_ aBd_)) (aI_ aBf_ (aI_ aJg_ aHa_)))) (aI_ (aI_ (aI_ @avv_ (aI_ (fun (k:Nat)=>@Int.toNat_natCast k) (fun (α:Type) (f:α→List T) (l:List α)=>@List.length_map α (List T) l f))) (aI_ aJz_ (aI_ aH4_ trivial))) (aI_ (aI_ aJ0_ (aI_ aL2_ aMi_)) (aI_ trivial (aI_ aKh_ aNt_)))))
def ps4:=(aI_ (aI_ (aI_ (aI_ trivial (aI_ trivial trivial)) (aI_ trivial (aI_ trivial @aD8_))) (aI_ (aI_ @azf_ (aI_ @apr_ @ao4_)) (aI_ @aie_ (aI_ @aey_ @wf_)))) (aI_ (aI_ (aI_ @ap9_ (aI_ @xR_ @ah4_)) (aI_ @aLg_ (aI_ @aJv_ @aL5_))) (aI_ (aI_ @aKu_ (aI_ @aAj_ @atv_)) (aI_ @aon_ (aI_ @al5_ @ae8_)))))
def ps5:=(aI_ (aI_ (aI_ (aI_ @ada_ (aI_ @ap2_ @aoo_)) (aI_ @ah3_ (aI_ @afu_ @aG4_))) (aI_ (aI_ @aH0_ (aI_ @aJn_ @aFp_)) (aI_ @aye_ (aI_ @avy_ @az6_)))) (aI_ (aI_ (aI_ @avm_ (aI_ @ax6_ @awe_)) (aI_ @ax7_ (aI_ @aux_ @am8_))) (aI_ (aI_ @amn_ (aI_ @afj_ @add_)) (aI_ @aqh_ (aI_ @amx_ @ah5_)))))
def ps6:=(aI_ (aI_ (aI_ (aI_ @afl_ (aI_ @aHs_ @aG9_)) (aI_ @aJc_ (aI_ @aFm_ @awz_))) (aI_ (aI_ @ase_ (aI_ @avd_ @asw_)) (aI_ @av1_ (aI_ @asr_ @awm_)))) (aI_ (aI_ (aI_ @ar8_ (aI_ @al8_ @ak4_)) (aI_ @ac9_ (aI_ @act_ @apb_))) (aI_ (aI_ @ama_ (aI_ @afk_ @adk_)) (aI_ @aEc_ (aI_ @aDb_ trivial)))))
def ps7:=(aI_ (aI_ (aI_ (aI_ trivial (aI_ trivial trivial)) (aI_ trivial (aI_ trivial trivial))) (aI_ (aI_ trivial (aI_ trivial trivial)) (aI_ trivial (aI_ trivial trivial)))) (aI_ (aI_ (aI_ trivial (aI_ @ayx_ @atf_)) (aI_ @az4_ (aI_ @at6_ @anf_))) (aI_ (aI_ @amd_ (aI_ @ae4_ @adf_)) (aI_ @afs_ (aI_ @aoy_ @aid_)))))
def ps8:=(aI_ (aI_ (aI_ (aI_ @afx_ (aI_ @aGx_ @aFr_)) (aI_ @aK9_ (aI_ @aHv_ @aD6_))) (aI_ (aI_ @ayl_ (aI_ @aB9_ @azb_)) (aI_ @aCv_ (aI_ @azz_ @aB0_)))) (aI_ (aI_ (aI_ @aAl_ (aI_ @aFg_ @ayj_)) (aI_ @aCr_ (aI_ @aIj_ @aB3_))) (aI_ (aI_ @ax9_ (aI_ @aCo_ @azh_)) (aI_ @aqg_ (aI_ @aoh_ @uR_)))))
def ps9:=(aI_ (aI_ (aI_ (aI_ @afr_ (aI_ @aJx_ @aKe_)) (aI_ @aBj_ (aI_ @aJe_ @aB5_))) (aI_ (aI_ @aAg_ (aI_ @aDj_ @aAm_)) (aI_ @aD4_ (aI_ @aF1_ @wN_)))) (aI_ (aI_ (aI_ @anx_ (aI_ @wG_ @wl_)) (aI_ @aKt_ (aI_ @aJo_ @aL0_))) (aI_ (aI_ @aJ6_ (aI_ trivial trivial)) (aI_ trivial (aI_ trivial trivial)))))
def ps10:=(aI_ (aI_ (aI_ (aI_ trivial (aI_ trivial trivial)) (aI_ trivial (aI_ trivial trivial))) (aI_ (aI_ trivial (aI_ trivial trivial)) (aI_ trivial (aI_ trivial trivial)))) (aI_ (aI_ (aI_ trivial (aI_ trivial trivial)) (aI_ @ay6_ (aI_ @avc_ @azm_))) (aI_ (aI_ @au7_ (aI_ @axz_ @avl_)) (aI_ @aAs_ (aI_ @aDp_ @azq_)))))
def ps11:=(aI_ (aI_ (aI_ (aI_ @aDh_ (aI_ @azi_ @aCp_)) (aI_ @aAi_ (aI_ @aDw_ @any_))) (aI_ (aI_ @amo_ (aI_ @afg_ @ac8_)) (aI_ @aHd_ (aI_ @aFt_ @aK2_)))) (aI_ (aI_ (aI_ @aId_ (aI_ @aDi_ @azx_)) (aI_ @aEj_ (aI_ @aAn_ @aC2_))) (aI_ (aI_ @aAz_ (aI_ @aDr_ @azt_)) (aI_ @api_ (aI_ @am5_ @ah8_)))))
def ps12:=(aI_ (aI_ (aI_ (aI_ @ae1_ (aI_ @asf_ @ap1_)) (aI_ @aip_ (aI_ @ah2_ @aKx_))) (aI_ (aI_ @aKp_ (aI_ @aN0_ @aI4_)) (aI_ trivial (aI_ trivial trivial)))) (aI_ (aI_ (aI_ trivial (aI_ trivial trivial)) (aI_ trivial (aI_ trivial trivial))) (aI_ (aI_ trivial (aI_ trivial trivial)) (aI_ trivial (aI_ trivial trivial)))))
def ps13:=(aI_ (aI_ (aI_ (aI_ trivial (aI_ trivial trivial)) (aI_ trivial (aI_ trivial trivial))) (aI_ (aI_ trivial (aI_ trivial trivial)) (aI_ trivial (aI_ trivial trivial)))) (aI_ (aI_ (aI_ trivial (aI_ trivial trivial)) (aI_ trivial (aI_ trivial trivial))) (aI_ (aI_ trivial (aI_ trivial trivial)) (aI_ trivial (aI_ trivial trivial)))))
def ps14:=(aI_ (aI_ (aI_ (aI_ trivial (aI_ trivial trivial)) (aI_ trivial (aI_ trivial trivial))) (aI_ (aI_ trivial (aI_ trivial trivial)) (aI_ trivial (aI_ trivial trivial)))) (aI_ (aI_ (aI_ trivial (aI_ trivial trivial)) (aI_ trivial (aI_ trivial trivial))) (aI_ (aI_ trivial (aI_ trivial trivial)) (aI_ trivial (aI_ trivial trivial)))))
def ps15:=(aI_ (aI_ (aI_ (aI_ trivial (aI_ trivial trivial)) (aI_ trivial (aI_ trivial trivial))) (aI_ (aI_ trivial (aI_ trivial trivial)) (aI_ trivial (aI_ trivial trivial)))) (aI_ (aI_ (aI_ trivial (aI_ trivial trivial)) (aI_ trivial (aI_ trivial trivial))) (aI_ (aI_ trivial (aI_ trivial trivial)) (aI_ trivial (aI_ trivial trivial)))))
def ps16:=(aI_ (aI_ (aI_ trivial (aI_ trivial trivial)) (aI_ (aI_ trivial trivial) (aI_ trivial trivial))) (aI_ (aI_ (aI_ trivial trivial) (aI_ trivial trivial)) (aI_ (aI_ trivial trivial) (aI_ trivial trivial))))
def pq:=(aI_ (aI_ (aI_ (aI_ (aI_ pv_s aLt_) (aI_ Yz_s (aI_ Ya_s Yb_s))) (aI_ (aI_ Yl_s (aI_ Ye_s Yn_s)) (aI_ Yt_s (aI_ Yp_s Yo_s)))) (aI_ (aI_ (aI_ Yu_s Yg_s) (aI_ Ym_s (aI_ Yh_s Ys_s))) (aI_ (aI_ Yv_s (aI_ Yw_s Yx_s)) (aI_ Yy_s (aI_ Yc_s Yq_s))))) (aI_ (aI_ (aI_ (aI_ Y1_s Y2_s) (aI_ Y3_s (aI_ Y4_s Y6_s))) (aI_ (aI_ Y8_s (aI_ @aLs_ @aLu_)) (aI_ @aLr_ (aI_ @aLo_ @aLx_)))) (aI_ (aI_ (aI_ @aLk_ (aI_ trivial @aLl_)) (aI_ @aLz_ (aI_ trivial trivial))) (aI_ (aI_ trivial (aI_ trivial trivial)) (aI_ trivial (aI_ trivial trivial))))))
def pj:=aI_ jn_s trivial
def ps:=(aI_ (aI_ (aI_ (aI_ ps0 ps1) (aI_ ps2 ps3)) (aI_ (aI_ ps4 ps5) (aI_ ps6 ps7))) (aI_ (aI_ (aI_ ps8 ps9) (aI_ ps10 ps11)) (aI_ (aI_ ps12 ps13) (aI_ ps14 (aI_ ps15 ps16)))))
end Go.Proofs.YtjimmglpkndemaaGreatC

/- The walk by reflection: a part of its laws, for any function. Conditions: none. -/
import Derived.Test.YtbhplkilhknciaaDoorKd
namespace Go.Proofs.YtbhplkilhknciaaDoorC
set_option linter.unusedVariables false
set_option linter.unusedSimpArgs false
abbrev ii (n:Int):T:=.c (.int .i64 n)
abbrev bb (b:Bool):T:=.c (.bool b)
def I64 (n:Int):Prop:=(Lit.int .i64 n).wf=true
theorem I64.lo {n:Int} (h:I64 n):-9223372036854775808≤n:=by
 simp [I64,Lit.wf,IntKind.min,IntKind.max,IntKind.signed,IntKind.bits] at h;omega
theorem I64.hi {n:Int} (h:I64 n):n < 9223372036854775808:=by
 simp [I64,Lit.wf,IntKind.min,IntKind.max,IntKind.signed,IntKind.bits] at h;omega
theorem I64.mk {n:Int} (h:-9223372036854775808≤n) (h':n < 9223372036854775808):I64 n:=by
 simp [I64,Lit.wf,IntKind.min,IntKind.max,IntKind.signed,IntKind.bits];omega
def gt {α:Type} [Inhabited α] (l:List α) (n:Int):α:=l.getD n.toNat default
theorem gt_get {α:Type} [Inhabited α] {enc:α→List T} {l:List α} {n:Int} (h:0≤n) (h':n < l.length):(l.map enc)[n.toNat]?=some (enc (gt l n)):=by
 have hn:n.toNat < l.length:=by omega
 rw [List.getElem?_map,List.getElem?_eq_getElem hn]
 simp [gt,List.getD,List.getElem?_eq_getElem hn]
theorem gt_nat {α:Type} [Inhabited α] {l:List α} {i:Nat} {a:α} (h:l[i]?=some a):gt l (i:Int)=a:=by
 simp [gt,List.getD,h]
theorem gt_elem {α:Type} [Inhabited α] {l:List α} {i:Nat} (h:i < l.length):gt l (i:Int)=l[i]:=gt_nat (List.getElem?_eq_getElem h)
theorem gt_mem {α:Type} [Inhabited α] {l:List α} {n:Int} (h:0≤n) (h':n < l.length):gt l n∈l:=by
 have hn:n.toNat < l.length:=by omega
 simp [gt,List.getD,List.getElem?_eq_getElem hn]
theorem rowAtZ {xs:List (List T)} {n:Int} {r:List T} (h0:0≤n) (h:xs[n.toNat]?=some r):rowAt (.l xs) (ii n)=some r:=by
 simp [rowAt,T.rows,T.int,h0,h]
theorem ev_bndZ {α:Type} [Inhabited α] {enc:α→List T} {l:List α} {n:Int} (h:0≤n) (h':n < l.length):Prim.ev .bnd [.l (l.map enc),ii n]=some (bb true):=by
 simp [Prim.ev,rowAtZ h (gt_get (enc:=enc) h h')]
theorem ev_cellZ {xs:List (List T)} {n:Int} {w j:Nat} {r:List T} {t:T} (h0:0≤n) (h:xs[n.toNat]?=some r) (hw:r.length=w) (hj:r[j]?=some t):Prim.ev (.cell w j) [.l xs,ii n]=some t:=by
 simp [Prim.ev,rowAtZ h0 h,hw,hj]
theorem ev_scellZ {xs:List (List T)} {n:Int} {w j:Nat} {r:List T} {t:T} (h0:0≤n) (h:xs[n.toNat]?=some r) (hw:r.length=w) (hj:r[j]?=some t) (hs:scal t=true):Prim.ev (.scell w j) [.l xs,ii n]=some t:=by
 simp [Prim.ev,rowAtZ h0 h,hw,hj,hs]
theorem ev_digZ {xs ys:List (List T)} {n:Int} {w j:Nat} {r:List T} (h0:0≤n) (h:xs[n.toNat]?=some r) (hw:r.length=w) (hj:r[j]?=some (.l ys)):Prim.ev (.dig w j) [.l xs,ii n]=some (.l ys):=by
 simp [Prim.ev,rowAtZ h0 h,hw,hj,T.rows]
theorem ev_lenM {α:Type} {enc:α→List T} {l:List α}:Prim.ev .len [.l (l.map enc)]=some (ii l.length):=by
 rw [ev_len,List.length_map]
theorem okW_enc {α:Type} {enc:α→List T} {w:Nat} (hw:∀ x,(enc x).length=w) (l:List α):okW w (l.map enc)=true:=by
 cases l with
 | nil=>rfl
 | cons x l=>simp [okW,hw]
theorem app_enc {α:Type} {enc:α→List T} {w:Nat} {sc:Bool} (hw:∀ x,(enc x).length=w) (hs:sc=false∨∀ x,(enc x).all scal=true) {l m:List α} (h:l.length+m.length < cap32):Prim.ev (.app sc w) [.l (l.map enc),.l (m.map enc)]=some (.l ((l++m).map enc)):=by
 rw [List.map_append]
 refine ev_app (by simpa using h) ?_ (okW_enc hw l) (okW_enc hw m)
 rcases hs with rfl | hs
 ·rfl
 ·have:(m.map enc).all (·.all scal)=true:=by simp only [List.all_map,List.all_eq_true];exact fun x _=>hs x
  rw [this];simp
theorem app_encn {α:Type} {enc:α→List T} {w:Nat} {sc:Bool} (hw:∀ x,(enc x).length=w) (hs:sc=false∨∀ x,(enc x).all scal=true) {m:List α} (h:m.length < cap32):Prim.ev (.app sc w) [.l [],.l (m.map enc)]=some (.l (m.map enc)) :=
 app_enc (l:=[]) hw hs (by simpa using h)
theorem subL_enc {α:Type} {enc:α→List T} {w:Nat} (hw:∀ x,(enc x).length=w) {l:List α} {a:Int} (h:0≤a) (h':a≤l.length):Prim.ev (.sub w true false) [.l (l.map enc),ii a]=some (.l ((l.drop a.toNat).map enc)):=by
 simp only [Prim.ev,okW_enc hw l,if_true,List.length_map,bind_some',h,h']
 rw [if_pos (by omega)]
 have:((l.map enc).take (l.length:Int).toNat).drop a.toNat=(l.drop a.toNat).map enc:=by
  rw [List.map_drop,Int.toNat_natCast,List.take_of_length_le (by simp)]
 rw [this]
theorem subH_enc {α:Type} {enc:α→List T} {w:Nat} (hw:∀ x,(enc x).length=w) {l:List α} {a:Int} (h:0≤a) (h':a≤l.length):Prim.ev (.sub w false true) [.l (l.map enc),ii a]=some (.l ((l.take a.toNat).map enc)):=by
 simp only [Prim.ev,okW_enc hw l,if_true,List.length_map,bind_some',h,h',Int.le_refl,Int.toNat_zero,List.drop_zero,List.map_take]
theorem dec_list {α:Type} {enc:α→List T} {ok:α→Prop} {ty:List Ty} (h:∀ r,WTs ty r→∃ x,r=enc x∧ok x):∀ {xs:List (List T)},(∀ r∈xs,WTs ty r)→∃ l:List α,xs=l.map enc∧∀ x∈l,ok x
 | [],_=>⟨[],rfl,by simp⟩
 | r :: xs,hx=>by
  obtain ⟨x,rfl,h1⟩:=h r (hx _ (.head _))
  obtain ⟨l,rfl,h2⟩:=dec_list h (xs:=xs) fun r hr=>hx r (.tail _ hr)
  refine ⟨x :: l,rfl,?_⟩
  intro y hy
  rcases List.mem_cons.1 hy with rfl | hy
  ·exact h1
  ·exact h2 y hy
def eInt (n:Int):List T:=[ii n]
def OkInt (n:Int):Prop:=I64 n
def eBool (b:Bool):List T:=[bb b]
theorem cell_Int_0 {l:List Int} {n:Int} (h:0≤n) (h':n < l.length):Prim.ev (.cell 1 0) [.l (l.map eInt),ii n]=some (ii (gt l n)):=ev_cellZ h (gt_get h h') rfl rfl
theorem scell_Int_0 {l:List Int} {n:Int} (h:0≤n) (h':n < l.length):Prim.ev (.scell 1 0) [.l (l.map eInt),ii n]=some (ii (gt l n)):=ev_scellZ h (gt_get h h') rfl rfl rfl
theorem app_Int_false {l m:List Int} (h:l.length+m.length < 4294967296):Prim.ev (.app false 1) [.l (l.map eInt),.l (m.map eInt)]=some (.l ((l++m).map eInt)):=app_enc (w:=1) (fun _=>rfl) (.inl rfl) h
theorem appn_Int_false {m:List Int} (h:m.length < 4294967296):Prim.ev (.app false 1) [.l [],.l (m.map eInt)]=some (.l (m.map eInt)):=app_encn (w:=1) (fun _=>rfl) (.inl rfl) h
theorem app_Int_true {l m:List Int} (h:l.length+m.length < 4294967296):Prim.ev (.app true 1) [.l (l.map eInt),.l (m.map eInt)]=some (.l ((l++m).map eInt)):=app_enc (w:=1) (fun _=>rfl) (.inr fun _=>rfl) h
theorem appn_Int_true {m:List Int} (h:m.length < 4294967296):Prim.ev (.app true 1) [.l [],.l (m.map eInt)]=some (.l (m.map eInt)):=app_encn (w:=1) (fun _=>rfl) (.inr fun _=>rfl) h
theorem app1_Int_false {l:List Int} {x:Int} (h:l.length < 4294967295):Prim.ev (.app false 1) [.l (l.map eInt),.l ([x].map eInt)]=some (.l ((l++[x]).map eInt)):=app_Int_false (by simp;omega)
theorem app1n_Int_false {x:Int}:Prim.ev (.app false 1) [.l [],.l ([x].map eInt)]=some (.l ([x].map eInt)):=appn_Int_false (by simp)
theorem app1_Int_true {l:List Int} {x:Int} (h:l.length < 4294967295):Prim.ev (.app true 1) [.l (l.map eInt),.l ([x].map eInt)]=some (.l ((l++[x]).map eInt)):=app_Int_true (by simp;omega)
theorem app1n_Int_true {x:Int}:Prim.ev (.app true 1) [.l [],.l ([x].map eInt)]=some (.l ([x].map eInt)):=appn_Int_true (by simp)
theorem subL_Int {l:List Int} {a:Int} (h:0≤a) (h':a≤l.length):Prim.ev (.sub 1 true false) [.l (l.map eInt),ii a]=some (.l ((l.drop a.toNat).map eInt)):=subL_enc (enc:=eInt) (w:=1) (fun _=>rfl) h h'
theorem subH_Int {l:List Int} {a:Int} (h:0≤a) (h':a≤l.length):Prim.ev (.sub 1 false true) [.l (l.map eInt),ii a]=some (.l ((l.take a.toNat).map eInt)):=subH_enc (enc:=eInt) (w:=1) (fun _=>rfl) h h'
theorem lit_Int (x:Int):Prim.ev (.lit 1 [true]) [ii x]=some (.l ([x].map eInt)):=ev_lit1 (by decide) rfl rfl
theorem litn_Int (x:Int):Prim.ev (.lit 1 []) [ii x]=some (.l ([x].map eInt)):=ev_lit1 (by decide) rfl rfl
theorem cell_Bool_0 {l:List Bool} {n:Int} (h:0≤n) (h':n < l.length):Prim.ev (.cell 1 0) [.l (l.map eBool),ii n]=some (bb (gt l n)):=ev_cellZ h (gt_get h h') rfl rfl
theorem scell_Bool_0 {l:List Bool} {n:Int} (h:0≤n) (h':n < l.length):Prim.ev (.scell 1 0) [.l (l.map eBool),ii n]=some (bb (gt l n)):=ev_scellZ h (gt_get h h') rfl rfl rfl
theorem app_Bool_false {l m:List Bool} (h:l.length+m.length < 4294967296):Prim.ev (.app false 1) [.l (l.map eBool),.l (m.map eBool)]=some (.l ((l++m).map eBool)):=app_enc (w:=1) (fun _=>rfl) (.inl rfl) h
theorem appn_Bool_false {m:List Bool} (h:m.length < 4294967296):Prim.ev (.app false 1) [.l [],.l (m.map eBool)]=some (.l (m.map eBool)):=app_encn (w:=1) (fun _=>rfl) (.inl rfl) h
theorem app_Bool_true {l m:List Bool} (h:l.length+m.length < 4294967296):Prim.ev (.app true 1) [.l (l.map eBool),.l (m.map eBool)]=some (.l ((l++m).map eBool)):=app_enc (w:=1) (fun _=>rfl) (.inr fun _=>rfl) h
theorem appn_Bool_true {m:List Bool} (h:m.length < 4294967296):Prim.ev (.app true 1) [.l [],.l (m.map eBool)]=some (.l (m.map eBool)):=app_encn (w:=1) (fun _=>rfl) (.inr fun _=>rfl) h
theorem app1_Bool_false {l:List Bool} {x:Bool} (h:l.length < 4294967295):Prim.ev (.app false 1) [.l (l.map eBool),.l ([x].map eBool)]=some (.l ((l++[x]).map eBool)):=app_Bool_false (by simp;omega)
theorem app1n_Bool_false {x:Bool}:Prim.ev (.app false 1) [.l [],.l ([x].map eBool)]=some (.l ([x].map eBool)):=appn_Bool_false (by simp)
theorem app1_Bool_true {l:List Bool} {x:Bool} (h:l.length < 4294967295):Prim.ev (.app true 1) [.l (l.map eBool),.l ([x].map eBool)]=some (.l ((l++[x]).map eBool)):=app_Bool_true (by simp;omega)
theorem app1n_Bool_true {x:Bool}:Prim.ev (.app true 1) [.l [],.l ([x].map eBool)]=some (.l ([x].map eBool)):=appn_Bool_true (by simp)
theorem subL_Bool {l:List Bool} {a:Int} (h:0≤a) (h':a≤l.length):Prim.ev (.sub 1 true false) [.l (l.map eBool),ii a]=some (.l ((l.drop a.toNat).map eBool)):=subL_enc (enc:=eBool) (w:=1) (fun _=>rfl) h h'
theorem subH_Bool {l:List Bool} {a:Int} (h:0≤a) (h':a≤l.length):Prim.ev (.sub 1 false true) [.l (l.map eBool),ii a]=some (.l ((l.take a.toNat).map eBool)):=subH_enc (enc:=eBool) (w:=1) (fun _=>rfl) h h'
theorem lit_Bool (x:Bool):Prim.ev (.lit 1 [true]) [bb x]=some (.l ([x].map eBool)):=ev_lit1 (by decide) rfl rfl
theorem litn_Bool (x:Bool):Prim.ev (.lit 1 []) [bb x]=some (.l ([x].map eBool)):=ev_lit1 (by decide) rfl rfl
structure Link where
 a:Int
 b:Int
 cost:Int
 area:Int
 deriving Inhabited
def eLink (x:Link):List T:=[ii x.a,ii x.b,ii x.cost,ii x.area]
theorem cell_Link_0 {l:List Link} {n:Int} (h:0≤n) (h':n < l.length):Prim.ev (.cell 4 0) [.l (l.map eLink),ii n]=some (ii (gt l n).a):=ev_cellZ h (gt_get h h') rfl rfl
theorem scell_Link_0 {l:List Link} {n:Int} (h:0≤n) (h':n < l.length):Prim.ev (.scell 4 0) [.l (l.map eLink),ii n]=some (ii (gt l n).a):=ev_scellZ h (gt_get h h') rfl rfl rfl
theorem cell_Link_1 {l:List Link} {n:Int} (h:0≤n) (h':n < l.length):Prim.ev (.cell 4 1) [.l (l.map eLink),ii n]=some (ii (gt l n).b):=ev_cellZ h (gt_get h h') rfl rfl
theorem scell_Link_1 {l:List Link} {n:Int} (h:0≤n) (h':n < l.length):Prim.ev (.scell 4 1) [.l (l.map eLink),ii n]=some (ii (gt l n).b):=ev_scellZ h (gt_get h h') rfl rfl rfl
theorem cell_Link_2 {l:List Link} {n:Int} (h:0≤n) (h':n < l.length):Prim.ev (.cell 4 2) [.l (l.map eLink),ii n]=some (ii (gt l n).cost):=ev_cellZ h (gt_get h h') rfl rfl
theorem scell_Link_2 {l:List Link} {n:Int} (h:0≤n) (h':n < l.length):Prim.ev (.scell 4 2) [.l (l.map eLink),ii n]=some (ii (gt l n).cost):=ev_scellZ h (gt_get h h') rfl rfl rfl
theorem cell_Link_3 {l:List Link} {n:Int} (h:0≤n) (h':n < l.length):Prim.ev (.cell 4 3) [.l (l.map eLink),ii n]=some (ii (gt l n).area):=ev_cellZ h (gt_get h h') rfl rfl
theorem scell_Link_3 {l:List Link} {n:Int} (h:0≤n) (h':n < l.length):Prim.ev (.scell 4 3) [.l (l.map eLink),ii n]=some (ii (gt l n).area):=ev_scellZ h (gt_get h h') rfl rfl rfl
theorem app_Link_false {l m:List Link} (h:l.length+m.length < 4294967296):Prim.ev (.app false 4) [.l (l.map eLink),.l (m.map eLink)]=some (.l ((l++m).map eLink)):=app_enc (w:=4) (fun _=>rfl) (.inl rfl) h
theorem appn_Link_false {m:List Link} (h:m.length < 4294967296):Prim.ev (.app false 4) [.l [],.l (m.map eLink)]=some (.l (m.map eLink)):=app_encn (w:=4) (fun _=>rfl) (.inl rfl) h
theorem app_Link_true {l m:List Link} (h:l.length+m.length < 4294967296):Prim.ev (.app true 4) [.l (l.map eLink),.l (m.map eLink)]=some (.l ((l++m).map eLink)):=app_enc (w:=4) (fun _=>rfl) (.inr fun _=>rfl) h
theorem appn_Link_true {m:List Link} (h:m.length < 4294967296):Prim.ev (.app true 4) [.l [],.l (m.map eLink)]=some (.l (m.map eLink)):=app_encn (w:=4) (fun _=>rfl) (.inr fun _=>rfl) h
theorem app1_Link_false {l:List Link} {x:Link} (h:l.length < 4294967295):Prim.ev (.app false 4) [.l (l.map eLink),.l ([x].map eLink)]=some (.l ((l++[x]).map eLink)):=app_Link_false (by simp;omega)
theorem app1n_Link_false {x:Link}:Prim.ev (.app false 4) [.l [],.l ([x].map eLink)]=some (.l ([x].map eLink)):=appn_Link_false (by simp)
theorem app1_Link_true {l:List Link} {x:Link} (h:l.length < 4294967295):Prim.ev (.app true 4) [.l (l.map eLink),.l ([x].map eLink)]=some (.l ((l++[x]).map eLink)):=app_Link_true (by simp;omega)
theorem app1n_Link_true {x:Link}:Prim.ev (.app true 4) [.l [],.l ([x].map eLink)]=some (.l ([x].map eLink)):=appn_Link_true (by simp)
theorem subL_Link {l:List Link} {a:Int} (h:0≤a) (h':a≤l.length):Prim.ev (.sub 4 true false) [.l (l.map eLink),ii a]=some (.l ((l.drop a.toNat).map eLink)):=subL_enc (enc:=eLink) (w:=4) (fun _=>rfl) h h'
theorem subH_Link {l:List Link} {a:Int} (h:0≤a) (h':a≤l.length):Prim.ev (.sub 4 false true) [.l (l.map eLink),ii a]=some (.l ((l.take a.toNat).map eLink)):=subH_enc (enc:=eLink) (w:=4) (fun _=>rfl) h h'
theorem lit_Link (v0:Int) (v1:Int) (v2:Int) (v3:Int):Prim.ev (.lit 4 [true,true,true,true]) [ii v0,ii v1,ii v2,ii v3]=some (.l ([(⟨v0,v1,v2,v3⟩:Link)].map eLink)):=ev_lit1 (by decide) rfl rfl
theorem litn_Link (v0:Int) (v1:Int) (v2:Int) (v3:Int):Prim.ev (.lit 4 []) [ii v0,ii v1,ii v2,ii v3]=some (.l ([(⟨v0,v1,v2,v3⟩:Link)].map eLink)):=ev_lit1 (by decide) rfl rfl
theorem eta_Link (x:Link):(⟨x.a,x.b,x.cost,x.area⟩:Link)=x:=rfl
structure Thing where
 owner:Int
 key:Int
 cost:Int
 far:Bool
 deriving Inhabited
def eThing (x:Thing):List T:=[ii x.owner,ii x.key,ii x.cost,bb x.far]
theorem cell_Thing_0 {l:List Thing} {n:Int} (h:0≤n) (h':n < l.length):Prim.ev (.cell 4 0) [.l (l.map eThing),ii n]=some (ii (gt l n).owner):=ev_cellZ h (gt_get h h') rfl rfl
theorem scell_Thing_0 {l:List Thing} {n:Int} (h:0≤n) (h':n < l.length):Prim.ev (.scell 4 0) [.l (l.map eThing),ii n]=some (ii (gt l n).owner):=ev_scellZ h (gt_get h h') rfl rfl rfl
theorem cell_Thing_1 {l:List Thing} {n:Int} (h:0≤n) (h':n < l.length):Prim.ev (.cell 4 1) [.l (l.map eThing),ii n]=some (ii (gt l n).key):=ev_cellZ h (gt_get h h') rfl rfl
theorem scell_Thing_1 {l:List Thing} {n:Int} (h:0≤n) (h':n < l.length):Prim.ev (.scell 4 1) [.l (l.map eThing),ii n]=some (ii (gt l n).key):=ev_scellZ h (gt_get h h') rfl rfl rfl
theorem cell_Thing_2 {l:List Thing} {n:Int} (h:0≤n) (h':n < l.length):Prim.ev (.cell 4 2) [.l (l.map eThing),ii n]=some (ii (gt l n).cost):=ev_cellZ h (gt_get h h') rfl rfl
theorem scell_Thing_2 {l:List Thing} {n:Int} (h:0≤n) (h':n < l.length):Prim.ev (.scell 4 2) [.l (l.map eThing),ii n]=some (ii (gt l n).cost):=ev_scellZ h (gt_get h h') rfl rfl rfl
theorem cell_Thing_3 {l:List Thing} {n:Int} (h:0≤n) (h':n < l.length):Prim.ev (.cell 4 3) [.l (l.map eThing),ii n]=some (bb (gt l n).far):=ev_cellZ h (gt_get h h') rfl rfl
theorem scell_Thing_3 {l:List Thing} {n:Int} (h:0≤n) (h':n < l.length):Prim.ev (.scell 4 3) [.l (l.map eThing),ii n]=some (bb (gt l n).far):=ev_scellZ h (gt_get h h') rfl rfl rfl
theorem app_Thing_false {l m:List Thing} (h:l.length+m.length < 4294967296):Prim.ev (.app false 4) [.l (l.map eThing),.l (m.map eThing)]=some (.l ((l++m).map eThing)):=app_enc (w:=4) (fun _=>rfl) (.inl rfl) h
theorem appn_Thing_false {m:List Thing} (h:m.length < 4294967296):Prim.ev (.app false 4) [.l [],.l (m.map eThing)]=some (.l (m.map eThing)):=app_encn (w:=4) (fun _=>rfl) (.inl rfl) h
theorem app_Thing_true {l m:List Thing} (h:l.length+m.length < 4294967296):Prim.ev (.app true 4) [.l (l.map eThing),.l (m.map eThing)]=some (.l ((l++m).map eThing)):=app_enc (w:=4) (fun _=>rfl) (.inr fun _=>rfl) h
theorem appn_Thing_true {m:List Thing} (h:m.length < 4294967296):Prim.ev (.app true 4) [.l [],.l (m.map eThing)]=some (.l (m.map eThing)):=app_encn (w:=4) (fun _=>rfl) (.inr fun _=>rfl) h
theorem app1_Thing_false {l:List Thing} {x:Thing} (h:l.length < 4294967295):Prim.ev (.app false 4) [.l (l.map eThing),.l ([x].map eThing)]=some (.l ((l++[x]).map eThing)):=app_Thing_false (by simp;omega)
theorem app1n_Thing_false {x:Thing}:Prim.ev (.app false 4) [.l [],.l ([x].map eThing)]=some (.l ([x].map eThing)):=appn_Thing_false (by simp)
theorem app1_Thing_true {l:List Thing} {x:Thing} (h:l.length < 4294967295):Prim.ev (.app true 4) [.l (l.map eThing),.l ([x].map eThing)]=some (.l ((l++[x]).map eThing)):=app_Thing_true (by simp;omega)
theorem app1n_Thing_true {x:Thing}:Prim.ev (.app true 4) [.l [],.l ([x].map eThing)]=some (.l ([x].map eThing)):=appn_Thing_true (by simp)
theorem subL_Thing {l:List Thing} {a:Int} (h:0≤a) (h':a≤l.length):Prim.ev (.sub 4 true false) [.l (l.map eThing),ii a]=some (.l ((l.drop a.toNat).map eThing)):=subL_enc (enc:=eThing) (w:=4) (fun _=>rfl) h h'
theorem subH_Thing {l:List Thing} {a:Int} (h:0≤a) (h':a≤l.length):Prim.ev (.sub 4 false true) [.l (l.map eThing),ii a]=some (.l ((l.take a.toNat).map eThing)):=subH_enc (enc:=eThing) (w:=4) (fun _=>rfl) h h'
theorem eta_Thing (x:Thing):(⟨x.owner,x.key,x.cost,x.far⟩:Thing)=x:=rfl
structure Net where
 n:Int
 links:List Link
 things:List Thing
 deriving Inhabited
structure Near where
 to:Int
 cost:Int
 deriving Inhabited
def eNear (x:Near):List T:=[ii x.to,ii x.cost]
theorem cell_Near_0 {l:List Near} {n:Int} (h:0≤n) (h':n < l.length):Prim.ev (.cell 2 0) [.l (l.map eNear),ii n]=some (ii (gt l n).to):=ev_cellZ h (gt_get h h') rfl rfl
theorem scell_Near_0 {l:List Near} {n:Int} (h:0≤n) (h':n < l.length):Prim.ev (.scell 2 0) [.l (l.map eNear),ii n]=some (ii (gt l n).to):=ev_scellZ h (gt_get h h') rfl rfl rfl
theorem cell_Near_1 {l:List Near} {n:Int} (h:0≤n) (h':n < l.length):Prim.ev (.cell 2 1) [.l (l.map eNear),ii n]=some (ii (gt l n).cost):=ev_cellZ h (gt_get h h') rfl rfl
theorem scell_Near_1 {l:List Near} {n:Int} (h:0≤n) (h':n < l.length):Prim.ev (.scell 2 1) [.l (l.map eNear),ii n]=some (ii (gt l n).cost):=ev_scellZ h (gt_get h h') rfl rfl rfl
theorem app_Near_false {l m:List Near} (h:l.length+m.length < 4294967296):Prim.ev (.app false 2) [.l (l.map eNear),.l (m.map eNear)]=some (.l ((l++m).map eNear)):=app_enc (w:=2) (fun _=>rfl) (.inl rfl) h
theorem appn_Near_false {m:List Near} (h:m.length < 4294967296):Prim.ev (.app false 2) [.l [],.l (m.map eNear)]=some (.l (m.map eNear)):=app_encn (w:=2) (fun _=>rfl) (.inl rfl) h
theorem app_Near_true {l m:List Near} (h:l.length+m.length < 4294967296):Prim.ev (.app true 2) [.l (l.map eNear),.l (m.map eNear)]=some (.l ((l++m).map eNear)):=app_enc (w:=2) (fun _=>rfl) (.inr fun _=>rfl) h
theorem appn_Near_true {m:List Near} (h:m.length < 4294967296):Prim.ev (.app true 2) [.l [],.l (m.map eNear)]=some (.l (m.map eNear)):=app_encn (w:=2) (fun _=>rfl) (.inr fun _=>rfl) h
theorem app1_Near_false {l:List Near} {x:Near} (h:l.length < 4294967295):Prim.ev (.app false 2) [.l (l.map eNear),.l ([x].map eNear)]=some (.l ((l++[x]).map eNear)):=app_Near_false (by simp;omega)
theorem app1n_Near_false {x:Near}:Prim.ev (.app false 2) [.l [],.l ([x].map eNear)]=some (.l ([x].map eNear)):=appn_Near_false (by simp)
theorem app1_Near_true {l:List Near} {x:Near} (h:l.length < 4294967295):Prim.ev (.app true 2) [.l (l.map eNear),.l ([x].map eNear)]=some (.l ((l++[x]).map eNear)):=app_Near_true (by simp;omega)
theorem app1n_Near_true {x:Near}:Prim.ev (.app true 2) [.l [],.l ([x].map eNear)]=some (.l ([x].map eNear)):=appn_Near_true (by simp)
theorem subL_Near {l:List Near} {a:Int} (h:0≤a) (h':a≤l.length):Prim.ev (.sub 2 true false) [.l (l.map eNear),ii a]=some (.l ((l.drop a.toNat).map eNear)):=subL_enc (enc:=eNear) (w:=2) (fun _=>rfl) h h'
theorem subH_Near {l:List Near} {a:Int} (h:0≤a) (h':a≤l.length):Prim.ev (.sub 2 false true) [.l (l.map eNear),ii a]=some (.l ((l.take a.toNat).map eNear)):=subH_enc (enc:=eNear) (w:=2) (fun _=>rfl) h h'
theorem lit_Near (v0:Int) (v1:Int):Prim.ev (.lit 2 [true,true]) [ii v0,ii v1]=some (.l ([(⟨v0,v1⟩:Near)].map eNear)):=ev_lit1 (by decide) rfl rfl
theorem litn_Near (v0:Int) (v1:Int):Prim.ev (.lit 2 []) [ii v0,ii v1]=some (.l ([(⟨v0,v1⟩:Near)].map eNear)):=ev_lit1 (by decide) rfl rfl
theorem eta_Near (x:Near):(⟨x.to,x.cost⟩:Near)=x:=rfl
structure Rcd where
 area:Int
 kind:Int
 owner:Int
 key:Int
 seq:Int
 near:List Near
 cost:Int
 far:Bool
 deriving Inhabited
def eRcd (x:Rcd):List T:=[ii x.area,ii x.kind,ii x.owner,ii x.key,ii x.seq,.l (x.near.map eNear),ii x.cost,bb x.far]
theorem cell_Rcd_0 {l:List Rcd} {n:Int} (h:0≤n) (h':n < l.length):Prim.ev (.cell 8 0) [.l (l.map eRcd),ii n]=some (ii (gt l n).area):=ev_cellZ h (gt_get h h') rfl rfl
theorem scell_Rcd_0 {l:List Rcd} {n:Int} (h:0≤n) (h':n < l.length):Prim.ev (.scell 8 0) [.l (l.map eRcd),ii n]=some (ii (gt l n).area):=ev_scellZ h (gt_get h h') rfl rfl rfl
theorem cell_Rcd_1 {l:List Rcd} {n:Int} (h:0≤n) (h':n < l.length):Prim.ev (.cell 8 1) [.l (l.map eRcd),ii n]=some (ii (gt l n).kind):=ev_cellZ h (gt_get h h') rfl rfl
theorem scell_Rcd_1 {l:List Rcd} {n:Int} (h:0≤n) (h':n < l.length):Prim.ev (.scell 8 1) [.l (l.map eRcd),ii n]=some (ii (gt l n).kind):=ev_scellZ h (gt_get h h') rfl rfl rfl
theorem cell_Rcd_2 {l:List Rcd} {n:Int} (h:0≤n) (h':n < l.length):Prim.ev (.cell 8 2) [.l (l.map eRcd),ii n]=some (ii (gt l n).owner):=ev_cellZ h (gt_get h h') rfl rfl
theorem scell_Rcd_2 {l:List Rcd} {n:Int} (h:0≤n) (h':n < l.length):Prim.ev (.scell 8 2) [.l (l.map eRcd),ii n]=some (ii (gt l n).owner):=ev_scellZ h (gt_get h h') rfl rfl rfl
theorem cell_Rcd_3 {l:List Rcd} {n:Int} (h:0≤n) (h':n < l.length):Prim.ev (.cell 8 3) [.l (l.map eRcd),ii n]=some (ii (gt l n).key):=ev_cellZ h (gt_get h h') rfl rfl
theorem scell_Rcd_3 {l:List Rcd} {n:Int} (h:0≤n) (h':n < l.length):Prim.ev (.scell 8 3) [.l (l.map eRcd),ii n]=some (ii (gt l n).key):=ev_scellZ h (gt_get h h') rfl rfl rfl
theorem cell_Rcd_4 {l:List Rcd} {n:Int} (h:0≤n) (h':n < l.length):Prim.ev (.cell 8 4) [.l (l.map eRcd),ii n]=some (ii (gt l n).seq):=ev_cellZ h (gt_get h h') rfl rfl
theorem scell_Rcd_4 {l:List Rcd} {n:Int} (h:0≤n) (h':n < l.length):Prim.ev (.scell 8 4) [.l (l.map eRcd),ii n]=some (ii (gt l n).seq):=ev_scellZ h (gt_get h h') rfl rfl rfl
theorem cell_Rcd_5 {l:List Rcd} {n:Int} (h:0≤n) (h':n < l.length):Prim.ev (.cell 8 5) [.l (l.map eRcd),ii n]=some (.l ((gt l n).near.map eNear)):=ev_cellZ h (gt_get h h') rfl rfl
theorem dig_Rcd_5 {l:List Rcd} {n:Int} (h:0≤n) (h':n < l.length):Prim.ev (.dig 8 5) [.l (l.map eRcd),ii n]=some (.l ((gt l n).near.map eNear)):=ev_digZ h (gt_get h h') rfl rfl
theorem cell_Rcd_6 {l:List Rcd} {n:Int} (h:0≤n) (h':n < l.length):Prim.ev (.cell 8 6) [.l (l.map eRcd),ii n]=some (ii (gt l n).cost):=ev_cellZ h (gt_get h h') rfl rfl
theorem scell_Rcd_6 {l:List Rcd} {n:Int} (h:0≤n) (h':n < l.length):Prim.ev (.scell 8 6) [.l (l.map eRcd),ii n]=some (ii (gt l n).cost):=ev_scellZ h (gt_get h h') rfl rfl rfl
theorem cell_Rcd_7 {l:List Rcd} {n:Int} (h:0≤n) (h':n < l.length):Prim.ev (.cell 8 7) [.l (l.map eRcd),ii n]=some (bb (gt l n).far):=ev_cellZ h (gt_get h h') rfl rfl
theorem scell_Rcd_7 {l:List Rcd} {n:Int} (h:0≤n) (h':n < l.length):Prim.ev (.scell 8 7) [.l (l.map eRcd),ii n]=some (bb (gt l n).far):=ev_scellZ h (gt_get h h') rfl rfl rfl
theorem app_Rcd_false {l m:List Rcd} (h:l.length+m.length < 4294967296):Prim.ev (.app false 8) [.l (l.map eRcd),.l (m.map eRcd)]=some (.l ((l++m).map eRcd)):=app_enc (w:=8) (fun _=>rfl) (.inl rfl) h
theorem appn_Rcd_false {m:List Rcd} (h:m.length < 4294967296):Prim.ev (.app false 8) [.l [],.l (m.map eRcd)]=some (.l (m.map eRcd)):=app_encn (w:=8) (fun _=>rfl) (.inl rfl) h
theorem app1_Rcd_false {l:List Rcd} {x:Rcd} (h:l.length < 4294967295):Prim.ev (.app false 8) [.l (l.map eRcd),.l ([x].map eRcd)]=some (.l ((l++[x]).map eRcd)):=app_Rcd_false (by simp;omega)
theorem app1n_Rcd_false {x:Rcd}:Prim.ev (.app false 8) [.l [],.l ([x].map eRcd)]=some (.l ([x].map eRcd)):=appn_Rcd_false (by simp)
theorem subL_Rcd {l:List Rcd} {a:Int} (h:0≤a) (h':a≤l.length):Prim.ev (.sub 8 true false) [.l (l.map eRcd),ii a]=some (.l ((l.drop a.toNat).map eRcd)):=subL_enc (enc:=eRcd) (w:=8) (fun _=>rfl) h h'
theorem subH_Rcd {l:List Rcd} {a:Int} (h:0≤a) (h':a≤l.length):Prim.ev (.sub 8 false true) [.l (l.map eRcd),ii a]=some (.l ((l.take a.toNat).map eRcd)):=subH_enc (enc:=eRcd) (w:=8) (fun _=>rfl) h h'
theorem lit_Rcd (v0:Int) (v1:Int) (v2:Int) (v3:Int) (v4:Int) (v5:List Near) (v6:Int) (v7:Bool):Prim.ev (.lit 8 [true,true,true,true,true,false,true,true]) [ii v0,ii v1,ii v2,ii v3,ii v4,.l (v5.map eNear),ii v6,bb v7]=some (.l ([(⟨v0,v1,v2,v3,v4,v5,v6,v7⟩:Rcd)].map eRcd)):=ev_lit1 (by decide) rfl rfl
theorem litn_Rcd (v0:Int) (v1:Int) (v2:Int) (v3:Int) (v4:Int) (v5:List Near) (v6:Int) (v7:Bool):Prim.ev (.lit 8 []) [ii v0,ii v1,ii v2,ii v3,ii v4,.l (v5.map eNear),ii v6,bb v7]=some (.l ([(⟨v0,v1,v2,v3,v4,v5,v6,v7⟩:Rcd)].map eRcd)):=ev_lit1 (by decide) rfl rfl
theorem eta_Rcd (x:Rcd):(⟨x.area,x.kind,x.owner,x.key,x.seq,x.near,x.cost,x.far⟩:Rcd)=x:=rfl
structure Way where
 to:Int
 cost:Int
 hops:List Int
 deriving Inhabited
def eWay (x:Way):List T:=[ii x.to,ii x.cost,.l (x.hops.map eInt)]
theorem cell_Way_0 {l:List Way} {n:Int} (h:0≤n) (h':n < l.length):Prim.ev (.cell 3 0) [.l (l.map eWay),ii n]=some (ii (gt l n).to):=ev_cellZ h (gt_get h h') rfl rfl
theorem scell_Way_0 {l:List Way} {n:Int} (h:0≤n) (h':n < l.length):Prim.ev (.scell 3 0) [.l (l.map eWay),ii n]=some (ii (gt l n).to):=ev_scellZ h (gt_get h h') rfl rfl rfl
theorem cell_Way_1 {l:List Way} {n:Int} (h:0≤n) (h':n < l.length):Prim.ev (.cell 3 1) [.l (l.map eWay),ii n]=some (ii (gt l n).cost):=ev_cellZ h (gt_get h h') rfl rfl
theorem scell_Way_1 {l:List Way} {n:Int} (h:0≤n) (h':n < l.length):Prim.ev (.scell 3 1) [.l (l.map eWay),ii n]=some (ii (gt l n).cost):=ev_scellZ h (gt_get h h') rfl rfl rfl
theorem cell_Way_2 {l:List Way} {n:Int} (h:0≤n) (h':n < l.length):Prim.ev (.cell 3 2) [.l (l.map eWay),ii n]=some (.l ((gt l n).hops.map eInt)):=ev_cellZ h (gt_get h h') rfl rfl
theorem dig_Way_2 {l:List Way} {n:Int} (h:0≤n) (h':n < l.length):Prim.ev (.dig 3 2) [.l (l.map eWay),ii n]=some (.l ((gt l n).hops.map eInt)):=ev_digZ h (gt_get h h') rfl rfl
theorem app_Way_false {l m:List Way} (h:l.length+m.length < 4294967296):Prim.ev (.app false 3) [.l (l.map eWay),.l (m.map eWay)]=some (.l ((l++m).map eWay)):=app_enc (w:=3) (fun _=>rfl) (.inl rfl) h
theorem appn_Way_false {m:List Way} (h:m.length < 4294967296):Prim.ev (.app false 3) [.l [],.l (m.map eWay)]=some (.l (m.map eWay)):=app_encn (w:=3) (fun _=>rfl) (.inl rfl) h
theorem app1_Way_false {l:List Way} {x:Way} (h:l.length < 4294967295):Prim.ev (.app false 3) [.l (l.map eWay),.l ([x].map eWay)]=some (.l ((l++[x]).map eWay)):=app_Way_false (by simp;omega)
theorem app1n_Way_false {x:Way}:Prim.ev (.app false 3) [.l [],.l ([x].map eWay)]=some (.l ([x].map eWay)):=appn_Way_false (by simp)
theorem subL_Way {l:List Way} {a:Int} (h:0≤a) (h':a≤l.length):Prim.ev (.sub 3 true false) [.l (l.map eWay),ii a]=some (.l ((l.drop a.toNat).map eWay)):=subL_enc (enc:=eWay) (w:=3) (fun _=>rfl) h h'
theorem subH_Way {l:List Way} {a:Int} (h:0≤a) (h':a≤l.length):Prim.ev (.sub 3 false true) [.l (l.map eWay),ii a]=some (.l ((l.take a.toNat).map eWay)):=subH_enc (enc:=eWay) (w:=3) (fun _=>rfl) h h'
theorem lit_Way (v0:Int) (v1:Int) (v2:List Int):Prim.ev (.lit 3 [true,true,false]) [ii v0,ii v1,.l (v2.map eInt)]=some (.l ([(⟨v0,v1,v2⟩:Way)].map eWay)):=ev_lit1 (by decide) rfl rfl
theorem litn_Way (v0:Int) (v1:Int) (v2:List Int):Prim.ev (.lit 3 []) [ii v0,ii v1,.l (v2.map eInt)]=some (.l ([(⟨v0,v1,v2⟩:Way)].map eWay)):=ev_lit1 (by decide) rfl rfl
theorem eta_Way (x:Way):(⟨x.to,x.cost,x.hops⟩:Way)=x:=rfl
structure Route where
 thing:Bool
 to:Int
 kind:Int
 cost:Int
 far:Int
 hops:List Int
 deriving Inhabited
def eRoute (x:Route):List T:=[bb x.thing,ii x.to,ii x.kind,ii x.cost,ii x.far,.l (x.hops.map eInt)]
def OkRoute (x:Route):Prop:=I64 x.to∧I64 x.kind∧I64 x.cost∧I64 x.far∧(x.hops.length≤maxLen∧∀ y∈x.hops,OkInt y)
theorem cell_Route_0 {l:List Route} {n:Int} (h:0≤n) (h':n < l.length):Prim.ev (.cell 6 0) [.l (l.map eRoute),ii n]=some (bb (gt l n).thing):=ev_cellZ h (gt_get h h') rfl rfl
theorem scell_Route_0 {l:List Route} {n:Int} (h:0≤n) (h':n < l.length):Prim.ev (.scell 6 0) [.l (l.map eRoute),ii n]=some (bb (gt l n).thing):=ev_scellZ h (gt_get h h') rfl rfl rfl
theorem cell_Route_1 {l:List Route} {n:Int} (h:0≤n) (h':n < l.length):Prim.ev (.cell 6 1) [.l (l.map eRoute),ii n]=some (ii (gt l n).to):=ev_cellZ h (gt_get h h') rfl rfl
theorem scell_Route_1 {l:List Route} {n:Int} (h:0≤n) (h':n < l.length):Prim.ev (.scell 6 1) [.l (l.map eRoute),ii n]=some (ii (gt l n).to):=ev_scellZ h (gt_get h h') rfl rfl rfl
theorem cell_Route_2 {l:List Route} {n:Int} (h:0≤n) (h':n < l.length):Prim.ev (.cell 6 2) [.l (l.map eRoute),ii n]=some (ii (gt l n).kind):=ev_cellZ h (gt_get h h') rfl rfl
theorem scell_Route_2 {l:List Route} {n:Int} (h:0≤n) (h':n < l.length):Prim.ev (.scell 6 2) [.l (l.map eRoute),ii n]=some (ii (gt l n).kind):=ev_scellZ h (gt_get h h') rfl rfl rfl
theorem cell_Route_3 {l:List Route} {n:Int} (h:0≤n) (h':n < l.length):Prim.ev (.cell 6 3) [.l (l.map eRoute),ii n]=some (ii (gt l n).cost):=ev_cellZ h (gt_get h h') rfl rfl
theorem scell_Route_3 {l:List Route} {n:Int} (h:0≤n) (h':n < l.length):Prim.ev (.scell 6 3) [.l (l.map eRoute),ii n]=some (ii (gt l n).cost):=ev_scellZ h (gt_get h h') rfl rfl rfl
theorem cell_Route_4 {l:List Route} {n:Int} (h:0≤n) (h':n < l.length):Prim.ev (.cell 6 4) [.l (l.map eRoute),ii n]=some (ii (gt l n).far):=ev_cellZ h (gt_get h h') rfl rfl
theorem scell_Route_4 {l:List Route} {n:Int} (h:0≤n) (h':n < l.length):Prim.ev (.scell 6 4) [.l (l.map eRoute),ii n]=some (ii (gt l n).far):=ev_scellZ h (gt_get h h') rfl rfl rfl
theorem cell_Route_5 {l:List Route} {n:Int} (h:0≤n) (h':n < l.length):Prim.ev (.cell 6 5) [.l (l.map eRoute),ii n]=some (.l ((gt l n).hops.map eInt)):=ev_cellZ h (gt_get h h') rfl rfl
theorem dig_Route_5 {l:List Route} {n:Int} (h:0≤n) (h':n < l.length):Prim.ev (.dig 6 5) [.l (l.map eRoute),ii n]=some (.l ((gt l n).hops.map eInt)):=ev_digZ h (gt_get h h') rfl rfl
theorem app_Route_false {l m:List Route} (h:l.length+m.length < 4294967296):Prim.ev (.app false 6) [.l (l.map eRoute),.l (m.map eRoute)]=some (.l ((l++m).map eRoute)):=app_enc (w:=6) (fun _=>rfl) (.inl rfl) h
theorem appn_Route_false {m:List Route} (h:m.length < 4294967296):Prim.ev (.app false 6) [.l [],.l (m.map eRoute)]=some (.l (m.map eRoute)):=app_encn (w:=6) (fun _=>rfl) (.inl rfl) h
theorem app1_Route_false {l:List Route} {x:Route} (h:l.length < 4294967295):Prim.ev (.app false 6) [.l (l.map eRoute),.l ([x].map eRoute)]=some (.l ((l++[x]).map eRoute)):=app_Route_false (by simp;omega)
theorem app1n_Route_false {x:Route}:Prim.ev (.app false 6) [.l [],.l ([x].map eRoute)]=some (.l ([x].map eRoute)):=appn_Route_false (by simp)
theorem subL_Route {l:List Route} {a:Int} (h:0≤a) (h':a≤l.length):Prim.ev (.sub 6 true false) [.l (l.map eRoute),ii a]=some (.l ((l.drop a.toNat).map eRoute)):=subL_enc (enc:=eRoute) (w:=6) (fun _=>rfl) h h'
theorem subH_Route {l:List Route} {a:Int} (h:0≤a) (h':a≤l.length):Prim.ev (.sub 6 false true) [.l (l.map eRoute),ii a]=some (.l ((l.take a.toNat).map eRoute)):=subH_enc (enc:=eRoute) (w:=6) (fun _=>rfl) h h'
theorem lit_Route (v0:Bool) (v1:Int) (v2:Int) (v3:Int) (v4:Int) (v5:List Int):Prim.ev (.lit 6 [true,true,true,true,true,false]) [bb v0,ii v1,ii v2,ii v3,ii v4,.l (v5.map eInt)]=some (.l ([(⟨v0,v1,v2,v3,v4,v5⟩:Route)].map eRoute)):=ev_lit1 (by decide) rfl rfl
theorem litn_Route (v0:Bool) (v1:Int) (v2:Int) (v3:Int) (v4:Int) (v5:List Int):Prim.ev (.lit 6 []) [bb v0,ii v1,ii v2,ii v3,ii v4,.l (v5.map eInt)]=some (.l ([(⟨v0,v1,v2,v3,v4,v5⟩:Route)].map eRoute)):=ev_lit1 (by decide) rfl rfl
theorem eta_Route (x:Route):(⟨x.thing,x.to,x.kind,x.cost,x.far,x.hops⟩:Route)=x:=rfl
structure Self where
 id:Int
 boot:Int
 net:Net
 heard:List Int
 store:List Rcd
 deriving Inhabited
structure Ear where
 node:Int
 area:Int
 left:Int
 both:Bool
 deriving Inhabited
def eEar (x:Ear):List T:=[ii x.node,ii x.area,ii x.left,bb x.both]
theorem cell_Ear_0 {l:List Ear} {n:Int} (h:0≤n) (h':n < l.length):Prim.ev (.cell 4 0) [.l (l.map eEar),ii n]=some (ii (gt l n).node):=ev_cellZ h (gt_get h h') rfl rfl
theorem scell_Ear_0 {l:List Ear} {n:Int} (h:0≤n) (h':n < l.length):Prim.ev (.scell 4 0) [.l (l.map eEar),ii n]=some (ii (gt l n).node):=ev_scellZ h (gt_get h h') rfl rfl rfl
theorem cell_Ear_1 {l:List Ear} {n:Int} (h:0≤n) (h':n < l.length):Prim.ev (.cell 4 1) [.l (l.map eEar),ii n]=some (ii (gt l n).area):=ev_cellZ h (gt_get h h') rfl rfl
theorem scell_Ear_1 {l:List Ear} {n:Int} (h:0≤n) (h':n < l.length):Prim.ev (.scell 4 1) [.l (l.map eEar),ii n]=some (ii (gt l n).area):=ev_scellZ h (gt_get h h') rfl rfl rfl
theorem cell_Ear_2 {l:List Ear} {n:Int} (h:0≤n) (h':n < l.length):Prim.ev (.cell 4 2) [.l (l.map eEar),ii n]=some (ii (gt l n).left):=ev_cellZ h (gt_get h h') rfl rfl
theorem scell_Ear_2 {l:List Ear} {n:Int} (h:0≤n) (h':n < l.length):Prim.ev (.scell 4 2) [.l (l.map eEar),ii n]=some (ii (gt l n).left):=ev_scellZ h (gt_get h h') rfl rfl rfl
theorem cell_Ear_3 {l:List Ear} {n:Int} (h:0≤n) (h':n < l.length):Prim.ev (.cell 4 3) [.l (l.map eEar),ii n]=some (bb (gt l n).both):=ev_cellZ h (gt_get h h') rfl rfl
theorem scell_Ear_3 {l:List Ear} {n:Int} (h:0≤n) (h':n < l.length):Prim.ev (.scell 4 3) [.l (l.map eEar),ii n]=some (bb (gt l n).both):=ev_scellZ h (gt_get h h') rfl rfl rfl
theorem app_Ear_false {l m:List Ear} (h:l.length+m.length < 4294967296):Prim.ev (.app false 4) [.l (l.map eEar),.l (m.map eEar)]=some (.l ((l++m).map eEar)):=app_enc (w:=4) (fun _=>rfl) (.inl rfl) h
theorem appn_Ear_false {m:List Ear} (h:m.length < 4294967296):Prim.ev (.app false 4) [.l [],.l (m.map eEar)]=some (.l (m.map eEar)):=app_encn (w:=4) (fun _=>rfl) (.inl rfl) h
theorem app_Ear_true {l m:List Ear} (h:l.length+m.length < 4294967296):Prim.ev (.app true 4) [.l (l.map eEar),.l (m.map eEar)]=some (.l ((l++m).map eEar)):=app_enc (w:=4) (fun _=>rfl) (.inr fun _=>rfl) h
theorem appn_Ear_true {m:List Ear} (h:m.length < 4294967296):Prim.ev (.app true 4) [.l [],.l (m.map eEar)]=some (.l (m.map eEar)):=app_encn (w:=4) (fun _=>rfl) (.inr fun _=>rfl) h
theorem app1_Ear_false {l:List Ear} {x:Ear} (h:l.length < 4294967295):Prim.ev (.app false 4) [.l (l.map eEar),.l ([x].map eEar)]=some (.l ((l++[x]).map eEar)):=app_Ear_false (by simp;omega)
theorem app1n_Ear_false {x:Ear}:Prim.ev (.app false 4) [.l [],.l ([x].map eEar)]=some (.l ([x].map eEar)):=appn_Ear_false (by simp)
theorem app1_Ear_true {l:List Ear} {x:Ear} (h:l.length < 4294967295):Prim.ev (.app true 4) [.l (l.map eEar),.l ([x].map eEar)]=some (.l ((l++[x]).map eEar)):=app_Ear_true (by simp;omega)
theorem app1n_Ear_true {x:Ear}:Prim.ev (.app true 4) [.l [],.l ([x].map eEar)]=some (.l ([x].map eEar)):=appn_Ear_true (by simp)
theorem subL_Ear {l:List Ear} {a:Int} (h:0≤a) (h':a≤l.length):Prim.ev (.sub 4 true false) [.l (l.map eEar),ii a]=some (.l ((l.drop a.toNat).map eEar)):=subL_enc (enc:=eEar) (w:=4) (fun _=>rfl) h h'
theorem subH_Ear {l:List Ear} {a:Int} (h:0≤a) (h':a≤l.length):Prim.ev (.sub 4 false true) [.l (l.map eEar),ii a]=some (.l ((l.take a.toNat).map eEar)):=subH_enc (enc:=eEar) (w:=4) (fun _=>rfl) h h'
theorem lit_Ear (v0:Int) (v1:Int) (v2:Int) (v3:Bool):Prim.ev (.lit 4 [true,true,true,true]) [ii v0,ii v1,ii v2,bb v3]=some (.l ([(⟨v0,v1,v2,v3⟩:Ear)].map eEar)):=ev_lit1 (by decide) rfl rfl
theorem litn_Ear (v0:Int) (v1:Int) (v2:Int) (v3:Bool):Prim.ev (.lit 4 []) [ii v0,ii v1,ii v2,bb v3]=some (.l ([(⟨v0,v1,v2,v3⟩:Ear)].map eEar)):=ev_lit1 (by decide) rfl rfl
theorem eta_Ear (x:Ear):(⟨x.node,x.area,x.left,x.both⟩:Ear)=x:=rfl
structure Node where
 self:Self
 ears:List Ear
 deriving Inhabited
structure Packet where
 kind:Int
 frm:Int
 to:Int
 area:Int
 heard:List Int
 list:List Rcd
 deriving Inhabited
structure Line where
 thing:Bool
 to:Int
 hops:List Int
 deriving Inhabited
structure Turn where
 gone:Bool
 line:Line
 deriving Inhabited
structure World where
 net:Net
 links:List Bool
 up:List Bool
 boots:List Int
 nodes:List Node
 flying:List Packet
 told:List Rcd
 errors:Int
 deriving Inhabited
set_option linter.unusedSimpArgs false
set_option linter.defProp false
theorem pz:(∀ p:Prop,(p∨p)=p)∧(∀ p:Prop,(p∨True)=True)∧(∀ p:Prop,(True∨p)=True)∧(∀ p:Prop,(p∨False)=p)∧(∀ p:Prop,(False∨p)=p)∧(¬ True)=False∧(¬ False)=True∧(∀ a:Int,(a < a)=False) :=
 ⟨or_self,or_true,true_or,or_false,false_or,not_true_eq_false,not_false_eq_true,fun a=>eq_false (Int.lt_irrefl a)⟩
@[congr] theorem iter_cong {α β:Type} {F:(α→Option β)→α→Option β} {R:Nat} {x y:α} (h:x=y):iter F R x=iter F R y:=by rw [h]
@[congr] theorem bind_cong {α β:Type} {o o':Option α} {f:α→Option β} (h:o=o'):o.bind f=o'.bind f:=by rw [h]
@[congr] theorem ifT_cong {t t':T} {x y:Option (List T)} (h:t=t'):ifT t x y=ifT t' x y:=by rw [h]
@[congr] theorem jn_cong {k:Sem1} {b:Sem1→Option (List T)}:jn k b=jn k b:=rfl
@[congr] theorem cl1_cong {o o':Option (List T)} {k:T→Option (List T)} (h:o=o'):cl1 o k=cl1 o' k:=by rw [h]
@[congr] theorem ar1_cong {k:T→Option (List T)} {l l':List T} (h:l=l'):ar1 k l=ar1 k l':=by rw [h]
@[congr] theorem cl2_cong {o o':Option (List T)} {k:T→T→Option (List T)} (h:o=o'):cl2 o k=cl2 o' k:=by rw [h]
@[congr] theorem ar2_cong {k:T→T→Option (List T)} {l l':List T} (h:l=l'):ar2 k l=ar2 k l':=by rw [h]
@[congr] theorem cl3_cong {o o':Option (List T)} {k:T→T→T→Option (List T)} (h:o=o'):cl3 o k=cl3 o' k:=by rw [h]
@[congr] theorem ar3_cong {k:T→T→T→Option (List T)} {l l':List T} (h:l=l'):ar3 k l=ar3 k l':=by rw [h]
@[congr] theorem cl4_cong {o o':Option (List T)} {k:T→T→T→T→Option (List T)} (h:o=o'):cl4 o k=cl4 o' k:=by rw [h]
@[congr] theorem ar4_cong {k:T→T→T→T→Option (List T)} {l l':List T} (h:l=l'):ar4 k l=ar4 k l':=by rw [h]
@[congr] theorem ar5_cong {k:T→T→T→T→T→Option (List T)} {l l':List T} (h:l=l'):ar5 k l=ar5 k l':=by rw [h]
@[congr] theorem cl6_cong {o o':Option (List T)} {k:T→T→T→T→T→T→Option (List T)} (h:o=o'):cl6 o k=cl6 o' k:=by rw [h]
@[congr] theorem ar6_cong {k:T→T→T→T→T→T→Option (List T)} {l l':List T} (h:l=l'):ar6 k l=ar6 k l':=by rw [h]
@[congr] theorem cl7_cong {o o':Option (List T)} {k:T→T→T→T→T→T→T→Option (List T)} (h:o=o'):cl7 o k=cl7 o' k:=by rw [h]
@[congr] theorem ar7_cong {k:T→T→T→T→T→T→T→Option (List T)} {l l':List T} (h:l=l'):ar7 k l=ar7 k l':=by rw [h]
@[congr] theorem cl8_cong {o o':Option (List T)} {k:T→T→T→T→T→T→T→T→Option (List T)} (h:o=o'):cl8 o k=cl8 o' k:=by rw [h]
@[congr] theorem cl9_cong {o o':Option (List T)} {k:T→T→T→T→T→T→T→T→T→Option (List T)} (h:o=o'):cl9 o k=cl9 o' k:=by rw [h]
theorem ifT_p (b:Bool) (x y:Option (List T)):ifT (bb b) x y=if b=true then x else y:=by cases b <;> rfl
theorem ev_len0:Prim.ev .len [.l []]=some (ii 0):=rfl
theorem ev_rem64 (a b:Int) (h:b≠0):Prim.ev (.bin .rem) [ii a,ii b]=some (ii (a.tmod b)):=by
 simp only [Prim.ev,T.val,binV,Option.bind_some,if_true,h,if_false]
theorem ev_mx64 (a b:Int):Prim.ev .mx [ii a,ii b]=some (ii (if b > a then b else a)):=rfl
theorem ev_mn64 (a b:Int):Prim.ev .mn [ii a,ii b]=some (ii (if b < a then b else a)):=rfl
theorem ev_eqs4 (a b c d a' b' c' d':Int):Prim.ev (.eqs [1,1,1,1]) [ii a,ii b,ii c,ii d,ii a',ii b',ii c',ii d']=some (bb (a == a' && (b == b' && (c == c' && (d == d'))))):=by
 simp [Prim.ev,eqT,eqV]
theorem ev_eqs31 (a b c a' b' c':Int) (d d':Bool):Prim.ev (.eqs [1,1,1,4]) [ii a,ii b,ii c,bb d,ii a',ii b',ii c',bb d']=some (bb (a == a' && (b == b' && (c == c' && (d == d'))))):=by
 simp [Prim.ev,eqT,eqV]
theorem ev_lit0 {w:Nat} (h:0 < w):Prim.ev (.lit w []) []=some (.l []):=by
 simp [Prim.ev,masked,chunks,h]
theorem lit2_Int (a b:Int):Prim.ev (.lit 1 [true,true]) [ii a,ii b]=some (.l ([a,b].map eInt)):=by simp [Prim.ev,masked,chunks,scal,eInt]
theorem litn2_Int (a b:Int):Prim.ev (.lit 1 []) [ii a,ii b]=some (.l ([a,b].map eInt)):=by simp [Prim.ev,masked,chunks,eInt]
theorem app2_Int {l:List Int} {x y:Int} (h:l.length < 4294967294):Prim.ev (.app true 1) [.l (l.map eInt),.l ([x,y].map eInt)]=some (.l ((l++[x,y]).map eInt)):=app_Int_true (by simp;omega)
theorem int_beq (a b:Int):((a == b)=true)=(a=b):=by simp
theorem int_bne (a b:Int):((a != b)=true)=¬ (a=b):=by simp
theorem b_not (b:Bool):((!b)=true)=¬ (b=true):=by simp
theorem b_bne (a b:Bool):((a != b)=true)=¬ ((a=true)=(b=true)):=by cases a <;> cases b <;> simp
theorem b_beq (a b:Bool):((a == b)=true)=((a=true)=(b=true)):=by cases a <;> cases b <;> simp
theorem cast_S (n:Nat):((n+1:Nat):Int)=(n:Int)+1:=by simp
theorem cast_add (a b:Nat):((a+b:Nat):Int)=(a:Int)+b:=by simp
theorem cast_1:((1:Nat):Int)=1:=rfl
theorem cast_2:((2:Nat):Int)=2:=rfl
theorem cast_3:((3:Nat):Int)=3:=rfl
theorem cast_5:((5:Nat):Int)=5:=rfl
theorem cast_6:((6:Nat):Int)=6:=rfl
theorem cast_7:((7:Nat):Int)=7:=rfl
theorem cast_9:((9:Nat):Int)=9:=rfl
theorem cast_0:((0:Nat):Int)=0:=rfl
theorem if_rw {α:Type} {p q:Prop} [Decidable p] [Decidable q] (h:p↔q) (x y:α):(if p then x else y)=if q then x else y:=by
 by_cases hq:q
 ·rw [if_pos (h.2 hq),if_pos hq]
 ·rw [if_neg (fun hp=>hq (h.1 hp)),if_neg hq]
def allB (n:Nat) (p:Nat→Bool):Bool:=(List.range n).all p
theorem allB_iff {n:Nat} {p:Nat→Bool}:allB n p=true↔∀ i,i < n→p i=true:=by
 simp [allB]
theorem iter_all {β σ:Type} {F:(σ→Option β)→σ→Option β} (n:Nat) (st:Nat→σ) (p:Nat→Bool) {outT outF:Option β}
  (step:∀ i:Nat,(i:Int) < (n:Int)→∀ s,F s (st i)=if p i=true then s (st (i+1)) else outF) (fin:∀ s,F s (st n)=outT) {R:Nat} (hR:n < R) :
  iter F R (st 0)=if allB n p=true then outT else outF:=by
 classical
 have:∀ (d i:Nat),i+d=n→∀ R,d < R→iter F R (st i)=if (∀ j,i≤j→j < n→p j=true) then outT else outF:=by
  intro d
  induction d with
  | zero =>
   intro i hi R hR
   cases R with
   | zero=>omega
   | succ R =>
    have hi:i=n:=hi
    subst hi
    rw [if_pos (fun j h1 h2=>absurd h1 (by omega))]
    exact fin _
  | succ d ih =>
   intro i hi R hR
   cases R with
   | zero=>omega
   | succ R =>
    unfold iter
    rw [step i (by omega)]
    by_cases hp:p i=true
    ·rw [if_pos hp,ih (i+1) (by omega) R (by omega)]
     refine if_rw ⟨fun h j h1 h2=>?_,fun h j h1 h2=>h j (by omega) h2⟩ _ _
     rcases Nat.lt_or_ge i j with h3 | h3
     ·exact h j h3 h2
     ·have:j=i:=by omega
      subst this;exact hp
    ·rw [if_neg hp,if_neg fun h=>hp (h i (Nat.le_refl i) (by omega))]
 rw [this n 0 (by omega) R hR]
 exact if_rw ⟨fun h=>allB_iff.2 fun i hi=>h i (Nat.zero_le i) hi,fun h j _ h2=>allB_iff.1 h j h2⟩ _ _
def findP {α:Type} (p:α→Bool) (l:List α):Int:=match l.findIdx? p with | some i=>(i:Int) | none=>-1
theorem findP_lt {α:Type} (p:α→Bool) (l:List α):findP p l < l.length:=by
 unfold findP
 cases h:l.findIdx? p with
 | none=>show (-1:Int) < _;omega
 | some i =>
  obtain ⟨h1,_⟩:=List.findIdx?_eq_some_iff_getElem.1 h
  show (i:Int) < _;omega
theorem findP_ge {α:Type} (p:α→Bool) (l:List α):-1≤findP p l:=by
 unfold findP
 cases h:l.findIdx? p with
 | none=>show (-1:Int)≤-1;omega
 | some i=>show (-1:Int)≤(i:Int);omega
theorem findP_spec {α:Type} [Inhabited α] (p:α→Bool) (l:List α) (h:0≤findP p l):p (gt l (findP p l))=true:=by
 unfold findP at h ⊢
 cases h':l.findIdx? p with
 | none=>rw [h'] at h;exact absurd h (by decide)
 | some i =>
  obtain ⟨h1,h2,_⟩:=List.findIdx?_eq_some_iff_getElem.1 h'
  show p (gt l (i:Int))=true
  rw [gt_elem h1];exact h2
theorem findP_none {α:Type} (p:α→Bool) (l:List α):findP p l < 0↔∀ x∈l,p x=false:=by
 unfold findP
 cases h:l.findIdx? p with
 | none =>
  rw [List.findIdx?_eq_none_iff] at h
  exact ⟨fun _=>h,fun _=>by show (-1:Int) < 0;decide⟩
 | some i =>
  obtain ⟨h1,h2,_⟩:=List.findIdx?_eq_some_iff_getElem.1 h
  refine ⟨fun h3=>absurd (show (i:Int) < 0 from h3) (by omega),fun h3=>?_⟩
  rw [h3 _ (List.getElem_mem h1)] at h2
  cases h2
theorem iter_findP {α β σ:Type} [Inhabited α] {F:(σ→Option β)→σ→Option β} (l:List α) (st:Nat→σ) (p:α→Bool) (outS:Int→Option β) {outN:Option β}
  (step:∀ i:Nat,(i:Int) < (l.length:Int)→∀ s,F s (st i)=if p (gt l i)=true then outS i else s (st (i+1))) (fin:∀ s,F s (st l.length)=outN) {R:Nat} (hR:l.length < R) :
  iter F R (st 0)=if findP p l < 0 then outN else outS (findP p l):=by
 have:∀ (d i:Nat),i+d=l.length→∀ R,d < R→iter F R (st i)=(match (l.drop i).findIdx? p with | some k=>outS ((i+k:Nat):Int) | none=>outN):=by
  intro d
  induction d with
  | zero =>
   intro i hi R hR
   cases R with
   | zero=>omega
   | succ R =>
    rw [Nat.add_zero] at hi
    subst hi
    rw [List.drop_length]
    exact fin _
  | succ d ih =>
   intro i hi R hR
   cases R with
   | zero=>omega
   | succ R =>
    have hlt:i < l.length:=by omega
    unfold iter
    rw [step i (by omega),List.drop_eq_getElem_cons hlt,List.findIdx?_cons,gt_elem hlt]
    cases hp:p l[i] with
    | true=>simp
    | false =>
     simp only [Bool.false_eq_true,if_false]
     rw [ih (i+1) (by omega) R (by omega)]
     cases (l.drop (i+1)).findIdx? p with
     | none=>rfl
     | some k=>simp [Int.add_assoc,Int.add_comm 1]
 have h:=this l.length 0 (by omega) R hR
 rw [h,List.drop_zero]
 unfold findP
 cases l.findIdx? p with
 | none=>rfl
 | some i =>
  show outS ((0+i:Nat):Int)=if (i:Int) < 0 then outN else outS (i:Int)
  rw [if_neg (by omega),Nat.zero_add]
theorem iter_foldl {α γ β σ:Type} [Inhabited α] {F:(σ→Option β)→σ→Option β} (l:List α) (st:Nat→γ→σ) (g:γ→α→γ) (out:γ→Option β) (c:γ) (Inv:Nat→γ→Prop) (h0:Inv 0 c)
  (step:∀ (i:Nat) c,(i:Int) < (l.length:Int)→Inv i c→Inv (i+1) (g c (gt l i))∧∀ s,F s (st i c)=s (st (i+1) (g c (gt l i)))) (fin:∀ c s,Inv l.length c→F s (st l.length c)=out c) {R:Nat} (hR:l.length < R) :
  iter F R (st 0 c)=out (l.foldl g c):=by
 have:∀ (d i:Nat) (c:γ),i+d=l.length→Inv i c→∀ R,d < R→iter F R (st i c)=out ((l.drop i).foldl g c):=by
  intro d
  induction d with
  | zero =>
   intro i c hi hc R hR
   cases R with
   | zero=>omega
   | succ R =>
    rw [Nat.add_zero] at hi
    subst hi
    rw [List.drop_length]
    exact fin _ _ hc
  | succ d ih =>
   intro i c hi hc R hR
   cases R with
   | zero=>omega
   | succ R =>
    have hlt:i < l.length:=by omega
    unfold iter
    obtain ⟨h1,h2⟩:=step i c (by omega) hc
    rw [h2,List.drop_eq_getElem_cons hlt,List.foldl_cons,ih (i+1) _ (by omega) h1 R (by omega),gt_elem hlt]
 have h:=this l.length 0 c (by omega) h0 R hR
 simpa using h
theorem iter_upto {γ β σ:Type} {F:(σ→Option β)→σ→Option β} (n:Nat) (st:Nat→γ→σ) (g:γ→Nat→γ) (out:γ→Option β) (c:γ) (Inv:Nat→γ→Prop) (h0:Inv 0 c)
  (step:∀ (i:Nat) c,(i:Int) < (n:Int)→Inv i c→Inv (i+1) (g c i)∧∀ s,F s (st i c)=s (st (i+1) (g c i))) (fin:∀ c s,Inv n c→F s (st n c)=out c) {R:Nat} (hR:n < R) :
  iter F R (st 0 c)=out ((List.range n).foldl g c):=by
 have hl:(List.range n).length=n:=List.length_range
 refine iter_foldl (List.range n) st g out c Inv h0 (fun i c hi hc=>?_) (fun c s hc=>?_) (by rw [hl];exact hR)
 ·rw [hl] at hi
  rw [gt_elem (by rw [hl];omega),List.getElem_range]
  exact step i c hi hc
 ·rw [hl] at hc ⊢
  exact fin c s hc
theorem foldl_keep {α β:Type} (p:α→Bool) (f:α→β) (l:List α) (acc:List β):l.foldl (fun c a=>if p a=true then c++[f a] else c) acc=acc++(l.filter p).map f:=by
 induction l generalizing acc with
 | nil=>simp
 | cons a l ih =>
  rw [List.foldl_cons,ih]
  cases h:p a <;> simp [h,List.filter_cons]
theorem foldl_map {α β:Type} (f:α→β) (l:List α) (acc:List β):l.foldl (fun c a=>c++[f a]) acc=acc++l.map f:=by
 induction l generalizing acc with
 | nil=>simp
 | cons a l ih=>rw [List.foldl_cons,ih];simp
theorem iter_allx {β σ:Type} {F:(σ→Option β)→σ→Option β} {R:Nat} {x:σ} (n:Nat) (st:Nat→σ) (p:Nat→Bool) {outT outF:Option β} (hx:x=st 0) (hR:n < R)
  (step:∀ i:Nat,(i:Int) < (n:Int)→∀ s,F s (st i)=if p i=true then s (st (i+1)) else outF) (fin:∀ s,F s (st n)=outT) :
  iter F R x=if allB n p=true then outT else outF:=by rw [hx];exact iter_all n st p step fin hR
theorem iter_findPx {α β σ:Type} [Inhabited α] {F:(σ→Option β)→σ→Option β} {R:Nat} {x:σ} (l:List α) (st:Nat→σ) (p:α→Bool) (outS:Int→Option β) {outN:Option β} (hx:x=st 0) (hR:l.length < R)
  (step:∀ i:Nat,(i:Int) < (l.length:Int)→∀ s,F s (st i)=if p (gt l i)=true then outS i else s (st (i+1))) (fin:∀ s,F s (st l.length)=outN) :
  iter F R x=if findP p l < 0 then outN else outS (findP p l):=by rw [hx];exact iter_findP l st p outS step fin hR
theorem iter_foldlx {α γ β σ:Type} [Inhabited α] {F:(σ→Option β)→σ→Option β} {R:Nat} {x:σ} (l:List α) (st:Nat→γ→σ) (g:γ→α→γ) (out:γ→Option β) (c:γ) (Inv:Nat→γ→Prop) (hx:x=st 0 c) (hR:l.length < R) (h0:Inv 0 c)
  (step:∀ (i:Nat) c,(i:Int) < (l.length:Int)→Inv i c→Inv (i+1) (g c (gt l i))∧∀ s,F s (st i c)=s (st (i+1) (g c (gt l i)))) (fin:∀ c s,Inv l.length c→F s (st l.length c)=out c) :
  iter F R x=out (l.foldl g c):=by rw [hx];exact iter_foldl l st g out c Inv h0 step fin hR
theorem iter_uptox {γ β σ:Type} {F:(σ→Option β)→σ→Option β} {R:Nat} {x:σ} (n:Nat) (st:Nat→γ→σ) (g:γ→Nat→γ) (out:γ→Option β) (c:γ) (Inv:Nat→γ→Prop) (hx:x=st 0 c) (hR:n < R) (h0:Inv 0 c)
  (step:∀ (i:Nat) c,(i:Int) < (n:Int)→Inv i c→Inv (i+1) (g c i)∧∀ s,F s (st i c)=s (st (i+1) (g c i))) (fin:∀ c s,Inv n c→F s (st n c)=out c) :
  iter F R x=out ((List.range n).foldl g c):=by rw [hx];exact iter_upto n st g out c Inv h0 step fin hR
theorem foldl_inv {α γ:Type} [Inhabited α] {l:List α} {g:γ→α→γ} {c:γ} {Inv:Nat→γ→Prop} (h0:Inv 0 c) (step:∀ (i:Nat) c,(i:Int) < (l.length:Int)→Inv i c→Inv (i+1) (g c (gt l i))):Inv l.length (l.foldl g c):=by
 have:∀ (d i:Nat) (c:γ),i+d=l.length→Inv i c→Inv l.length ((l.drop i).foldl g c):=by
  intro d
  induction d with
  | zero=>intro i c hi hc;rw [Nat.add_zero] at hi;subst hi;rw [List.drop_length];exact hc
  | succ d ih =>
   intro i c hi hc
   have hlt:i < l.length:=by omega
   rw [List.drop_eq_getElem_cons hlt,List.foldl_cons]
   have:=step i c (by omega) hc
   rw [gt_elem hlt] at this
   exact ih (i+1) _ (by omega) this
 have h:=this l.length 0 c (by omega) h0
 simpa using h
theorem rounds_lt {n:Nat} (h:n≤1048576):n < rounds:=by unfold rounds;omega
theorem foldl_filter {α:Type} (p:α→Bool) (l:List α) (acc:List α):l.foldl (fun c a=>if p a=true then c++[a] else c) acc=acc++l.filter p:=by
 induction l generalizing acc with
 | nil=>simp
 | cons a l ih =>
  rw [List.foldl_cons,ih]
  cases h:p a <;> simp [h,List.filter_cons]
def ps0:=(And.intro (And.intro (And.intro (And.intro (@bind_some' T (List T)) (And.intro trivial @cl1_s)) (And.intro @cl2_s (And.intro @cl3_s @cl4_s))) (And.intro (And.intro trivial (And.intro @cl6_s @cl7_s)) (And.intro @cl8_s (And.intro @cl9_s trivial)))) (And.intro (And.intro (And.intro trivial (And.intro trivial trivial)) (And.intro trivial (And.intro trivial trivial))) (And.intro (And.intro trivial (And.intro @ar1_s @ar2_s)) (And.intro @ar3_s (And.intro @ar4_s @ar5_s)))))
def ps1:=(And.intro (And.intro (And.intro (And.intro @ar6_s (And.intro @ar7_s trivial)) (And.intro trivial (And.intro trivial trivial))) (And.intro (And.intro trivial (And.intro trivial trivial)) (And.intro trivial (And.intro trivial ifT_p)))) (And.intro (And.intro (And.intro (fun (p:Prop) (_:Decidable p)=>@decide_eq_true_eq p _) (And.intro Bool.and_eq_true Bool.or_eq_true)) (And.intro b_not (And.intro b_bne b_beq))) (And.intro (And.intro int_beq (And.intro int_bne @ev_lenM)) (And.intro ev_len0 (And.intro @ev_lens @ev_lss)))))
def ps2:=(And.intro (And.intro (And.intro (And.intro @ev_leq (And.intro @ev_gtr @ev_geq)) (And.intro @ev_eql (And.intro @ev_neq @ev_add))) (And.intro (And.intro @ev_sub (And.intro @ev_mul ev_rem64)) (And.intro ev_mx64 (And.intro ev_mn64 ev_bbneq)))) (And.intro (And.intro (And.intro ev_bbeql (And.intro ev_not @ev_scl_i)) (And.intro ev_scl_b (And.intro ev_scl_s @ev_bndZ))) (And.intro (And.intro @wrap64 (And.intro ev_eqs2 ev_eqs4)) (And.intro ev_eqs31 (And.intro @ev_lit0 cast_add)))))
def ps3:=(And.intro (And.intro (And.intro (And.intro cast_0 (And.intro cast_1 cast_2)) (And.intro cast_3 (And.intro cast_5 cast_6))) (And.intro (And.intro cast_7 (And.intro cast_9 ev_eqlS)) (And.intro ev_neqS (And.intro lit2_Int litn2_Int)))) (And.intro (And.intro (And.intro @app2_Int (And.intro (fun (k:Nat)=>@Int.toNat_natCast k) (fun (α:Type) (f:α→List T) (l:List α)=>@List.length_map α (List T) l f))) (And.intro eta_Link (And.intro eta_Thing trivial))) (And.intro (And.intro eta_Near (And.intro eta_Rcd eta_Way)) (And.intro eta_Route (And.intro trivial eta_Ear)))))
def ps4:=(And.intro (And.intro (And.intro (And.intro trivial (And.intro trivial trivial)) (And.intro trivial (And.intro trivial @cell_Int_0))) (And.intro (And.intro @scell_Int_0 (And.intro @app1_Int_false @app1n_Int_false)) (And.intro @app_Int_false (And.intro @appn_Int_false @app1_Int_true)))) (And.intro (And.intro (And.intro @app1n_Int_true (And.intro @app_Int_true @appn_Int_true)) (And.intro @subL_Int (And.intro @subH_Int @lit_Int))) (And.intro (And.intro @litn_Int (And.intro @cell_Bool_0 @scell_Bool_0)) (And.intro @app1_Bool_false (And.intro @app1n_Bool_false @app_Bool_false)))))
def ps5:=(And.intro (And.intro (And.intro (And.intro @appn_Bool_false (And.intro @app1_Bool_true @app1n_Bool_true)) (And.intro @app_Bool_true (And.intro @appn_Bool_true @subL_Bool))) (And.intro (And.intro @subH_Bool (And.intro @lit_Bool @litn_Bool)) (And.intro @cell_Link_0 (And.intro @scell_Link_0 @cell_Link_1)))) (And.intro (And.intro (And.intro @scell_Link_1 (And.intro @cell_Link_2 @scell_Link_2)) (And.intro @cell_Link_3 (And.intro @scell_Link_3 @app1_Link_false))) (And.intro (And.intro @app1n_Link_false (And.intro @app_Link_false @appn_Link_false)) (And.intro @app1_Link_true (And.intro @app1n_Link_true @app_Link_true)))))
def ps6:=(And.intro (And.intro (And.intro (And.intro @appn_Link_true (And.intro @subL_Link @subH_Link)) (And.intro @lit_Link (And.intro @litn_Link @cell_Thing_0))) (And.intro (And.intro @scell_Thing_0 (And.intro @cell_Thing_1 @scell_Thing_1)) (And.intro @cell_Thing_2 (And.intro @scell_Thing_2 @cell_Thing_3)))) (And.intro (And.intro (And.intro @scell_Thing_3 (And.intro @app1_Thing_false @app1n_Thing_false)) (And.intro @app_Thing_false (And.intro @appn_Thing_false @app1_Thing_true))) (And.intro (And.intro @app1n_Thing_true (And.intro @app_Thing_true @appn_Thing_true)) (And.intro @subL_Thing (And.intro @subH_Thing trivial)))))
def ps7:=(And.intro (And.intro (And.intro (And.intro trivial (And.intro trivial trivial)) (And.intro trivial (And.intro trivial trivial))) (And.intro (And.intro trivial (And.intro trivial trivial)) (And.intro trivial (And.intro trivial trivial)))) (And.intro (And.intro (And.intro trivial (And.intro @cell_Near_0 @scell_Near_0)) (And.intro @cell_Near_1 (And.intro @scell_Near_1 @app1_Near_false))) (And.intro (And.intro @app1n_Near_false (And.intro @app_Near_false @appn_Near_false)) (And.intro @app1_Near_true (And.intro @app1n_Near_true @app_Near_true)))))
def ps8:=(And.intro (And.intro (And.intro (And.intro @appn_Near_true (And.intro @subL_Near @subH_Near)) (And.intro @lit_Near (And.intro @litn_Near @cell_Rcd_0))) (And.intro (And.intro @scell_Rcd_0 (And.intro @cell_Rcd_1 @scell_Rcd_1)) (And.intro @cell_Rcd_2 (And.intro @scell_Rcd_2 @cell_Rcd_3)))) (And.intro (And.intro (And.intro @scell_Rcd_3 (And.intro @cell_Rcd_4 @scell_Rcd_4)) (And.intro @cell_Rcd_5 (And.intro @dig_Rcd_5 @cell_Rcd_6))) (And.intro (And.intro @scell_Rcd_6 (And.intro @cell_Rcd_7 @scell_Rcd_7)) (And.intro @app1_Rcd_false (And.intro @app1n_Rcd_false @app_Rcd_false)))))
def ps9:=(And.intro (And.intro (And.intro (And.intro @appn_Rcd_false (And.intro @subL_Rcd @subH_Rcd)) (And.intro @lit_Rcd (And.intro @litn_Rcd @cell_Way_0))) (And.intro (And.intro @scell_Way_0 (And.intro @cell_Way_1 @scell_Way_1)) (And.intro @cell_Way_2 (And.intro @dig_Way_2 @app1_Way_false)))) (And.intro (And.intro (And.intro @app1n_Way_false (And.intro @app_Way_false @appn_Way_false)) (And.intro @subL_Way (And.intro @subH_Way @lit_Way))) (And.intro (And.intro @litn_Way (And.intro @cell_Route_0 @scell_Route_0)) (And.intro @cell_Route_1 (And.intro @scell_Route_1 @cell_Route_2)))))
def ps10:=(And.intro (And.intro (And.intro (And.intro @scell_Route_2 (And.intro @cell_Route_3 @scell_Route_3)) (And.intro @cell_Route_4 (And.intro @scell_Route_4 @cell_Route_5))) (And.intro (And.intro @dig_Route_5 (And.intro @app1_Route_false @app1n_Route_false)) (And.intro @app_Route_false (And.intro @appn_Route_false @subL_Route)))) (And.intro (And.intro (And.intro @subH_Route (And.intro @lit_Route @litn_Route)) (And.intro trivial (And.intro trivial trivial))) (And.intro (And.intro trivial (And.intro trivial trivial)) (And.intro trivial (And.intro trivial trivial)))))
def ps11:=(And.intro (And.intro (And.intro (And.intro trivial (And.intro trivial trivial)) (And.intro trivial (And.intro trivial trivial))) (And.intro (And.intro trivial (And.intro trivial trivial)) (And.intro trivial (And.intro trivial trivial)))) (And.intro (And.intro (And.intro trivial (And.intro @cell_Ear_0 @scell_Ear_0)) (And.intro @cell_Ear_1 (And.intro @scell_Ear_1 @cell_Ear_2))) (And.intro (And.intro @scell_Ear_2 (And.intro @cell_Ear_3 @scell_Ear_3)) (And.intro @app1_Ear_false (And.intro @app1n_Ear_false @app_Ear_false)))))
def ps12:=(And.intro (And.intro (And.intro (And.intro @appn_Ear_false (And.intro @app1_Ear_true @app1n_Ear_true)) (And.intro @app_Ear_true (And.intro @appn_Ear_true @subL_Ear))) (And.intro (And.intro @subH_Ear (And.intro @lit_Ear @litn_Ear)) (And.intro trivial (And.intro trivial trivial)))) (And.intro (And.intro (And.intro trivial (And.intro trivial trivial)) (And.intro trivial (And.intro trivial trivial))) (And.intro (And.intro trivial (And.intro trivial trivial)) (And.intro trivial (And.intro trivial trivial)))))
def ps13:=(And.intro (And.intro (And.intro (And.intro trivial (And.intro trivial trivial)) (And.intro trivial (And.intro trivial trivial))) (And.intro (And.intro trivial (And.intro trivial trivial)) (And.intro trivial (And.intro trivial trivial)))) (And.intro (And.intro (And.intro trivial (And.intro trivial trivial)) (And.intro trivial (And.intro trivial trivial))) (And.intro (And.intro trivial (And.intro trivial trivial)) (And.intro trivial (And.intro trivial trivial)))))
def ps14:=(And.intro (And.intro (And.intro (And.intro trivial (And.intro trivial trivial)) (And.intro trivial (And.intro trivial trivial))) (And.intro (And.intro trivial (And.intro trivial trivial)) (And.intro trivial (And.intro trivial trivial)))) (And.intro (And.intro (And.intro trivial (And.intro trivial trivial)) (And.intro trivial (And.intro trivial trivial))) (And.intro (And.intro trivial (And.intro trivial trivial)) (And.intro trivial (And.intro trivial trivial)))))
def ps15:=(And.intro (And.intro (And.intro (And.intro trivial (And.intro trivial trivial)) (And.intro trivial (And.intro trivial trivial))) (And.intro (And.intro trivial (And.intro trivial trivial)) (And.intro trivial (And.intro trivial trivial)))) (And.intro (And.intro (And.intro trivial (And.intro trivial trivial)) (And.intro trivial (And.intro trivial trivial))) (And.intro (And.intro trivial (And.intro trivial trivial)) (And.intro trivial (And.intro trivial trivial)))))
def ps16:=(And.intro (And.intro (And.intro trivial (And.intro trivial trivial)) (And.intro (And.intro trivial trivial) (And.intro trivial trivial))) (And.intro (And.intro (And.intro trivial trivial) (And.intro trivial trivial)) (And.intro (And.intro trivial trivial) (And.intro trivial trivial))))
def pq:=(And.intro (And.intro (And.intro (And.intro (And.intro pv_s ifT_p) (And.intro Yz_s (And.intro Ya_s Yb_s))) (And.intro (And.intro Yl_s (And.intro Ye_s Yn_s)) (And.intro Yt_s (And.intro Yp_s Yo_s)))) (And.intro (And.intro (And.intro Yu_s Yg_s) (And.intro Ym_s (And.intro Yh_s Ys_s))) (And.intro (And.intro Yv_s (And.intro Yw_s Yx_s)) (And.intro Yy_s (And.intro Yc_s Yq_s))))) (And.intro (And.intro (And.intro (And.intro Y1_s Y2_s) (And.intro Y3_s (And.intro Y4_s Y6_s))) (And.intro (And.intro Y8_s (And.intro trivial @ar1_s)) (And.intro @ar2_s (And.intro @ar3_s @ar4_s)))) (And.intro (And.intro (And.intro @ar5_s (And.intro @ar6_s @ar7_s)) (And.intro trivial (And.intro trivial trivial))) (And.intro (And.intro trivial (And.intro trivial trivial)) (And.intro trivial (And.intro trivial trivial))))))
def pj:=And.intro jn_s trivial
def ps:=(And.intro (And.intro (And.intro (And.intro ps0 ps1) (And.intro ps2 ps3)) (And.intro (And.intro ps4 ps5) (And.intro ps6 ps7))) (And.intro (And.intro (And.intro ps8 ps9) (And.intro ps10 ps11)) (And.intro (And.intro ps12 ps13) (And.intro ps14 (And.intro ps15 ps16)))))
end Go.Proofs.YtbhplkilhknciaaDoorC

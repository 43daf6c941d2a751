/- The walk by reflection: a part of its laws, for any function. Conditions: none. -/
import Derived.Test.YtjimmglpkndemaaGreatKd
namespace Go.Proofs.YtjimmglpkndemaaGreatC
set_option linter.unusedVariables false
set_option linter.unusedSimpArgs false
abbrev ii(n:Int):T:=.c (.int .i64 n)
abbrev bb(b:Bool):T:=.c (.bool b)
def Gy(n:Int):Prop:=(Lit.int .i64 n).wf=true
theorem Gy.lo{n:Int}(h:Gy n):-9223372036854775808<=n:=by
 simp[Gy,Lit.wf,IntKind.min,IntKind.max,IntKind.signed,IntKind.bits]at h;omega
theorem Gy.hi{n:Int}(h:Gy n):n<9223372036854775808:=by
 simp[Gy,Lit.wf,IntKind.min,IntKind.max,IntKind.signed,IntKind.bits]at h;omega
theorem Gy.mk{n:Int}(h:-9223372036854775808<=n)(h':n<9223372036854775808):Gy n:=by
 simp[Gy,Lit.wf,IntKind.min,IntKind.max,IntKind.signed,IntKind.bits];omega
def gt{α:Type} [Inhabited α](l:List α)(n:Int):α:=l.getD n.toNat default
theorem db{α:Type} [Inhabited α]{enc:α->List T}{l:List α}{n:Int}(h:0<=n)(h':n<l.length):(l.map enc)[n.toNat]?=some (enc (gt l n)):=by
 have hn:n.toNat<l.length:=by omega
 rw[List.getElem?_map,List.getElem?_eq_getElem hn]
 simp[gt,List.getD,List.getElem?_eq_getElem hn]
theorem LJ{α:Type} [Inhabited α]{l:List α}{i:Nat}{a:α}(h:l[i]?=some a):gt l (i:Int)=a:=by
 simp[gt,List.getD,h]
theorem ed{α:Type} [Inhabited α]{l:List α}{i:Nat}(h:i<l.length):gt l (i:Int)=l[i]:=LJ (List.getElem?_eq_getElem h)
theorem gZ{α:Type} [Inhabited α]{l:List α}{n:Int}(h:0<=n)(h':n<l.length):gt l n∈l:=by
 have hn:n.toNat<l.length:=by omega
 simp[gt,List.getD,List.getElem?_eq_getElem hn]
theorem Dv{xs:List (List T)}{n:Int}{r:List T}(h0:0<=n)(h:xs[n.toNat]?=some r):wK (.l xs) (ii n)=some r:=by
 simp[wK,T.rows,T.int,h0,h]
theorem Gz{α:Type} [Inhabited α]{enc:α->List T}{l:List α}{n:Int}(h:0<=n)(h':n<l.length):Prim.ev .kg [.l (l.map enc),ii n]=some (bb true):=by
 simp[Prim.ev,Dv h (db (enc:=enc) h h')]
theorem gS{xs:List (List T)}{n:Int}{w j:Nat}{r:List T}{t:T}(h0:0<=n)(h:xs[n.toNat]?=some r)(hw:r.length=w)(hj:r[j]?=some t):Prim.ev (.cell w j) [.l xs,ii n]=some t:=by
 simp[Prim.ev,Dv h0 h,hw,hj]
theorem ki{xs:List (List T)}{n:Int}{w j:Nat}{r:List T}{t:T}(h0:0<=n)(h:xs[n.toNat]?=some r)(hw:r.length=w)(hj:r[j]?=some t)(hs:dX t=true):Prim.ev (.aU w j) [.l xs,ii n]=some t:=by
 simp[Prim.ev,Dv h0 h,hw,hj,hs]
theorem zb{xs ys:List (List T)}{n:Int}{w j:Nat}{r:List T}(h0:0<=n)(h:xs[n.toNat]?=some r)(hw:r.length=w)(hj:r[j]?=some (.l ys)):Prim.ev (.kh w j) [.l xs,ii n]=some (.l ys):=by
 simp[Prim.ev,Dv h0 h,hw,hj,T.rows]
theorem xV{α:Type}{enc:α->List T}{l:List α}:Prim.ev .len [.l (l.map enc)]=some (ii l.length):=by
 rw[Gg,List.length_map]
theorem GA{α:Type}{enc:α->List T}{w:Nat}(hw:∀x,(enc x).length=w)(l:List α):okW w (l.map enc)=true:=by
 cases l with
 |nil=>rfl
 |cons x l=>simp[okW,hw]
theorem tC{α:Type}{enc:α->List T}{w:Nat}{sc:Bool}(hw:∀x,(enc x).length=w)(hs:sc=false∨∀x,(enc x).all dX=true){l m:List α}(h:l.length+m.length<wJ):Prim.ev (.app sc w) [.l (l.map enc),.l (m.map enc)]=some (.l ((l++m).map enc)):=by
 rw[List.map_append]
 refine aed (by simpa using h) ?_ (GA hw l) (GA hw m)
 rcases hs with rfl|hs
 ·rfl
 ·have:(m.map enc).all (·.all dX)=true:=by simp only[List.all_map,List.all_eq_true];exactλx _=>hs x
  rw[this];simp
theorem uZ{α:Type}{enc:α->List T}{w:Nat}{sc:Bool}(hw:∀x,(enc x).length=w)(hs:sc=false∨∀x,(enc x).all dX=true){m:List α}(h:m.length<wJ):Prim.ev (.app sc w) [.l [],.l (m.map enc)]=some (.l (m.map enc)):=
 tC (l:=[]) hw hs (by simpa using h)
theorem BA{α:Type}{enc:α->List T}{w:Nat}(hw:∀x,(enc x).length=w){l:List α}{a:Int}(h:0<=a)(h':a<=l.length):Prim.ev (.sub w true false) [.l (l.map enc),ii a]=some (.l ((l.drop a.toNat).map enc)):=by
 simp only[Prim.ev,GA hw l,if_true,List.length_map,fU,h,h']
 rw[if_pos (by omega)]
 have:((l.map enc).take (l.length:Int).toNat).drop a.toNat=(l.drop a.toNat).map enc:=by
  rw[List.map_drop,Int.toNat_natCast,List.take_of_length_le (by simp)]
 rw[this]
theorem BB{α:Type}{enc:α->List T}{w:Nat}(hw:∀x,(enc x).length=w){l:List α}{a:Int}(h:0<=a)(h':a<=l.length):Prim.ev (.sub w false true) [.l (l.map enc),ii a]=some (.l ((l.take a.toNat).map enc)):=by
 simp only[Prim.ev,GA hw l,if_true,List.length_map,fU,h,h',Int.le_refl,Int.toNat_zero,List.drop_zero,List.map_take]
theorem VH{α:Type}{enc:α->List T}{ok:α->Prop}{ty:List Ty}(h:∀r,iY ty r->∃x,r=enc x∧ok x):∀{xs:List (List T)},(∀r∈xs,iY ty r)->∃l:List α,xs=l.map enc∧∀x∈l,ok x
 | [],_=>⟨[],rfl,by simp⟩
 |r::xs,hx=>by
  obtain⟨x,rfl,h1⟩:=h r (hx _ (.head _))
  obtain⟨l,rfl,h2⟩:=VH h (xs:=xs) λr hr=>hx r (.tail _ hr)
  refine⟨x::l,rfl,?_⟩
  intro y hy
  rcases List.mem_cons.1 hy with rfl|hy
  ·exact h1
  ·exact h2 y hy
def aD(n:Int):List T:=[ii n]
def iF(b:Bool):List T:=[bb b]
theorem aeZ{l:List Int}{n:Int}(h:0<=n)(h':n<l.length):Prim.ev (.cell 1 0) [.l (l.map aD),ii n]=some (ii (gt l n)):=gS h (db h h') rfl rfl
theorem ae0{l:List Int}{n:Int}(h:0<=n)(h':n<l.length):Prim.ev (.aU 1 0) [.l (l.map aD),ii n]=some (ii (gt l n)):=ki h (db h h') rfl rfl rfl
theorem VI{l m:List Int}(h:l.length+m.length<4294967296):Prim.ev (.app false 1) [.l (l.map aD),.l (m.map aD)]=some (.l ((l++m).map aD)):=tC (w:=1) (λ_=>rfl) (.inl rfl) h
theorem VJ{m:List Int}(h:m.length<4294967296):Prim.ev (.app false 1) [.l [],.l (m.map aD)]=some (.l (m.map aD)):=uZ (w:=1) (λ_=>rfl) (.inl rfl) h
theorem xW{l m:List Int}(h:l.length+m.length<4294967296):Prim.ev (.app true 1) [.l (l.map aD),.l (m.map aD)]=some (.l ((l++m).map aD)):=tC (w:=1) (λ_=>rfl) (.inr λ_=>rfl) h
theorem VK{m:List Int}(h:m.length<4294967296):Prim.ev (.app true 1) [.l [],.l (m.map aD)]=some (.l (m.map aD)):=uZ (w:=1) (λ_=>rfl) (.inr λ_=>rfl) h
theorem ae1{l:List Int}{x:Int}(h:l.length<4294967295):Prim.ev (.app false 1) [.l (l.map aD),.l ([x].map aD)]=some (.l ((l++[x]).map aD)):=VI (by simp;omega)
theorem ae2{x:Int}:Prim.ev (.app false 1) [.l [],.l ([x].map aD)]=some (.l ([x].map aD)):=VJ (by simp)
theorem Ar{l:List Int}{x:Int}(h:l.length<4294967295):Prim.ev (.app true 1) [.l (l.map aD),.l ([x].map aD)]=some (.l ((l++[x]).map aD)):=xW (by simp;omega)
theorem ae3{x:Int}:Prim.ev (.app true 1) [.l [],.l ([x].map aD)]=some (.l ([x].map aD)):=VK (by simp)
theorem ae4{l:List Int}{a:Int}(h:0<=a)(h':a<=l.length):Prim.ev (.sub 1 true false) [.l (l.map aD),ii a]=some (.l ((l.drop a.toNat).map aD)):=BA (enc:=aD) (w:=1) (λ_=>rfl) h h'
theorem ae5{l:List Int}{a:Int}(h:0<=a)(h':a<=l.length):Prim.ev (.sub 1 false true) [.l (l.map aD),ii a]=some (.l ((l.take a.toNat).map aD)):=BB (enc:=aD) (w:=1) (λ_=>rfl) h h'
theorem ae6(x:Int):Prim.ev (.lit 1 [true]) [ii x]=some (.l ([x].map aD)):=q0 (by decide) rfl rfl
theorem ae7(x:Int):Prim.ev (.lit 1 []) [ii x]=some (.l ([x].map aD)):=q0 (by decide) rfl rfl
theorem ae8{l:List Bool}{n:Int}(h:0<=n)(h':n<l.length):Prim.ev (.cell 1 0) [.l (l.map iF),ii n]=some (bb (gt l n)):=gS h (db h h') rfl rfl
theorem ae9{l:List Bool}{n:Int}(h:0<=n)(h':n<l.length):Prim.ev (.aU 1 0) [.l (l.map iF),ii n]=some (bb (gt l n)):=ki h (db h h') rfl rfl rfl
theorem VL{l m:List Bool}(h:l.length+m.length<4294967296):Prim.ev (.app false 1) [.l (l.map iF),.l (m.map iF)]=some (.l ((l++m).map iF)):=tC (w:=1) (λ_=>rfl) (.inl rfl) h
theorem VM{m:List Bool}(h:m.length<4294967296):Prim.ev (.app false 1) [.l [],.l (m.map iF)]=some (.l (m.map iF)):=uZ (w:=1) (λ_=>rfl) (.inl rfl) h
theorem VN{l m:List Bool}(h:l.length+m.length<4294967296):Prim.ev (.app true 1) [.l (l.map iF),.l (m.map iF)]=some (.l ((l++m).map iF)):=tC (w:=1) (λ_=>rfl) (.inr λ_=>rfl) h
theorem VO{m:List Bool}(h:m.length<4294967296):Prim.ev (.app true 1) [.l [],.l (m.map iF)]=some (.l (m.map iF)):=uZ (w:=1) (λ_=>rfl) (.inr λ_=>rfl) h
theorem ae_{l:List Bool}{x:Bool}(h:l.length<4294967295):Prim.ev (.app false 1) [.l (l.map iF),.l ([x].map iF)]=some (.l ((l++[x]).map iF)):=VL (by simp;omega)
theorem ae'{x:Bool}:Prim.ev (.app false 1) [.l [],.l ([x].map iF)]=some (.l ([x].map iF)):=VM (by simp)
theorem afa{l:List Bool}{x:Bool}(h:l.length<4294967295):Prim.ev (.app true 1) [.l (l.map iF),.l ([x].map iF)]=some (.l ((l++[x]).map iF)):=VN (by simp;omega)
theorem afb{x:Bool}:Prim.ev (.app true 1) [.l [],.l ([x].map iF)]=some (.l ([x].map iF)):=VO (by simp)
theorem afc{l:List Bool}{a:Int}(h:0<=a)(h':a<=l.length):Prim.ev (.sub 1 true false) [.l (l.map iF),ii a]=some (.l ((l.drop a.toNat).map iF)):=BA (enc:=iF) (w:=1) (λ_=>rfl) h h'
theorem afd{l:List Bool}{a:Int}(h:0<=a)(h':a<=l.length):Prim.ev (.sub 1 false true) [.l (l.map iF),ii a]=some (.l ((l.take a.toNat).map iF)):=BB (enc:=iF) (w:=1) (λ_=>rfl) h h'
theorem afe(x:Bool):Prim.ev (.lit 1 [true]) [bb x]=some (.l ([x].map iF)):=q0 (by decide) rfl rfl
theorem aff(x:Bool):Prim.ev (.lit 1 []) [bb x]=some (.l ([x].map iF)):=q0 (by decide) rfl rfl
structure bC where
 a:Int
 b:Int
 cost:Int
 ae:Int
 deriving Inhabited
def dm(x:bC):List T:=[ii x.a,ii x.b,ii x.cost,ii x.ae]
theorem afg{l:List bC}{n:Int}(h:0<=n)(h':n<l.length):Prim.ev (.cell 4 0) [.l (l.map dm),ii n]=some (ii (gt l n).a):=gS h (db h h') rfl rfl
theorem afh{l:List bC}{n:Int}(h:0<=n)(h':n<l.length):Prim.ev (.aU 4 0) [.l (l.map dm),ii n]=some (ii (gt l n).a):=ki h (db h h') rfl rfl rfl
theorem afi{l:List bC}{n:Int}(h:0<=n)(h':n<l.length):Prim.ev (.cell 4 1) [.l (l.map dm),ii n]=some (ii (gt l n).b):=gS h (db h h') rfl rfl
theorem afj{l:List bC}{n:Int}(h:0<=n)(h':n<l.length):Prim.ev (.aU 4 1) [.l (l.map dm),ii n]=some (ii (gt l n).b):=ki h (db h h') rfl rfl rfl
theorem afk{l:List bC}{n:Int}(h:0<=n)(h':n<l.length):Prim.ev (.cell 4 2) [.l (l.map dm),ii n]=some (ii (gt l n).cost):=gS h (db h h') rfl rfl
theorem afl{l:List bC}{n:Int}(h:0<=n)(h':n<l.length):Prim.ev (.aU 4 2) [.l (l.map dm),ii n]=some (ii (gt l n).cost):=ki h (db h h') rfl rfl rfl
theorem afm{l:List bC}{n:Int}(h:0<=n)(h':n<l.length):Prim.ev (.cell 4 3) [.l (l.map dm),ii n]=some (ii (gt l n).ae):=gS h (db h h') rfl rfl
theorem afn{l:List bC}{n:Int}(h:0<=n)(h':n<l.length):Prim.ev (.aU 4 3) [.l (l.map dm),ii n]=some (ii (gt l n).ae):=ki h (db h h') rfl rfl rfl
theorem VP{l m:List bC}(h:l.length+m.length<4294967296):Prim.ev (.app false 4) [.l (l.map dm),.l (m.map dm)]=some (.l ((l++m).map dm)):=tC (w:=4) (λ_=>rfl) (.inl rfl) h
theorem VQ{m:List bC}(h:m.length<4294967296):Prim.ev (.app false 4) [.l [],.l (m.map dm)]=some (.l (m.map dm)):=uZ (w:=4) (λ_=>rfl) (.inl rfl) h
theorem VR{l m:List bC}(h:l.length+m.length<4294967296):Prim.ev (.app true 4) [.l (l.map dm),.l (m.map dm)]=some (.l ((l++m).map dm)):=tC (w:=4) (λ_=>rfl) (.inr λ_=>rfl) h
theorem VS{m:List bC}(h:m.length<4294967296):Prim.ev (.app true 4) [.l [],.l (m.map dm)]=some (.l (m.map dm)):=uZ (w:=4) (λ_=>rfl) (.inr λ_=>rfl) h
theorem afo{l:List bC}{x:bC}(h:l.length<4294967295):Prim.ev (.app false 4) [.l (l.map dm),.l ([x].map dm)]=some (.l ((l++[x]).map dm)):=VP (by simp;omega)
theorem afp{x:bC}:Prim.ev (.app false 4) [.l [],.l ([x].map dm)]=some (.l ([x].map dm)):=VQ (by simp)
theorem afq{l:List bC}{x:bC}(h:l.length<4294967295):Prim.ev (.app true 4) [.l (l.map dm),.l ([x].map dm)]=some (.l ((l++[x]).map dm)):=VR (by simp;omega)
theorem afr{x:bC}:Prim.ev (.app true 4) [.l [],.l ([x].map dm)]=some (.l ([x].map dm)):=VS (by simp)
theorem afs{l:List bC}{a:Int}(h:0<=a)(h':a<=l.length):Prim.ev (.sub 4 true false) [.l (l.map dm),ii a]=some (.l ((l.drop a.toNat).map dm)):=BA (enc:=dm) (w:=4) (λ_=>rfl) h h'
theorem aft{l:List bC}{a:Int}(h:0<=a)(h':a<=l.length):Prim.ev (.sub 4 false true) [.l (l.map dm),ii a]=some (.l ((l.take a.toNat).map dm)):=BB (enc:=dm) (w:=4) (λ_=>rfl) h h'
theorem afu(v0:Int)(v1:Int)(v2:Int)(v3:Int):Prim.ev (.lit 4 [true,true,true,true]) [ii v0,ii v1,ii v2,ii v3]=some (.l ([(⟨v0,v1,v2,v3⟩:bC)].map dm)):=q0 (by decide) rfl rfl
theorem afv(v0:Int)(v1:Int)(v2:Int)(v3:Int):Prim.ev (.lit 4 []) [ii v0,ii v1,ii v2,ii v3]=some (.l ([(⟨v0,v1,v2,v3⟩:bC)].map dm)):=q0 (by decide) rfl rfl
theorem afw(x:bC):(⟨x.a,x.b,x.cost,x.ae⟩:bC)=x:=rfl
structure bP where
 owner:Int
 key:Int
 cost:Int
 eY:Bool
 deriving Inhabited
def dM(x:bP):List T:=[ii x.owner,ii x.key,ii x.cost,bb x.eY]
theorem afx{l:List bP}{n:Int}(h:0<=n)(h':n<l.length):Prim.ev (.cell 4 0) [.l (l.map dM),ii n]=some (ii (gt l n).owner):=gS h (db h h') rfl rfl
theorem afy{l:List bP}{n:Int}(h:0<=n)(h':n<l.length):Prim.ev (.aU 4 0) [.l (l.map dM),ii n]=some (ii (gt l n).owner):=ki h (db h h') rfl rfl rfl
theorem afz{l:List bP}{n:Int}(h:0<=n)(h':n<l.length):Prim.ev (.cell 4 1) [.l (l.map dM),ii n]=some (ii (gt l n).key):=gS h (db h h') rfl rfl
theorem afA{l:List bP}{n:Int}(h:0<=n)(h':n<l.length):Prim.ev (.aU 4 1) [.l (l.map dM),ii n]=some (ii (gt l n).key):=ki h (db h h') rfl rfl rfl
theorem afB{l:List bP}{n:Int}(h:0<=n)(h':n<l.length):Prim.ev (.cell 4 2) [.l (l.map dM),ii n]=some (ii (gt l n).cost):=gS h (db h h') rfl rfl
theorem afC{l:List bP}{n:Int}(h:0<=n)(h':n<l.length):Prim.ev (.aU 4 2) [.l (l.map dM),ii n]=some (ii (gt l n).cost):=ki h (db h h') rfl rfl rfl
theorem afD{l:List bP}{n:Int}(h:0<=n)(h':n<l.length):Prim.ev (.cell 4 3) [.l (l.map dM),ii n]=some (bb (gt l n).eY):=gS h (db h h') rfl rfl
theorem afE{l:List bP}{n:Int}(h:0<=n)(h':n<l.length):Prim.ev (.aU 4 3) [.l (l.map dM),ii n]=some (bb (gt l n).eY):=ki h (db h h') rfl rfl rfl
theorem VT{l m:List bP}(h:l.length+m.length<4294967296):Prim.ev (.app false 4) [.l (l.map dM),.l (m.map dM)]=some (.l ((l++m).map dM)):=tC (w:=4) (λ_=>rfl) (.inl rfl) h
theorem VU{m:List bP}(h:m.length<4294967296):Prim.ev (.app false 4) [.l [],.l (m.map dM)]=some (.l (m.map dM)):=uZ (w:=4) (λ_=>rfl) (.inl rfl) h
theorem VV{l m:List bP}(h:l.length+m.length<4294967296):Prim.ev (.app true 4) [.l (l.map dM),.l (m.map dM)]=some (.l ((l++m).map dM)):=tC (w:=4) (λ_=>rfl) (.inr λ_=>rfl) h
theorem VW{m:List bP}(h:m.length<4294967296):Prim.ev (.app true 4) [.l [],.l (m.map dM)]=some (.l (m.map dM)):=uZ (w:=4) (λ_=>rfl) (.inr λ_=>rfl) h
theorem afF{l:List bP}{x:bP}(h:l.length<4294967295):Prim.ev (.app false 4) [.l (l.map dM),.l ([x].map dM)]=some (.l ((l++[x]).map dM)):=VT (by simp;omega)
theorem afG{x:bP}:Prim.ev (.app false 4) [.l [],.l ([x].map dM)]=some (.l ([x].map dM)):=VU (by simp)
theorem afH{l:List bP}{x:bP}(h:l.length<4294967295):Prim.ev (.app true 4) [.l (l.map dM),.l ([x].map dM)]=some (.l ((l++[x]).map dM)):=VV (by simp;omega)
theorem afI{x:bP}:Prim.ev (.app true 4) [.l [],.l ([x].map dM)]=some (.l ([x].map dM)):=VW (by simp)
theorem afJ{l:List bP}{a:Int}(h:0<=a)(h':a<=l.length):Prim.ev (.sub 4 true false) [.l (l.map dM),ii a]=some (.l ((l.drop a.toNat).map dM)):=BA (enc:=dM) (w:=4) (λ_=>rfl) h h'
theorem afK{l:List bP}{a:Int}(h:0<=a)(h':a<=l.length):Prim.ev (.sub 4 false true) [.l (l.map dM),ii a]=some (.l ((l.take a.toNat).map dM)):=BB (enc:=dM) (w:=4) (λ_=>rfl) h h'
theorem afL(x:bP):(⟨x.owner,x.key,x.cost,x.eY⟩:bP)=x:=rfl
structure Net where
 n:Int
 aA:List bC
 aN:List bP
 deriving Inhabited
structure cw where
 to:Int
 cost:Int
 deriving Inhabited
def eQ(x:cw):List T:=[ii x.to,ii x.cost]
theorem afM{l:List cw}{n:Int}(h:0<=n)(h':n<l.length):Prim.ev (.cell 2 0) [.l (l.map eQ),ii n]=some (ii (gt l n).to):=gS h (db h h') rfl rfl
theorem afN{l:List cw}{n:Int}(h:0<=n)(h':n<l.length):Prim.ev (.aU 2 0) [.l (l.map eQ),ii n]=some (ii (gt l n).to):=ki h (db h h') rfl rfl rfl
theorem afO{l:List cw}{n:Int}(h:0<=n)(h':n<l.length):Prim.ev (.cell 2 1) [.l (l.map eQ),ii n]=some (ii (gt l n).cost):=gS h (db h h') rfl rfl
theorem afP{l:List cw}{n:Int}(h:0<=n)(h':n<l.length):Prim.ev (.aU 2 1) [.l (l.map eQ),ii n]=some (ii (gt l n).cost):=ki h (db h h') rfl rfl rfl
theorem VX{l m:List cw}(h:l.length+m.length<4294967296):Prim.ev (.app false 2) [.l (l.map eQ),.l (m.map eQ)]=some (.l ((l++m).map eQ)):=tC (w:=2) (λ_=>rfl) (.inl rfl) h
theorem VY{m:List cw}(h:m.length<4294967296):Prim.ev (.app false 2) [.l [],.l (m.map eQ)]=some (.l (m.map eQ)):=uZ (w:=2) (λ_=>rfl) (.inl rfl) h
theorem VZ{l m:List cw}(h:l.length+m.length<4294967296):Prim.ev (.app true 2) [.l (l.map eQ),.l (m.map eQ)]=some (.l ((l++m).map eQ)):=tC (w:=2) (λ_=>rfl) (.inr λ_=>rfl) h
theorem V0{m:List cw}(h:m.length<4294967296):Prim.ev (.app true 2) [.l [],.l (m.map eQ)]=some (.l (m.map eQ)):=uZ (w:=2) (λ_=>rfl) (.inr λ_=>rfl) h
theorem afQ{l:List cw}{x:cw}(h:l.length<4294967295):Prim.ev (.app false 2) [.l (l.map eQ),.l ([x].map eQ)]=some (.l ((l++[x]).map eQ)):=VX (by simp;omega)
theorem afR{x:cw}:Prim.ev (.app false 2) [.l [],.l ([x].map eQ)]=some (.l ([x].map eQ)):=VY (by simp)
theorem LK{l:List cw}{x:cw}(h:l.length<4294967295):Prim.ev (.app true 2) [.l (l.map eQ),.l ([x].map eQ)]=some (.l ((l++[x]).map eQ)):=VZ (by simp;omega)
theorem afS{x:cw}:Prim.ev (.app true 2) [.l [],.l ([x].map eQ)]=some (.l ([x].map eQ)):=V0 (by simp)
theorem afT{l:List cw}{a:Int}(h:0<=a)(h':a<=l.length):Prim.ev (.sub 2 true false) [.l (l.map eQ),ii a]=some (.l ((l.drop a.toNat).map eQ)):=BA (enc:=eQ) (w:=2) (λ_=>rfl) h h'
theorem afU{l:List cw}{a:Int}(h:0<=a)(h':a<=l.length):Prim.ev (.sub 2 false true) [.l (l.map eQ),ii a]=some (.l ((l.take a.toNat).map eQ)):=BB (enc:=eQ) (w:=2) (λ_=>rfl) h h'
theorem afV(v0:Int)(v1:Int):Prim.ev (.lit 2 [true,true]) [ii v0,ii v1]=some (.l ([(⟨v0,v1⟩:cw)].map eQ)):=q0 (by decide) rfl rfl
theorem afW(v0:Int)(v1:Int):Prim.ev (.lit 2 []) [ii v0,ii v1]=some (.l ([(⟨v0,v1⟩:cw)].map eQ)):=q0 (by decide) rfl rfl
theorem afX(x:cw):(⟨x.to,x.cost⟩:cw)=x:=rfl
structure ay where
 ae:Int
 kind:Int
 owner:Int
 key:Int
 seq:Int
 bf:List cw
 cost:Int
 eY:Bool
 deriving Inhabited
def aC(x:ay):List T:=[ii x.ae,ii x.kind,ii x.owner,ii x.key,ii x.seq,.l (x.bf.map eQ),ii x.cost,bb x.eY]
theorem afY{l:List ay}{n:Int}(h:0<=n)(h':n<l.length):Prim.ev (.cell 8 0) [.l (l.map aC),ii n]=some (ii (gt l n).ae):=gS h (db h h') rfl rfl
theorem afZ{l:List ay}{n:Int}(h:0<=n)(h':n<l.length):Prim.ev (.aU 8 0) [.l (l.map aC),ii n]=some (ii (gt l n).ae):=ki h (db h h') rfl rfl rfl
theorem af0{l:List ay}{n:Int}(h:0<=n)(h':n<l.length):Prim.ev (.cell 8 1) [.l (l.map aC),ii n]=some (ii (gt l n).kind):=gS h (db h h') rfl rfl
theorem af1{l:List ay}{n:Int}(h:0<=n)(h':n<l.length):Prim.ev (.aU 8 1) [.l (l.map aC),ii n]=some (ii (gt l n).kind):=ki h (db h h') rfl rfl rfl
theorem af2{l:List ay}{n:Int}(h:0<=n)(h':n<l.length):Prim.ev (.cell 8 2) [.l (l.map aC),ii n]=some (ii (gt l n).owner):=gS h (db h h') rfl rfl
theorem af3{l:List ay}{n:Int}(h:0<=n)(h':n<l.length):Prim.ev (.aU 8 2) [.l (l.map aC),ii n]=some (ii (gt l n).owner):=ki h (db h h') rfl rfl rfl
theorem af4{l:List ay}{n:Int}(h:0<=n)(h':n<l.length):Prim.ev (.cell 8 3) [.l (l.map aC),ii n]=some (ii (gt l n).key):=gS h (db h h') rfl rfl
theorem af5{l:List ay}{n:Int}(h:0<=n)(h':n<l.length):Prim.ev (.aU 8 3) [.l (l.map aC),ii n]=some (ii (gt l n).key):=ki h (db h h') rfl rfl rfl
theorem af6{l:List ay}{n:Int}(h:0<=n)(h':n<l.length):Prim.ev (.cell 8 4) [.l (l.map aC),ii n]=some (ii (gt l n).seq):=gS h (db h h') rfl rfl
theorem af7{l:List ay}{n:Int}(h:0<=n)(h':n<l.length):Prim.ev (.aU 8 4) [.l (l.map aC),ii n]=some (ii (gt l n).seq):=ki h (db h h') rfl rfl rfl
theorem af8{l:List ay}{n:Int}(h:0<=n)(h':n<l.length):Prim.ev (.cell 8 5) [.l (l.map aC),ii n]=some (.l ((gt l n).bf.map eQ)):=gS h (db h h') rfl rfl
theorem af9{l:List ay}{n:Int}(h:0<=n)(h':n<l.length):Prim.ev (.kh 8 5) [.l (l.map aC),ii n]=some (.l ((gt l n).bf.map eQ)):=zb h (db h h') rfl rfl
theorem af_{l:List ay}{n:Int}(h:0<=n)(h':n<l.length):Prim.ev (.cell 8 6) [.l (l.map aC),ii n]=some (ii (gt l n).cost):=gS h (db h h') rfl rfl
theorem af'{l:List ay}{n:Int}(h:0<=n)(h':n<l.length):Prim.ev (.aU 8 6) [.l (l.map aC),ii n]=some (ii (gt l n).cost):=ki h (db h h') rfl rfl rfl
theorem aga{l:List ay}{n:Int}(h:0<=n)(h':n<l.length):Prim.ev (.cell 8 7) [.l (l.map aC),ii n]=some (bb (gt l n).eY):=gS h (db h h') rfl rfl
theorem agb{l:List ay}{n:Int}(h:0<=n)(h':n<l.length):Prim.ev (.aU 8 7) [.l (l.map aC),ii n]=some (bb (gt l n).eY):=ki h (db h h') rfl rfl rfl
theorem V1{l m:List ay}(h:l.length+m.length<4294967296):Prim.ev (.app false 8) [.l (l.map aC),.l (m.map aC)]=some (.l ((l++m).map aC)):=tC (w:=8) (λ_=>rfl) (.inl rfl) h
theorem V2{m:List ay}(h:m.length<4294967296):Prim.ev (.app false 8) [.l [],.l (m.map aC)]=some (.l (m.map aC)):=uZ (w:=8) (λ_=>rfl) (.inl rfl) h
theorem agc{l:List ay}{x:ay}(h:l.length<4294967295):Prim.ev (.app false 8) [.l (l.map aC),.l ([x].map aC)]=some (.l ((l++[x]).map aC)):=V1 (by simp;omega)
theorem agd{x:ay}:Prim.ev (.app false 8) [.l [],.l ([x].map aC)]=some (.l ([x].map aC)):=V2 (by simp)
theorem age{l:List ay}{a:Int}(h:0<=a)(h':a<=l.length):Prim.ev (.sub 8 true false) [.l (l.map aC),ii a]=some (.l ((l.drop a.toNat).map aC)):=BA (enc:=aC) (w:=8) (λ_=>rfl) h h'
theorem agf{l:List ay}{a:Int}(h:0<=a)(h':a<=l.length):Prim.ev (.sub 8 false true) [.l (l.map aC),ii a]=some (.l ((l.take a.toNat).map aC)):=BB (enc:=aC) (w:=8) (λ_=>rfl) h h'
theorem V3(v0:Int)(v1:Int)(v2:Int)(v3:Int)(v4:Int)(v5:List cw)(v6:Int)(v7:Bool):Prim.ev (.lit 8 [true,true,true,true,true,false,true,true]) [ii v0,ii v1,ii v2,ii v3,ii v4,.l (v5.map eQ),ii v6,bb v7]=some (.l ([(⟨v0,v1,v2,v3,v4,v5,v6,v7⟩:ay)].map aC)):=q0 (by decide) rfl rfl
theorem V4(v0:Int)(v1:Int)(v2:Int)(v3:Int)(v4:Int)(v5:List cw)(v6:Int)(v7:Bool):Prim.ev (.lit 8 []) [ii v0,ii v1,ii v2,ii v3,ii v4,.l (v5.map eQ),ii v6,bb v7]=some (.l ([(⟨v0,v1,v2,v3,v4,v5,v6,v7⟩:ay)].map aC)):=q0 (by decide) rfl rfl
theorem agh(x:ay):(⟨x.ae,x.kind,x.owner,x.key,x.seq,x.bf,x.cost,x.eY⟩:ay)=x:=rfl
structure Way where
 to:Int
 cost:Int
 aF:List Int
 deriving Inhabited
def br(x:Way):List T:=[ii x.to,ii x.cost,.l (x.aF.map aD)]
theorem agi{l:List Way}{n:Int}(h:0<=n)(h':n<l.length):Prim.ev (.cell 3 0) [.l (l.map br),ii n]=some (ii (gt l n).to):=gS h (db h h') rfl rfl
theorem agj{l:List Way}{n:Int}(h:0<=n)(h':n<l.length):Prim.ev (.aU 3 0) [.l (l.map br),ii n]=some (ii (gt l n).to):=ki h (db h h') rfl rfl rfl
theorem agk{l:List Way}{n:Int}(h:0<=n)(h':n<l.length):Prim.ev (.cell 3 1) [.l (l.map br),ii n]=some (ii (gt l n).cost):=gS h (db h h') rfl rfl
theorem agl{l:List Way}{n:Int}(h:0<=n)(h':n<l.length):Prim.ev (.aU 3 1) [.l (l.map br),ii n]=some (ii (gt l n).cost):=ki h (db h h') rfl rfl rfl
theorem agm{l:List Way}{n:Int}(h:0<=n)(h':n<l.length):Prim.ev (.cell 3 2) [.l (l.map br),ii n]=some (.l ((gt l n).aF.map aD)):=gS h (db h h') rfl rfl
theorem agn{l:List Way}{n:Int}(h:0<=n)(h':n<l.length):Prim.ev (.kh 3 2) [.l (l.map br),ii n]=some (.l ((gt l n).aF.map aD)):=zb h (db h h') rfl rfl
theorem Ja{l m:List Way}(h:l.length+m.length<4294967296):Prim.ev (.app false 3) [.l (l.map br),.l (m.map br)]=some (.l ((l++m).map br)):=tC (w:=3) (λ_=>rfl) (.inl rfl) h
theorem Jb{m:List Way}(h:m.length<4294967296):Prim.ev (.app false 3) [.l [],.l (m.map br)]=some (.l (m.map br)):=uZ (w:=3) (λ_=>rfl) (.inl rfl) h
theorem LL{l:List Way}{x:Way}(h:l.length<4294967295):Prim.ev (.app false 3) [.l (l.map br),.l ([x].map br)]=some (.l ((l++[x]).map br)):=Ja (by simp;omega)
theorem ago{x:Way}:Prim.ev (.app false 3) [.l [],.l ([x].map br)]=some (.l ([x].map br)):=Jb (by simp)
theorem agp{l:List Way}{a:Int}(h:0<=a)(h':a<=l.length):Prim.ev (.sub 3 true false) [.l (l.map br),ii a]=some (.l ((l.drop a.toNat).map br)):=BA (enc:=br) (w:=3) (λ_=>rfl) h h'
theorem agq{l:List Way}{a:Int}(h:0<=a)(h':a<=l.length):Prim.ev (.sub 3 false true) [.l (l.map br),ii a]=some (.l ((l.take a.toNat).map br)):=BB (enc:=br) (w:=3) (λ_=>rfl) h h'
theorem ags(v0:Int)(v1:Int)(v2:List Int):Prim.ev (.lit 3 [true,true,false]) [ii v0,ii v1,.l (v2.map aD)]=some (.l ([(⟨v0,v1,v2⟩:Way)].map br)):=q0 (by decide) rfl rfl
theorem agt(v0:Int)(v1:Int)(v2:List Int):Prim.ev (.lit 3 []) [ii v0,ii v1,.l (v2.map aD)]=some (.l ([(⟨v0,v1,v2⟩:Way)].map br)):=q0 (by decide) rfl rfl
theorem agu(x:Way):(⟨x.to,x.cost,x.aF⟩:Way)=x:=rfl
structure ef where
 rY:Bool
 to:Int
 kind:Int
 cost:Int
 eY:Int
 aF:List Int
 deriving Inhabited
def j_(x:ef):List T:=[bb x.rY,ii x.to,ii x.kind,ii x.cost,ii x.eY,.l (x.aF.map aD)]
theorem agv{l:List ef}{n:Int}(h:0<=n)(h':n<l.length):Prim.ev (.cell 6 0) [.l (l.map j_),ii n]=some (bb (gt l n).rY):=gS h (db h h') rfl rfl
theorem agw{l:List ef}{n:Int}(h:0<=n)(h':n<l.length):Prim.ev (.aU 6 0) [.l (l.map j_),ii n]=some (bb (gt l n).rY):=ki h (db h h') rfl rfl rfl
theorem agx{l:List ef}{n:Int}(h:0<=n)(h':n<l.length):Prim.ev (.cell 6 1) [.l (l.map j_),ii n]=some (ii (gt l n).to):=gS h (db h h') rfl rfl
theorem agy{l:List ef}{n:Int}(h:0<=n)(h':n<l.length):Prim.ev (.aU 6 1) [.l (l.map j_),ii n]=some (ii (gt l n).to):=ki h (db h h') rfl rfl rfl
theorem agz{l:List ef}{n:Int}(h:0<=n)(h':n<l.length):Prim.ev (.cell 6 2) [.l (l.map j_),ii n]=some (ii (gt l n).kind):=gS h (db h h') rfl rfl
theorem agA{l:List ef}{n:Int}(h:0<=n)(h':n<l.length):Prim.ev (.aU 6 2) [.l (l.map j_),ii n]=some (ii (gt l n).kind):=ki h (db h h') rfl rfl rfl
theorem agB{l:List ef}{n:Int}(h:0<=n)(h':n<l.length):Prim.ev (.cell 6 3) [.l (l.map j_),ii n]=some (ii (gt l n).cost):=gS h (db h h') rfl rfl
theorem agC{l:List ef}{n:Int}(h:0<=n)(h':n<l.length):Prim.ev (.aU 6 3) [.l (l.map j_),ii n]=some (ii (gt l n).cost):=ki h (db h h') rfl rfl rfl
theorem agD{l:List ef}{n:Int}(h:0<=n)(h':n<l.length):Prim.ev (.cell 6 4) [.l (l.map j_),ii n]=some (ii (gt l n).eY):=gS h (db h h') rfl rfl
theorem agE{l:List ef}{n:Int}(h:0<=n)(h':n<l.length):Prim.ev (.aU 6 4) [.l (l.map j_),ii n]=some (ii (gt l n).eY):=ki h (db h h') rfl rfl rfl
theorem agF{l:List ef}{n:Int}(h:0<=n)(h':n<l.length):Prim.ev (.cell 6 5) [.l (l.map j_),ii n]=some (.l ((gt l n).aF.map aD)):=gS h (db h h') rfl rfl
theorem agG{l:List ef}{n:Int}(h:0<=n)(h':n<l.length):Prim.ev (.kh 6 5) [.l (l.map j_),ii n]=some (.l ((gt l n).aF.map aD)):=zb h (db h h') rfl rfl
theorem V5{l m:List ef}(h:l.length+m.length<4294967296):Prim.ev (.app false 6) [.l (l.map j_),.l (m.map j_)]=some (.l ((l++m).map j_)):=tC (w:=6) (λ_=>rfl) (.inl rfl) h
theorem V6{m:List ef}(h:m.length<4294967296):Prim.ev (.app false 6) [.l [],.l (m.map j_)]=some (.l (m.map j_)):=uZ (w:=6) (λ_=>rfl) (.inl rfl) h
theorem agH{l:List ef}{x:ef}(h:l.length<4294967295):Prim.ev (.app false 6) [.l (l.map j_),.l ([x].map j_)]=some (.l ((l++[x]).map j_)):=V5 (by simp;omega)
theorem agI{x:ef}:Prim.ev (.app false 6) [.l [],.l ([x].map j_)]=some (.l ([x].map j_)):=V6 (by simp)
theorem agJ{l:List ef}{a:Int}(h:0<=a)(h':a<=l.length):Prim.ev (.sub 6 true false) [.l (l.map j_),ii a]=some (.l ((l.drop a.toNat).map j_)):=BA (enc:=j_) (w:=6) (λ_=>rfl) h h'
theorem agK{l:List ef}{a:Int}(h:0<=a)(h':a<=l.length):Prim.ev (.sub 6 false true) [.l (l.map j_),ii a]=some (.l ((l.take a.toNat).map j_)):=BB (enc:=j_) (w:=6) (λ_=>rfl) h h'
theorem agL(v0:Bool)(v1:Int)(v2:Int)(v3:Int)(v4:Int)(v5:List Int):Prim.ev (.lit 6 [true,true,true,true,true,false]) [bb v0,ii v1,ii v2,ii v3,ii v4,.l (v5.map aD)]=some (.l ([(⟨v0,v1,v2,v3,v4,v5⟩:ef)].map j_)):=q0 (by decide) rfl rfl
theorem agM(v0:Bool)(v1:Int)(v2:Int)(v3:Int)(v4:Int)(v5:List Int):Prim.ev (.lit 6 []) [bb v0,ii v1,ii v2,ii v3,ii v4,.l (v5.map aD)]=some (.l ([(⟨v0,v1,v2,v3,v4,v5⟩:ef)].map j_)):=q0 (by decide) rfl rfl
theorem agN(x:ef):(⟨x.rY,x.to,x.kind,x.cost,x.eY,x.aF⟩:ef)=x:=rfl
structure Self where
 id:Int
 aV:Int
 net:Net
 heard:List Int
 store:List ay
 deriving Inhabited
def iK(x:Self):List T:=[ii x.id,ii x.aV,ii x.net.n,.l (x.net.aA.map dm),.l (x.net.aN.map dM),.l (x.heard.map aD),.l (x.store.map aC)]
theorem agO{l:List Self}{n:Int}(h:0<=n)(h':n<l.length):Prim.ev (.cell 7 0) [.l (l.map iK),ii n]=some (ii (gt l n).id):=gS h (db h h') rfl rfl
theorem agP{l:List Self}{n:Int}(h:0<=n)(h':n<l.length):Prim.ev (.aU 7 0) [.l (l.map iK),ii n]=some (ii (gt l n).id):=ki h (db h h') rfl rfl rfl
theorem agQ{l:List Self}{n:Int}(h:0<=n)(h':n<l.length):Prim.ev (.cell 7 1) [.l (l.map iK),ii n]=some (ii (gt l n).aV):=gS h (db h h') rfl rfl
theorem agR{l:List Self}{n:Int}(h:0<=n)(h':n<l.length):Prim.ev (.aU 7 1) [.l (l.map iK),ii n]=some (ii (gt l n).aV):=ki h (db h h') rfl rfl rfl
theorem agS{l:List Self}{n:Int}(h:0<=n)(h':n<l.length):Prim.ev (.cell 7 2) [.l (l.map iK),ii n]=some (ii (gt l n).net.n):=gS h (db h h') rfl rfl
theorem agT{l:List Self}{n:Int}(h:0<=n)(h':n<l.length):Prim.ev (.aU 7 2) [.l (l.map iK),ii n]=some (ii (gt l n).net.n):=ki h (db h h') rfl rfl rfl
theorem agU{l:List Self}{n:Int}(h:0<=n)(h':n<l.length):Prim.ev (.cell 7 3) [.l (l.map iK),ii n]=some (.l ((gt l n).net.aA.map dm)):=gS h (db h h') rfl rfl
theorem agV{l:List Self}{n:Int}(h:0<=n)(h':n<l.length):Prim.ev (.kh 7 3) [.l (l.map iK),ii n]=some (.l ((gt l n).net.aA.map dm)):=zb h (db h h') rfl rfl
theorem agW{l:List Self}{n:Int}(h:0<=n)(h':n<l.length):Prim.ev (.cell 7 4) [.l (l.map iK),ii n]=some (.l ((gt l n).net.aN.map dM)):=gS h (db h h') rfl rfl
theorem agX{l:List Self}{n:Int}(h:0<=n)(h':n<l.length):Prim.ev (.kh 7 4) [.l (l.map iK),ii n]=some (.l ((gt l n).net.aN.map dM)):=zb h (db h h') rfl rfl
theorem agY{l:List Self}{n:Int}(h:0<=n)(h':n<l.length):Prim.ev (.cell 7 5) [.l (l.map iK),ii n]=some (.l ((gt l n).heard.map aD)):=gS h (db h h') rfl rfl
theorem agZ{l:List Self}{n:Int}(h:0<=n)(h':n<l.length):Prim.ev (.kh 7 5) [.l (l.map iK),ii n]=some (.l ((gt l n).heard.map aD)):=zb h (db h h') rfl rfl
theorem ag1{l:List Self}{n:Int}(h:0<=n)(h':n<l.length):Prim.ev (.cell 7 6) [.l (l.map iK),ii n]=some (.l ((gt l n).store.map aC)):=gS h (db h h') rfl rfl
theorem ag2{l:List Self}{n:Int}(h:0<=n)(h':n<l.length):Prim.ev (.kh 7 6) [.l (l.map iK),ii n]=some (.l ((gt l n).store.map aC)):=zb h (db h h') rfl rfl
theorem V7{l m:List Self}(h:l.length+m.length<4294967296):Prim.ev (.app false 7) [.l (l.map iK),.l (m.map iK)]=some (.l ((l++m).map iK)):=tC (w:=7) (λ_=>rfl) (.inl rfl) h
theorem V8{m:List Self}(h:m.length<4294967296):Prim.ev (.app false 7) [.l [],.l (m.map iK)]=some (.l (m.map iK)):=uZ (w:=7) (λ_=>rfl) (.inl rfl) h
theorem ag3{l:List Self}{x:Self}(h:l.length<4294967295):Prim.ev (.app false 7) [.l (l.map iK),.l ([x].map iK)]=some (.l ((l++[x]).map iK)):=V7 (by simp;omega)
theorem ag4{x:Self}:Prim.ev (.app false 7) [.l [],.l ([x].map iK)]=some (.l ([x].map iK)):=V8 (by simp)
theorem ag5{l:List Self}{a:Int}(h:0<=a)(h':a<=l.length):Prim.ev (.sub 7 true false) [.l (l.map iK),ii a]=some (.l ((l.drop a.toNat).map iK)):=BA (enc:=iK) (w:=7) (λ_=>rfl) h h'
theorem ag6{l:List Self}{a:Int}(h:0<=a)(h':a<=l.length):Prim.ev (.sub 7 false true) [.l (l.map iK),ii a]=some (.l ((l.take a.toNat).map iK)):=BB (enc:=iK) (w:=7) (λ_=>rfl) h h'
theorem ag7(v0:Int)(v1:Int)(v2:Int)(v3:List bC)(v4:List bP)(v5:List Int)(v6:List ay):Prim.ev (.lit 7 [true,true,true,false,false,false,false]) [ii v0,ii v1,ii v2,.l (v3.map dm),.l (v4.map dM),.l (v5.map aD),.l (v6.map aC)]=some (.l ([(⟨v0,v1,⟨v2,v3,v4⟩,v5,v6⟩:Self)].map iK)):=q0 (by decide) rfl rfl
theorem ag8(v0:Int)(v1:Int)(v2:Int)(v3:List bC)(v4:List bP)(v5:List Int)(v6:List ay):Prim.ev (.lit 7 []) [ii v0,ii v1,ii v2,.l (v3.map dm),.l (v4.map dM),.l (v5.map aD),.l (v6.map aC)]=some (.l ([(⟨v0,v1,⟨v2,v3,v4⟩,v5,v6⟩:Self)].map iK)):=q0 (by decide) rfl rfl
theorem ag9(x:Self):(⟨x.id,x.aV,⟨x.net.n,x.net.aA,x.net.aN⟩,x.heard,x.store⟩:Self)=x:=rfl
structure eE where
 node:Int
 ae:Int
 left:Int
 both:Bool
 deriving Inhabited
def bR(x:eE):List T:=[ii x.node,ii x.ae,ii x.left,bb x.both]
theorem ag_{l:List eE}{n:Int}(h:0<=n)(h':n<l.length):Prim.ev (.cell 4 0) [.l (l.map bR),ii n]=some (ii (gt l n).node):=gS h (db h h') rfl rfl
theorem aha{l:List eE}{n:Int}(h:0<=n)(h':n<l.length):Prim.ev (.aU 4 0) [.l (l.map bR),ii n]=some (ii (gt l n).node):=ki h (db h h') rfl rfl rfl
theorem ahb{l:List eE}{n:Int}(h:0<=n)(h':n<l.length):Prim.ev (.cell 4 1) [.l (l.map bR),ii n]=some (ii (gt l n).ae):=gS h (db h h') rfl rfl
theorem ahc{l:List eE}{n:Int}(h:0<=n)(h':n<l.length):Prim.ev (.aU 4 1) [.l (l.map bR),ii n]=some (ii (gt l n).ae):=ki h (db h h') rfl rfl rfl
theorem ahd{l:List eE}{n:Int}(h:0<=n)(h':n<l.length):Prim.ev (.cell 4 2) [.l (l.map bR),ii n]=some (ii (gt l n).left):=gS h (db h h') rfl rfl
theorem ahe{l:List eE}{n:Int}(h:0<=n)(h':n<l.length):Prim.ev (.aU 4 2) [.l (l.map bR),ii n]=some (ii (gt l n).left):=ki h (db h h') rfl rfl rfl
theorem ahf{l:List eE}{n:Int}(h:0<=n)(h':n<l.length):Prim.ev (.cell 4 3) [.l (l.map bR),ii n]=some (bb (gt l n).both):=gS h (db h h') rfl rfl
theorem ahg{l:List eE}{n:Int}(h:0<=n)(h':n<l.length):Prim.ev (.aU 4 3) [.l (l.map bR),ii n]=some (bb (gt l n).both):=ki h (db h h') rfl rfl rfl
theorem V9{l m:List eE}(h:l.length+m.length<4294967296):Prim.ev (.app false 4) [.l (l.map bR),.l (m.map bR)]=some (.l ((l++m).map bR)):=tC (w:=4) (λ_=>rfl) (.inl rfl) h
theorem V_{m:List eE}(h:m.length<4294967296):Prim.ev (.app false 4) [.l [],.l (m.map bR)]=some (.l (m.map bR)):=uZ (w:=4) (λ_=>rfl) (.inl rfl) h
theorem V'{l m:List eE}(h:l.length+m.length<4294967296):Prim.ev (.app true 4) [.l (l.map bR),.l (m.map bR)]=some (.l ((l++m).map bR)):=tC (w:=4) (λ_=>rfl) (.inr λ_=>rfl) h
theorem Wa{m:List eE}(h:m.length<4294967296):Prim.ev (.app true 4) [.l [],.l (m.map bR)]=some (.l (m.map bR)):=uZ (w:=4) (λ_=>rfl) (.inr λ_=>rfl) h
theorem ahh{l:List eE}{x:eE}(h:l.length<4294967295):Prim.ev (.app false 4) [.l (l.map bR),.l ([x].map bR)]=some (.l ((l++[x]).map bR)):=V9 (by simp;omega)
theorem ahi{x:eE}:Prim.ev (.app false 4) [.l [],.l ([x].map bR)]=some (.l ([x].map bR)):=V_ (by simp)
theorem ahj{l:List eE}{x:eE}(h:l.length<4294967295):Prim.ev (.app true 4) [.l (l.map bR),.l ([x].map bR)]=some (.l ((l++[x]).map bR)):=V' (by simp;omega)
theorem ahk{x:eE}:Prim.ev (.app true 4) [.l [],.l ([x].map bR)]=some (.l ([x].map bR)):=Wa (by simp)
theorem ahl{l:List eE}{a:Int}(h:0<=a)(h':a<=l.length):Prim.ev (.sub 4 true false) [.l (l.map bR),ii a]=some (.l ((l.drop a.toNat).map bR)):=BA (enc:=bR) (w:=4) (λ_=>rfl) h h'
theorem ahm{l:List eE}{a:Int}(h:0<=a)(h':a<=l.length):Prim.ev (.sub 4 false true) [.l (l.map bR),ii a]=some (.l ((l.take a.toNat).map bR)):=BB (enc:=bR) (w:=4) (λ_=>rfl) h h'
theorem ahn(v0:Int)(v1:Int)(v2:Int)(v3:Bool):Prim.ev (.lit 4 [true,true,true,true]) [ii v0,ii v1,ii v2,bb v3]=some (.l ([(⟨v0,v1,v2,v3⟩:eE)].map bR)):=q0 (by decide) rfl rfl
theorem aho(v0:Int)(v1:Int)(v2:Int)(v3:Bool):Prim.ev (.lit 4 []) [ii v0,ii v1,ii v2,bb v3]=some (.l ([(⟨v0,v1,v2,v3⟩:eE)].map bR)):=q0 (by decide) rfl rfl
theorem ahp(x:eE):(⟨x.node,x.ae,x.left,x.both⟩:eE)=x:=rfl
structure Node where
 self:Self
 eW:List eE
 deriving Inhabited
def jv(x:Node):List T:=[ii x.self.id,ii x.self.aV,ii x.self.net.n,.l (x.self.net.aA.map dm),.l (x.self.net.aN.map dM),.l (x.self.heard.map aD),.l (x.self.store.map aC),.l (x.eW.map bR)]
theorem ahq{l:List Node}{n:Int}(h:0<=n)(h':n<l.length):Prim.ev (.cell 8 0) [.l (l.map jv),ii n]=some (ii (gt l n).self.id):=gS h (db h h') rfl rfl
theorem ahr{l:List Node}{n:Int}(h:0<=n)(h':n<l.length):Prim.ev (.aU 8 0) [.l (l.map jv),ii n]=some (ii (gt l n).self.id):=ki h (db h h') rfl rfl rfl
theorem ahs{l:List Node}{n:Int}(h:0<=n)(h':n<l.length):Prim.ev (.cell 8 1) [.l (l.map jv),ii n]=some (ii (gt l n).self.aV):=gS h (db h h') rfl rfl
theorem aht{l:List Node}{n:Int}(h:0<=n)(h':n<l.length):Prim.ev (.aU 8 1) [.l (l.map jv),ii n]=some (ii (gt l n).self.aV):=ki h (db h h') rfl rfl rfl
theorem ahu{l:List Node}{n:Int}(h:0<=n)(h':n<l.length):Prim.ev (.cell 8 2) [.l (l.map jv),ii n]=some (ii (gt l n).self.net.n):=gS h (db h h') rfl rfl
theorem ahv{l:List Node}{n:Int}(h:0<=n)(h':n<l.length):Prim.ev (.aU 8 2) [.l (l.map jv),ii n]=some (ii (gt l n).self.net.n):=ki h (db h h') rfl rfl rfl
theorem ahw{l:List Node}{n:Int}(h:0<=n)(h':n<l.length):Prim.ev (.cell 8 3) [.l (l.map jv),ii n]=some (.l ((gt l n).self.net.aA.map dm)):=gS h (db h h') rfl rfl
theorem ahx{l:List Node}{n:Int}(h:0<=n)(h':n<l.length):Prim.ev (.kh 8 3) [.l (l.map jv),ii n]=some (.l ((gt l n).self.net.aA.map dm)):=zb h (db h h') rfl rfl
theorem ahy{l:List Node}{n:Int}(h:0<=n)(h':n<l.length):Prim.ev (.cell 8 4) [.l (l.map jv),ii n]=some (.l ((gt l n).self.net.aN.map dM)):=gS h (db h h') rfl rfl
theorem ahz{l:List Node}{n:Int}(h:0<=n)(h':n<l.length):Prim.ev (.kh 8 4) [.l (l.map jv),ii n]=some (.l ((gt l n).self.net.aN.map dM)):=zb h (db h h') rfl rfl
theorem ahA{l:List Node}{n:Int}(h:0<=n)(h':n<l.length):Prim.ev (.cell 8 5) [.l (l.map jv),ii n]=some (.l ((gt l n).self.heard.map aD)):=gS h (db h h') rfl rfl
theorem ahB{l:List Node}{n:Int}(h:0<=n)(h':n<l.length):Prim.ev (.kh 8 5) [.l (l.map jv),ii n]=some (.l ((gt l n).self.heard.map aD)):=zb h (db h h') rfl rfl
theorem ahC{l:List Node}{n:Int}(h:0<=n)(h':n<l.length):Prim.ev (.cell 8 6) [.l (l.map jv),ii n]=some (.l ((gt l n).self.store.map aC)):=gS h (db h h') rfl rfl
theorem ahD{l:List Node}{n:Int}(h:0<=n)(h':n<l.length):Prim.ev (.kh 8 6) [.l (l.map jv),ii n]=some (.l ((gt l n).self.store.map aC)):=zb h (db h h') rfl rfl
theorem ahE{l:List Node}{n:Int}(h:0<=n)(h':n<l.length):Prim.ev (.cell 8 7) [.l (l.map jv),ii n]=some (.l ((gt l n).eW.map bR)):=gS h (db h h') rfl rfl
theorem ahF{l:List Node}{n:Int}(h:0<=n)(h':n<l.length):Prim.ev (.kh 8 7) [.l (l.map jv),ii n]=some (.l ((gt l n).eW.map bR)):=zb h (db h h') rfl rfl
theorem Wb{l m:List Node}(h:l.length+m.length<4294967296):Prim.ev (.app false 8) [.l (l.map jv),.l (m.map jv)]=some (.l ((l++m).map jv)):=tC (w:=8) (λ_=>rfl) (.inl rfl) h
theorem Wc{m:List Node}(h:m.length<4294967296):Prim.ev (.app false 8) [.l [],.l (m.map jv)]=some (.l (m.map jv)):=uZ (w:=8) (λ_=>rfl) (.inl rfl) h
theorem ahG{l:List Node}{x:Node}(h:l.length<4294967295):Prim.ev (.app false 8) [.l (l.map jv),.l ([x].map jv)]=some (.l ((l++[x]).map jv)):=Wb (by simp;omega)
theorem ahH{x:Node}:Prim.ev (.app false 8) [.l [],.l ([x].map jv)]=some (.l ([x].map jv)):=Wc (by simp)
theorem ahI{l:List Node}{a:Int}(h:0<=a)(h':a<=l.length):Prim.ev (.sub 8 true false) [.l (l.map jv),ii a]=some (.l ((l.drop a.toNat).map jv)):=BA (enc:=jv) (w:=8) (λ_=>rfl) h h'
theorem ahJ{l:List Node}{a:Int}(h:0<=a)(h':a<=l.length):Prim.ev (.sub 8 false true) [.l (l.map jv),ii a]=some (.l ((l.take a.toNat).map jv)):=BB (enc:=jv) (w:=8) (λ_=>rfl) h h'
theorem ahK(v0:Int)(v1:Int)(v2:Int)(v3:List bC)(v4:List bP)(v5:List Int)(v6:List ay)(v7:List eE):Prim.ev (.lit 8 [true,true,true,false,false,false,false,false]) [ii v0,ii v1,ii v2,.l (v3.map dm),.l (v4.map dM),.l (v5.map aD),.l (v6.map aC),.l (v7.map bR)]=some (.l ([(⟨⟨v0,v1,⟨v2,v3,v4⟩,v5,v6⟩,v7⟩:Node)].map jv)):=q0 (by decide) rfl rfl
theorem ahL(v0:Int)(v1:Int)(v2:Int)(v3:List bC)(v4:List bP)(v5:List Int)(v6:List ay)(v7:List eE):Prim.ev (.lit 8 []) [ii v0,ii v1,ii v2,.l (v3.map dm),.l (v4.map dM),.l (v5.map aD),.l (v6.map aC),.l (v7.map bR)]=some (.l ([(⟨⟨v0,v1,⟨v2,v3,v4⟩,v5,v6⟩,v7⟩:Node)].map jv)):=q0 (by decide) rfl rfl
theorem ahM(x:Node):(⟨⟨x.self.id,x.self.aV,⟨x.self.net.n,x.self.net.aA,x.self.net.aN⟩,x.self.heard,x.self.store⟩,x.eW⟩:Node)=x:=rfl
structure b_ where
 kind:Int
 BC:Int
 to:Int
 ae:Int
 heard:List Int
 list:List ay
 deriving Inhabited
def j4(x:b_):List T:=[ii x.kind,ii x.BC,ii x.to,ii x.ae,.l (x.heard.map aD),.l (x.list.map aC)]
theorem ahN{l:List b_}{n:Int}(h:0<=n)(h':n<l.length):Prim.ev (.cell 6 0) [.l (l.map j4),ii n]=some (ii (gt l n).kind):=gS h (db h h') rfl rfl
theorem ahO{l:List b_}{n:Int}(h:0<=n)(h':n<l.length):Prim.ev (.aU 6 0) [.l (l.map j4),ii n]=some (ii (gt l n).kind):=ki h (db h h') rfl rfl rfl
theorem ahP{l:List b_}{n:Int}(h:0<=n)(h':n<l.length):Prim.ev (.cell 6 1) [.l (l.map j4),ii n]=some (ii (gt l n).BC):=gS h (db h h') rfl rfl
theorem ahQ{l:List b_}{n:Int}(h:0<=n)(h':n<l.length):Prim.ev (.aU 6 1) [.l (l.map j4),ii n]=some (ii (gt l n).BC):=ki h (db h h') rfl rfl rfl
theorem ahR{l:List b_}{n:Int}(h:0<=n)(h':n<l.length):Prim.ev (.cell 6 2) [.l (l.map j4),ii n]=some (ii (gt l n).to):=gS h (db h h') rfl rfl
theorem ahS{l:List b_}{n:Int}(h:0<=n)(h':n<l.length):Prim.ev (.aU 6 2) [.l (l.map j4),ii n]=some (ii (gt l n).to):=ki h (db h h') rfl rfl rfl
theorem ahT{l:List b_}{n:Int}(h:0<=n)(h':n<l.length):Prim.ev (.cell 6 3) [.l (l.map j4),ii n]=some (ii (gt l n).ae):=gS h (db h h') rfl rfl
theorem ahU{l:List b_}{n:Int}(h:0<=n)(h':n<l.length):Prim.ev (.aU 6 3) [.l (l.map j4),ii n]=some (ii (gt l n).ae):=ki h (db h h') rfl rfl rfl
theorem ahV{l:List b_}{n:Int}(h:0<=n)(h':n<l.length):Prim.ev (.cell 6 4) [.l (l.map j4),ii n]=some (.l ((gt l n).heard.map aD)):=gS h (db h h') rfl rfl
theorem ahW{l:List b_}{n:Int}(h:0<=n)(h':n<l.length):Prim.ev (.kh 6 4) [.l (l.map j4),ii n]=some (.l ((gt l n).heard.map aD)):=zb h (db h h') rfl rfl
theorem ahX{l:List b_}{n:Int}(h:0<=n)(h':n<l.length):Prim.ev (.cell 6 5) [.l (l.map j4),ii n]=some (.l ((gt l n).list.map aC)):=gS h (db h h') rfl rfl
theorem ahY{l:List b_}{n:Int}(h:0<=n)(h':n<l.length):Prim.ev (.kh 6 5) [.l (l.map j4),ii n]=some (.l ((gt l n).list.map aC)):=zb h (db h h') rfl rfl
theorem qM_{l m:List b_}(h:l.length+m.length<4294967296):Prim.ev (.app false 6) [.l (l.map j4),.l (m.map j4)]=some (.l ((l++m).map j4)):=tC (w:=6) (λ_=>rfl) (.inl rfl) h
theorem Wd{m:List b_}(h:m.length<4294967296):Prim.ev (.app false 6) [.l [],.l (m.map j4)]=some (.l (m.map j4)):=uZ (w:=6) (λ_=>rfl) (.inl rfl) h
theorem ahZ{l:List b_}{x:b_}(h:l.length<4294967295):Prim.ev (.app false 6) [.l (l.map j4),.l ([x].map j4)]=some (.l ((l++[x]).map j4)):=qM_ (by simp;omega)
theorem ah0{x:b_}:Prim.ev (.app false 6) [.l [],.l ([x].map j4)]=some (.l ([x].map j4)):=Wd (by simp)
theorem ah1{l:List b_}{a:Int}(h:0<=a)(h':a<=l.length):Prim.ev (.sub 6 true false) [.l (l.map j4),ii a]=some (.l ((l.drop a.toNat).map j4)):=BA (enc:=j4) (w:=6) (λ_=>rfl) h h'
theorem ah2{l:List b_}{a:Int}(h:0<=a)(h':a<=l.length):Prim.ev (.sub 6 false true) [.l (l.map j4),ii a]=some (.l ((l.take a.toNat).map j4)):=BB (enc:=j4) (w:=6) (λ_=>rfl) h h'
theorem ah3(v0:Int)(v1:Int)(v2:Int)(v3:Int)(v4:List Int)(v5:List ay):Prim.ev (.lit 6 [true,true,true,true,false,false]) [ii v0,ii v1,ii v2,ii v3,.l (v4.map aD),.l (v5.map aC)]=some (.l ([(⟨v0,v1,v2,v3,v4,v5⟩:b_)].map j4)):=q0 (by decide) rfl rfl
theorem LM(v0:Int)(v1:Int)(v2:Int)(v3:Int)(v4:List Int)(v5:List ay):Prim.ev (.lit 6 []) [ii v0,ii v1,ii v2,ii v3,.l (v4.map aD),.l (v5.map aC)]=some (.l ([(⟨v0,v1,v2,v3,v4,v5⟩:b_)].map j4)):=q0 (by decide) rfl rfl
theorem ah4(x:b_):(⟨x.kind,x.BC,x.to,x.ae,x.heard,x.list⟩:b_)=x:=rfl
structure ah5 where
 rY:Bool
 to:Int
 aF:List Int
 deriving Inhabited
structure atH where
 gone:Bool
 line:ah5
 deriving Inhabited
structure World where
 net:Net
 aA:List Bool
 up:List Bool
 asd:List Int
 nodes:List Node
 ah6:List b_
 told:List ay
 errors:Int
 deriving Inhabited
set_option linter.unusedSimpArgs false
set_option linter.defProp false
theorem pz:(∀p:Prop,(p∨p)=p)∧(∀p:Prop,(p∨True)=True)∧(∀p:Prop,(True∨p)=True)∧(∀p:Prop,(p∨False)=p)∧(∀p:Prop,(False∨p)=p)∧(¬True)=False∧(¬False)=True∧(∀a:Int,(a<a)=False):=
 ⟨or_self,or_true,true_or,or_false,false_or,not_true_eq_false,not_false_eq_true,λa=>eq_false (Int.lt_irrefl a)⟩
@[congr] theorem atI {α β:Type} {F:(α->Option β)->α->Option β} {R:Nat} {x y:α} (h:x=y):iter F R x=iter F R y:=by rw[h]
@[congr] theorem atJ {α β:Type} {o o':Option α} {f:α->Option β} (h:o=o'):o.bind f=o'.bind f:=by rw[h]
@[congr] theorem atK {t t':T} {x y:Option (List T)} (h:t=t'):az t x y=az t' x y:=by rw[h]
@[congr] theorem atL {k:aB} {b:aB->Option (List T)}:jn k b=jn k b:=rfl
@[congr] theorem atM {o o':Option (List T)} {k:T->Option (List T)} (h:o=o'):bm o k=bm o' k:=by rw[h]
@[congr] theorem atN {k:T->Option (List T)} {l l':List T} (h:l=l'):dJ k l=dJ k l':=by rw[h]
@[congr] theorem atO {o o':Option (List T)} {k:T->T->Option (List T)} (h:o=o'):Qj o k=Qj o' k:=by rw[h]
@[congr] theorem atP {k:T->T->Option (List T)} {l l':List T} (h:l=l'):dv k l=dv k l':=by rw[h]
@[congr] theorem atQ {o o':Option (List T)} {k:T->T->T->Option (List T)} (h:o=o'):nf o k=nf o' k:=by rw[h]
@[congr] theorem atS {k:T->T->T->Option (List T)} {l l':List T} (h:l=l'):sU k l=sU k l':=by rw[h]
@[congr] theorem atT {o o':Option (List T)} {k:T->T->T->T->Option (List T)} (h:o=o'):eC o k=eC o' k:=by rw[h]
@[congr] theorem atU {k:T->T->T->T->Option (List T)} {l l':List T} (h:l=l'):xU k l=xU k l':=by rw[h]
@[congr] theorem atV {k:T->T->T->T->T->Option (List T)} {l l':List T} (h:l=l'):ry k l=ry k l':=by rw[h]
@[congr] theorem atW {o o':Option (List T)} {k:T->T->T->T->T->T->Option (List T)} (h:o=o'):Qk o k=Qk o' k:=by rw[h]
@[congr] theorem atX {k:T->T->T->T->T->T->Option (List T)} {l l':List T} (h:l=l'):Vs k l=Vs k l':=by rw[h]
@[congr] theorem atY {o o':Option (List T)} {k:T->T->T->T->T->T->T->Option (List T)} (h:o=o'):EM o k=EM o' k:=by rw[h]
@[congr] theorem atZ {k:T->T->T->T->T->T->T->Option (List T)} {l l':List T} (h:l=l'):I9 k l=I9 k l':=by rw[h]
@[congr] theorem at0 {o o':Option (List T)} {k:T->T->T->T->T->T->T->T->Option (List T)} (h:o=o'):q7 o k=q7 o' k:=by rw[h]
@[congr] theorem at1 {k:T->T->T->T->T->T->T->T->Option (List T)} {l l':List T} (h:l=l'):Qr k l=Qr k l':=by rw[h]
@[congr] theorem at3 {o o':Option (List T)} {k:T->T->T->T->T->T->T->T->T->Option (List T)} (h:o=o'):wc o k=wc o' k:=by rw[h]
@[congr] theorem at4 {k:T->T->T->T->T->T->T->T->T->Option (List T)} {l l':List T} (h:l=l'):Vw k l=Vw k l':=by rw[h]
@[congr] theorem at5 {o o':Option (List T)} {k:T->T->T->T->T->T->T->T->T->T->Option (List T)} (h:o=o'):Gw o k=Gw o' k:=by rw[h]
@[congr] theorem at6 {k:T->T->T->T->T->T->T->T->T->T->Option (List T)} {l l':List T} (h:l=l'):Ds k l=Ds k l':=by rw[h]
@[congr] theorem at7 {o o':Option (List T)} {k:T->T->T->T->T->T->T->T->T->T->T->Option (List T)} (h:o=o'):uq o k=uq o' k:=by rw[h]
@[congr] theorem aua {k:T->T->T->T->T->T->T->T->T->T->T->Option (List T)} {l l':List T} (h:l=l'):Gx k l=Gx k l':=by rw[h]
@[congr] theorem aub {o o':Option (List T)} {k:T->T->T->T->T->T->T->T->T->T->T->T->T->T->Option (List T)} (h:o=o'):Aq o k=Aq o' k:=by rw[h]
@[congr] theorem auc {k:T->T->T->T->T->T->T->T->T->T->T->T->T->T->Option (List T)} {l l':List T} (h:l=l'):Du k l=Du k l':=by rw[h]
theorem We(b:Bool)(x y:Option (List T)):az (bb b) x y=if b=true then x else y:=by cases b<;>rfl
theorem ah7:Prim.ev .len [.l []]=some (ii 0):=rfl
theorem ah8(a b:Int)(h:b≠0):Prim.ev (.bin .rem) [ii a,ii b]=some (ii (a.tmod b)):=by
 simp only[Prim.ev,T.val,jP,Option.bind_some,if_true,h,if_false]
theorem ah9(a b:Int):Prim.ev .mx [ii a,ii b]=some (ii (if b>a then b else a)):=rfl
theorem ah_(a b:Int):Prim.ev .mn [ii a,ii b]=some (ii (if b<a then b else a)):=rfl
theorem ah'(a b c d a' b' c' d':Int):Prim.ev (.eqs [1,1,1,1]) [ii a,ii b,ii c,ii d,ii a',ii b',ii c',ii d']=some (bb (a==a'&&(b==b'&&(c==c'&&(d==d'))))):=by
 simp[Prim.ev,yJ,PW]
theorem aia(a b c a' b' c':Int)(d d':Bool):Prim.ev (.eqs [1,1,1,4]) [ii a,ii b,ii c,bb d,ii a',ii b',ii c',bb d']=some (bb (a==a'&&(b==b'&&(c==c'&&(d==d'))))):=by
 simp[Prim.ev,yJ,PW]
theorem aib{w:Nat}(h:0<w):Prim.ev (.lit w []) []=some (.l []):=by
 simp[Prim.ev,sM,pF,h]
theorem aic(a b:Int):Prim.ev (.lit 1 [true,true]) [ii a,ii b]=some (.l ([a,b].map aD)):=by simp[Prim.ev,sM,pF,dX,aD]
theorem aid(a b:Int):Prim.ev (.lit 1 []) [ii a,ii b]=some (.l ([a,b].map aD)):=by simp[Prim.ev,sM,pF,aD]
theorem Wf{l:List Int}{x y:Int}(h:l.length<4294967294):Prim.ev (.app true 1) [.l (l.map aD),.l ([x,y].map aD)]=some (.l ((l++[x,y]).map aD)):=xW (by simp;omega)
theorem aie(a b:Int):((a==b)=true)=(a=b):=by simp
theorem aif(a b:Int):((a !=b)=true)=¬(a=b):=by simp
theorem aih(b:Bool):((!b)=true)=¬(b=true):=by simp
theorem aii(a b:Bool):((a !=b)=true)=¬((a=true)=(b=true)):=by cases a<;>cases b<;>simp
theorem aij(a b:Bool):((a==b)=true)=((a=true)=(b=true)):=by cases a<;>cases b<;>simp
theorem tD(n:Nat):((n+1:Nat):Int)=(n:Int)+1:=by simp
theorem LN(a b:Nat):((a+b:Nat):Int)=(a:Int)+b:=by simp
theorem LO:((1:Nat):Int)=1:=rfl
theorem aik:((2:Nat):Int)=2:=rfl
theorem ail:((3:Nat):Int)=3:=rfl
theorem aim:((5:Nat):Int)=5:=rfl
theorem ain:((6:Nat):Int)=6:=rfl
theorem aio:((7:Nat):Int)=7:=rfl
theorem aip:((9:Nat):Int)=9:=rfl
theorem LP:((0:Nat):Int)=0:=rfl
theorem As{α:Type}{p q:Prop} [Decidable p] [Decidable q](h:p↔q)(x y:α):(if p then x else y)=if q then x else y:=by
 by_cases hq:q
 ·rw[if_pos (h.2 hq),if_pos hq]
 ·rw[if_neg (λhp=>hq (h.1 hp)),if_neg hq]
def o7(n:Nat)(p:Nat->Bool):Bool:=(List.range n).all p
theorem ca{n:Nat}{p:Nat->Bool}:o7 n p=true↔∀i,i<n->p i=true:=by
 simp[o7]
theorem Dw{β σ:Type}{F:(σ->Option β)->σ->Option β}(n:Nat)(st:Nat->σ)(p:Nat->Bool){jx gT:Option β}
  (step:∀i:Nat,(i:Int)<(n:Int)->∀s,F s (st i)=if p i=true then s (st (i+1))else gT)(fin:∀s,F s (st n)=jx){R:Nat}(hR:n<R):
  iter F R (st 0)=if o7 n p=true then jx else gT:=by
 classical
 have:∀(d i:Nat),i+d=n->∀R,d<R->iter F R (st i)=if(∀j,i<=j->j<n->p j=true)then jx else gT:=by
  intro d
  induction d with
  |zero=>
   intro i hi R hR
   cases R with
   |zero=>omega
   |succ R=>
    have hi:i=n:=hi
    subst hi
    rw[if_pos (λj h1 h2=>absurd h1 (by omega))]
    exact fin _
  |succ d ih=>
   intro i hi R hR
   cases R with
   |zero=>omega
   |succ R=>
    unfold iter
    rw[step i (by omega)]
    by_cases hp:p i=true
    ·rw[if_pos hp,ih (i+1) (by omega) R (by omega)]
     refine As ⟨λh j h1 h2=>?_,λh j h1 h2=>h j (by omega) h2⟩ _ _
     rcases Nat.lt_or_ge i j with h3|h3
     ·exact h j h3 h2
     ·have:j=i:=by omega
      subst this;exact hp
    ·rw[if_neg hp,if_neg λh=>hp (h i (Nat.le_refl i) (by omega))]
 rw[this n 0 (by omega) R hR]
 exact As ⟨λh=>ca.2 λi hi=>h i (Nat.zero_le i) hi,λh j _ h2=>ca.1 h j h2⟩ _ _
def dz{α:Type}(p:α->Bool)(l:List α):Int:=match l.findIdx? p with|some i=>(i:Int)|none=>-1
theorem rz{α:Type}(p:α->Bool)(l:List α):dz p l<l.length:=by
 unfold dz
 cases h:l.findIdx? p with
 |none=>show(-1:Int)<_;omega
 |some i=>
  obtain⟨h1,_⟩:=List.findIdx?_eq_some_iff_getElem.1 h
  show(i:Int)<_;omega
theorem aiq{α:Type}(p:α->Bool)(l:List α):-1<=dz p l:=by
 unfold dz
 cases h:l.findIdx? p with
 |none=>show(-1:Int)<=-1;omega
 |some i=>show(-1:Int)<=(i:Int);omega
theorem tE{α:Type} [Inhabited α](p:α->Bool)(l:List α)(h:0<=dz p l):p (gt l (dz p l))=true:=by
 unfold dz at h⊢
 cases h':l.findIdx? p with
 |none=>rw[h']at h;exact absurd h (by decide)
 |some i=>
  obtain⟨h1,h2,_⟩:=List.findIdx?_eq_some_iff_getElem.1 h'
  show p (gt l (i:Int))=true
  rw[ed h1];exact h2
theorem EN{α:Type}(p:α->Bool)(l:List α):dz p l<0↔∀x∈l,p x=false:=by
 unfold dz
 cases h:l.findIdx? p with
 |none=>
  rw[List.findIdx?_eq_none_iff]at h
  exact⟨λ_=>h,λ_=>by show(-1:Int)<0;decide⟩
 |some i=>
  obtain⟨h1,h2,_⟩:=List.findIdx?_eq_some_iff_getElem.1 h
  refine⟨λh3=>absurd (show(i:Int)<0 from h3) (by omega),λh3=>?_⟩
  rw[h3 _ (List.getElem_mem h1)]at h2
  cases h2
theorem LQ{α β σ:Type} [Inhabited α]{F:(σ->Option β)->σ->Option β}(l:List α)(st:Nat->σ)(p:α->Bool)(ur:Int->Option β){mb:Option β}
  (step:∀i:Nat,(i:Int)<(l.length:Int)->∀s,F s (st i)=if p (gt l i)=true then ur i else s (st (i+1)))(fin:∀s,F s (st l.length)=mb){R:Nat}(hR:l.length<R):
  iter F R (st 0)=if dz p l<0 then mb else ur (dz p l):=by
 have:∀(d i:Nat),i+d=l.length->∀R,d<R->iter F R (st i)=(match(l.drop i).findIdx? p with|some k=>ur ((i+k:Nat):Int)|none=>mb):=by
  intro d
  induction d with
  |zero=>
   intro i hi R hR
   cases R with
   |zero=>omega
   |succ R=>
    rw[Nat.add_zero]at hi
    subst hi
    rw[List.drop_length]
    exact fin _
  |succ d ih=>
   intro i hi R hR
   cases R with
   |zero=>omega
   |succ R=>
    have bE:i<l.length:=by omega
    unfold iter
    rw[step i (by omega),List.drop_eq_getElem_cons bE,List.findIdx?_cons,ed bE]
    cases hp:p l[i]with
    |true=>simp
    |false=>
     simp only[cI,if_false]
     rw[ih (i+1) (by omega) R (by omega)]
     cases(l.drop (i+1)).findIdx? p with
     |none=>rfl
     |some k=>simp[Int.add_assoc,Int.add_comm 1]
 have h:=this l.length 0 (by omega) R hR
 rw[h,List.drop_zero]
 unfold dz
 cases l.findIdx? p with
 |none=>rfl
 |some i=>
  show ur ((0+i:Nat):Int)=if(i:Int)<0 then mb else ur (i:Int)
  rw[if_neg (by omega),Nat.zero_add]
theorem Wg{α γ β σ:Type} [Inhabited α]{F:(σ->Option β)->σ->Option β}(l:List α)(st:Nat->γ->σ)(g:γ->α->γ)(out:γ->Option β)(c:γ)(Inv:Nat->γ->Prop)(h0:Inv 0 c)
  (step:∀(i:Nat) c,(i:Int)<(l.length:Int)->Inv i c->Inv (i+1) (g c (gt l i))∧∀s,F s (st i c)=s (st (i+1) (g c (gt l i))))(fin:∀c s,Inv l.length c->F s (st l.length c)=out c){R:Nat}(hR:l.length<R):
  iter F R (st 0 c)=out (l.foldl g c):=by
 have:∀(d i:Nat) (c:γ),i+d=l.length->Inv i c->∀R,d<R->iter F R (st i c)=out ((l.drop i).foldl g c):=by
  intro d
  induction d with
  |zero=>
   intro i c hi hc R hR
   cases R with
   |zero=>omega
   |succ R=>
    rw[Nat.add_zero]at hi
    subst hi
    rw[List.drop_length]
    exact fin _ _ hc
  |succ d ih=>
   intro i c hi hc R hR
   cases R with
   |zero=>omega
   |succ R=>
    have bE:i<l.length:=by omega
    unfold iter
    obtain⟨h1,h2⟩:=step i c (by omega) hc
    rw[h2,List.drop_eq_getElem_cons bE,List.foldl_cons,ih (i+1) _ (by omega) h1 R (by omega),ed bE]
 have h:=this l.length 0 c (by omega) h0 R hR
 simpa using h
theorem air{γ β σ:Type}{F:(σ->Option β)->σ->Option β}(n:Nat)(st:Nat->γ->σ)(g:γ->Nat->γ)(out:γ->Option β)(c:γ)(Inv:Nat->γ->Prop)(h0:Inv 0 c)
  (step:∀(i:Nat) c,(i:Int)<(n:Int)->Inv i c->Inv (i+1) (g c i)∧∀s,F s (st i c)=s (st (i+1) (g c i)))(fin:∀c s,Inv n c->F s (st n c)=out c){R:Nat}(hR:n<R):
  iter F R (st 0 c)=out ((List.range n).foldl g c):=by
 have hl:(List.range n).length=n:=List.length_range
 refine Wg (List.range n) st g out c Inv h0 (λi c hi hc=>?_) (λc s hc=>?_) (by rw[hl];exact hR)
 ·rw[hl]at hi
  rw[ed (by rw[hl];omega),List.getElem_range]
  exact step i c hi hc
 ·rw[hl]at hc⊢
  exact fin c s hc
theorem GC{α β:Type}(p:α->Bool)(f:α->β)(l:List α)(acc:List β):l.foldl (λc a=>if p a=true then c++[f a]else c) acc=acc++(l.filter p).map f:=by
 induction l generalizing acc with
 |nil=>simp
 |cons a l ih=>
  rw[List.foldl_cons,ih]
  cases h:p a<;>simp[h,List.filter_cons]
theorem foldl_map{α β:Type}(f:α->β)(l:List α)(acc:List β):l.foldl (λc a=>c++[f a]) acc=acc++l.map f:=by
 induction l generalizing acc with
 |nil=>simp
 |cons a l ih=>rw[List.foldl_cons,ih];simp
theorem Au{β σ:Type}{F:(σ->Option β)->σ->Option β}{R:Nat}{x:σ}(n:Nat)(st:Nat->σ)(p:Nat->Bool){jx gT:Option β}(hx:x=st 0)(hR:n<R)
  (step:∀i:Nat,(i:Int)<(n:Int)->∀s,F s (st i)=if p i=true then s (st (i+1))else gT)(fin:∀s,F s (st n)=jx):
  iter F R x=if o7 n p=true then jx else gT:=by rw[hx];exact Dw n st p step fin hR
theorem Jc{α β σ:Type} [Inhabited α]{F:(σ->Option β)->σ->Option β}{R:Nat}{x:σ}(l:List α)(st:Nat->σ)(p:α->Bool)(ur:Int->Option β){mb:Option β}(hx:x=st 0)(hR:l.length<R)
  (step:∀i:Nat,(i:Int)<(l.length:Int)->∀s,F s (st i)=if p (gt l i)=true then ur i else s (st (i+1)))(fin:∀s,F s (st l.length)=mb):
  iter F R x=if dz p l<0 then mb else ur (dz p l):=by rw[hx];exact LQ l st p ur step fin hR
theorem g_{α γ β σ:Type} [Inhabited α]{F:(σ->Option β)->σ->Option β}{R:Nat}{x:σ}(l:List α)(st:Nat->γ->σ)(g:γ->α->γ)(out:γ->Option β)(c:γ)(Inv:Nat->γ->Prop)(hx:x=st 0 c)(hR:l.length<R)(h0:Inv 0 c)
  (step:∀(i:Nat) c,(i:Int)<(l.length:Int)->Inv i c->Inv (i+1) (g c (gt l i))∧∀s,F s (st i c)=s (st (i+1) (g c (gt l i))))(fin:∀c s,Inv l.length c->F s (st l.length c)=out c):
  iter F R x=out (l.foldl g c):=by rw[hx];exact Wg l st g out c Inv h0 step fin hR
theorem rZ{γ β σ:Type}{F:(σ->Option β)->σ->Option β}{R:Nat}{x:σ}(n:Nat)(st:Nat->γ->σ)(g:γ->Nat->γ)(out:γ->Option β)(c:γ)(Inv:Nat->γ->Prop)(hx:x=st 0 c)(hR:n<R)(h0:Inv 0 c)
  (step:∀(i:Nat) c,(i:Int)<(n:Int)->Inv i c->Inv (i+1) (g c i)∧∀s,F s (st i c)=s (st (i+1) (g c i)))(fin:∀c s,Inv n c->F s (st n c)=out c):
  iter F R x=out ((List.range n).foldl g c):=by rw[hx];exact air n st g out c Inv h0 step fin hR
theorem LR{α γ:Type} [Inhabited α]{l:List α}{g:γ->α->γ}{c:γ}{Inv:Nat->γ->Prop}(h0:Inv 0 c)(step:∀(i:Nat) c,(i:Int)<(l.length:Int)->Inv i c->Inv (i+1) (g c (gt l i))):Inv l.length (l.foldl g c):=by
 have:∀(d i:Nat) (c:γ),i+d=l.length->Inv i c->Inv l.length ((l.drop i).foldl g c):=by
  intro d
  induction d with
  |zero=>intro i c hi hc;rw[Nat.add_zero]at hi;subst hi;rw[List.drop_length];exact hc
  |succ d ih=>
   intro i c hi hc
   have bE:i<l.length:=by omega
   rw[List.drop_eq_getElem_cons bE,List.foldl_cons]
   have:=step i c (by omega) hc
   rw[ed bE]at this
   exact ih (i+1) _ (by omega) this
 have h:=this l.length 0 c (by omega) h0
 simpa using h
theorem Wh(n:Nat):(n:Int).tmod 2=((n%2:Nat):Int):=rfl
theorem dh{n:Nat}(h:n<=1048576):n<rounds:=by unfold rounds;omega
def LS{γ:Type}(ok:Nat->γ->Bool)(g:γ->Nat->γ)(n:Nat)(c:γ):Option γ:=(List.range n).foldl (λo i=>o.bind λc=>if ok i c=true then some (g c i)else none) (some c)
theorem ais{γ:Type}(ok:Nat->γ->Bool)(g:γ->Nat->γ)(l:List Nat):l.foldl (λo i=>o.bind λc=>if ok i c=true then some (g c i)else none) (none:Option γ)=none:=by
 induction l with
 |nil=>rfl
 |cons i l ih=>exact ih
theorem ait{γ β σ:Type}{F:(σ->Option β)->σ->Option β}{R:Nat}{x:σ}(n:Nat)(st:Nat->γ->σ)(ok:Nat->γ->Bool)(g:γ->Nat->γ)(out:γ->Option β){gT:Option β}(c:γ)(Inv:Nat->γ->Prop)(hx:x=st 0 c)(hR:n<R)(h0:Inv 0 c)
  (step:∀(i:Nat) c,(i:Int)<(n:Int)->Inv i c->(ok i c=true->Inv (i+1) (g c i))∧∀s,F s (st i c)=if ok i c=true then s (st (i+1) (g c i))else gT)(fin:∀c s,Inv n c->F s (st n c)=out c):
  iter F R x=match LS ok g n c with|some c=>out c|none=>gT:=by
 subst hx
 have:∀(d i:Nat) (c:γ),i+d=n->Inv i c->∀R,d<R->iter F R (st i c)=match((List.range n).drop i).foldl (λo i=>o.bind λc=>if ok i c=true then some (g c i)else none) (some c)with|some c=>out c|none=>gT:=by
  intro d
  induction d with
  |zero=>
   intro i c hi hc R hR
   cases R with
   |zero=>omega
   |succ R=>
    rw[Nat.add_zero]at hi
    subst hi
    rw[List.drop_eq_nil_iff.2 (by simp)]
    exact fin _ _ hc
  |succ d ih=>
   intro i c hi hc R hR
   cases R with
   |zero=>omega
   |succ R=>
    have bE:i<(List.range n).length:=by simp;omega
    unfold iter
    obtain⟨h1,h2⟩:=step i c (by omega) hc
    rw[h2,List.drop_eq_getElem_cons bE,List.foldl_cons,List.getElem_range]
    cases hp:ok i c with
    |true=>
     simp only[if_true,Option.bind_some,hp]
     exact ih (i+1) _ (by omega) (h1 hp) R (by omega)
    |false=>
     simp only[cI,if_false,Option.bind_some,hp,ais]
 have h:=this n 0 c (by omega) h0 R hR
 simpa[LS]using h
theorem Dx{α:Type}(p:α->Bool)(l:List α)(acc:List α):l.foldl (λc a=>if p a=true then c++[a]else c) acc=acc++l.filter p:=by
 induction l generalizing acc with
 |nil=>simp
 |cons a l ih=>
  rw[List.foldl_cons,ih]
  cases h:p a<;>simp[h,List.filter_cons]
def ps0:=(aE (aE (aE (aE (@fU T (List T)) (aE trivial @Vm)) (aE @aeO (aE @aeP @aeQ))) (aE (aE trivial (aE @aeR @aeS)) (aE @aeT (aE @aeU @aeV)))) (aE (aE (aE @aeW (aE trivial trivial)) (aE @aeX (aE trivial trivial))) (aE (aE trivial (aE @Vn @Vo)) (aE @Vp (aE @Vq @Vr)))))
def ps1:=(aE (aE (aE (aE @Vt (aE @Vu @Vv)) (aE @Vx (aE @Vy @Vz))) (aE (aE trivial (aE trivial @VD)) (aE trivial (aE trivial We)))) (aE (aE (aE (λ(p:Prop) (_:Decidable p)=>@decide_eq_true_eq p _) (aE bI Bool.or_eq_true)) (aE aih (aE aii aij))) (aE (aE aie (aE aif @xV)) (aE ah7 (aE @UG @Gi)))))
def ps2:=(aE (aE (aE (aE @UK (aE @UL @UM)) (aE @Lp (aE @UN @vY))) (aE (aE @UO (aE @Lq ah8)) (aE ah9 (aE ah_ UR)))) (aE (aE (aE US (aE UT @UH)) (aE UI (aE UJ @Gz))) (aE (aE @Aj (aE adZ ah')) (aE aia (aE @aib LN)))))
def ps3:=(aE (aE (aE (aE LP (aE LO aik)) (aE ail (aE aim ain))) (aE (aE aio (aE aip UP)) (aE UQ (aE aic aid)))) (aE (aE (aE @Wf (aE (λ(k:Nat)=>@Int.toNat_natCast k) (λ(α:Type) (f:α->List T) (l:List α)=>@List.length_map α (List T) l f))) (aE afw (aE afL trivial))) (aE (aE afX (aE agh agu)) (aE agN (aE ag9 ahp)))))
def ps4:=(aE (aE (aE (aE ahM (aE ah4 trivial)) (aE trivial (aE trivial @aeZ))) (aE (aE @ae0 (aE @ae1 @ae2)) (aE @VI (aE @VJ @Ar)))) (aE (aE (aE @ae3 (aE @xW @VK)) (aE @ae4 (aE @ae5 @ae6))) (aE (aE @ae7 (aE @ae8 @ae9)) (aE @ae_ (aE @ae' @VL)))))
def ps5:=(aE (aE (aE (aE @VM (aE @afa @afb)) (aE @VN (aE @VO @afc))) (aE (aE @afd (aE @afe @aff)) (aE @afg (aE @afh @afi)))) (aE (aE (aE @afj (aE @afk @afl)) (aE @afm (aE @afn @afo))) (aE (aE @afp (aE @VP @VQ)) (aE @afq (aE @afr @VR)))))
def ps6:=(aE (aE (aE (aE @VS (aE @afs @aft)) (aE @afu (aE @afv @afx))) (aE (aE @afy (aE @afz @afA)) (aE @afB (aE @afC @afD)))) (aE (aE (aE @afE (aE @afF @afG)) (aE @VT (aE @VU @afH))) (aE (aE @afI (aE @VV @VW)) (aE @afJ (aE @afK trivial)))))
def ps7:=(aE (aE (aE (aE trivial (aE trivial trivial)) (aE trivial (aE trivial trivial))) (aE (aE trivial (aE trivial trivial)) (aE trivial (aE trivial trivial)))) (aE (aE (aE trivial (aE @afM @afN)) (aE @afO (aE @afP @afQ))) (aE (aE @afR (aE @VX @VY)) (aE @LK (aE @afS @VZ)))))
def ps8:=(aE (aE (aE (aE @V0 (aE @afT @afU)) (aE @afV (aE @afW @afY))) (aE (aE @afZ (aE @af0 @af1)) (aE @af2 (aE @af3 @af4)))) (aE (aE (aE @af5 (aE @af6 @af7)) (aE @af8 (aE @af9 @af_))) (aE (aE @af' (aE @aga @agb)) (aE @agc (aE @agd @V1)))))
def ps9:=(aE (aE (aE (aE @V2 (aE @age @agf)) (aE @V3 (aE @V4 @agi))) (aE (aE @agj (aE @agk @agl)) (aE @agm (aE @agn @LL)))) (aE (aE (aE @ago (aE @Ja @Jb)) (aE @agp (aE @agq @ags))) (aE (aE @agt (aE @agv @agw)) (aE @agx (aE @agy @agz)))))
def aiu:=(aE (aE (aE (aE @agA (aE @agB @agC)) (aE @agD (aE @agE @agF))) (aE (aE @agG (aE @agH @agI)) (aE @V5 (aE @V6 @agJ)))) (aE (aE (aE @agK (aE @agL @agM)) (aE @agO (aE @agP @agQ))) (aE (aE @agR (aE @agS @agT)) (aE @agU (aE @agV @agW)))))
def aiv:=(aE (aE (aE (aE @agX (aE @agY @agZ)) (aE @ag1 (aE @ag2 @ag3))) (aE (aE @ag4 (aE @V7 @V8)) (aE @ag5 (aE @ag6 @ag7)))) (aE (aE (aE @ag8 (aE @ag_ @aha)) (aE @ahb (aE @ahc @ahd))) (aE (aE @ahe (aE @ahf @ahg)) (aE @ahh (aE @ahi @V9)))))
def aiw:=(aE (aE (aE (aE @V_ (aE @ahj @ahk)) (aE @V' (aE @Wa @ahl))) (aE (aE @ahm (aE @ahn @aho)) (aE @ahq (aE @ahr @ahs)))) (aE (aE (aE @aht (aE @ahu @ahv)) (aE @ahw (aE @ahx @ahy))) (aE (aE @ahz (aE @ahA @ahB)) (aE @ahC (aE @ahD @ahE)))))
def aix:=(aE (aE (aE (aE @ahF (aE @ahG @ahH)) (aE @Wb (aE @Wc @ahI))) (aE (aE @ahJ (aE @ahK @ahL)) (aE @ahN (aE @ahO @ahP)))) (aE (aE (aE @ahQ (aE @ahR @ahS)) (aE @ahT (aE @ahU @ahV))) (aE (aE @ahW (aE @ahX @ahY)) (aE @ahZ (aE @ah0 @qM_)))))
def aiy:=(aE (aE (aE (aE @Wd (aE @ah1 @ah2)) (aE @ah3 (aE @LM trivial))) (aE (aE trivial (aE trivial trivial)) (aE trivial (aE trivial trivial)))) (aE (aE (aE trivial (aE trivial trivial)) (aE trivial (aE trivial trivial))) (aE (aE trivial (aE trivial trivial)) (aE trivial (aE trivial trivial)))))
def aiz:=(aE (aE (aE (aE trivial (aE trivial trivial)) (aE trivial (aE trivial trivial))) (aE (aE trivial (aE trivial trivial)) (aE trivial (aE trivial trivial)))) (aE (aE (aE trivial (aE trivial trivial)) (aE trivial (aE trivial trivial))) (aE (aE trivial (aE trivial trivial)) (aE trivial (aE trivial trivial)))))
def aiA:=(aE (aE (aE trivial (aE trivial trivial)) (aE (aE trivial trivial) (aE trivial trivial))) (aE (aE (aE trivial trivial) (aE trivial trivial)) (aE (aE trivial trivial) (aE trivial trivial))))
def pq:=(aE (aE (aE (aE (aE Vl We) (aE aeo (aE aep aeq))) (aE (aE aer (aE aes aet)) (aE aeu (aE aev aew)))) (aE (aE (aE aex aey) (aE aez (aE aeA aeB))) (aE (aE aeC (aE aeD aeE)) (aE aeF (aE aeG aeH))))) (aE (aE (aE (aE aeI aeJ) (aE aeK (aE aeL aeM))) (aE (aE aeN (aE trivial @Vn)) (aE @Vo (aE @Vp @Vq)))) (aE (aE (aE @Vr (aE @Vt @Vu)) (aE @Vv (aE @Vx @Vy))) (aE (aE @Vz (aE trivial trivial)) (aE @VD (aE trivial trivial))))))
def pj:=aE aeY trivial
def ps:=(aE (aE (aE (aE ps0 ps1) (aE ps2 ps3)) (aE (aE ps4 ps5) (aE ps6 ps7))) (aE (aE (aE ps8 ps9) (aE aiu aiv)) (aE (aE aiw aix) (aE aiy (aE aiz aiA)))))
end Go.Proofs.YtjimmglpkndemaaGreatC

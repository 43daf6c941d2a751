/- The walk by reflection: a part of its laws, for any function. Conditions: none. -/
import Derived.Test.YtjimmglpkndemaaGreatKd
namespace Go.Proofs.YtjimmglpkndemaaGreatC
set_option linter.unusedVariables false
set_option linter.unusedSimpArgs false
abbrev ii(n:Int):T:=.c (.int .i64 n)
abbrev bb(b:Bool):T:=.c (.bool b)
def FZ(n:Int):Prop:=(Lit.int .i64 n).wf=true
theorem FZ.lo{n:Int}(h:FZ n):-9223372036854775808<=n:=by
 simp[FZ,Lit.wf,IntKind.min,IntKind.max,IntKind.signed,IntKind.bits]at h;omega
theorem FZ.hi{n:Int}(h:FZ n):n<9223372036854775808:=by
 simp[FZ,Lit.wf,IntKind.min,IntKind.max,IntKind.signed,IntKind.bits]at h;omega
theorem FZ.mk{n:Int}(h:-9223372036854775808<=n)(h':n<9223372036854775808):FZ n:=by
 simp[FZ,Lit.wf,IntKind.min,IntKind.max,IntKind.signed,IntKind.bits];omega
def gt{α:Type} [Inhabited α](l:List α)(n:Int):α:=l.getD n.toNat default
theorem dV{α:Type} [Inhabited α]{enc:α->List T}{l:List α}{n:Int}(h:0<=n)(h':n<l.length):(l.map enc)[n.toNat]?=some (enc (gt l n)):=by
 have hn:n.toNat<l.length:=by omega
 rw[List.getElem?_map,List.getElem?_eq_getElem hn]
 simp[gt,List.getD,List.getElem?_eq_getElem hn]
theorem Lr{α:Type} [Inhabited α]{l:List α}{i:Nat}{a:α}(h:l[i]?=some a):gt l (i:Int)=a:=by
 simp[gt,List.getD,h]
theorem eh{α:Type} [Inhabited α]{l:List α}{i:Nat}(h:i<l.length):gt l (i:Int)=l[i]:=Lr (List.getElem?_eq_getElem h)
theorem iT{α:Type} [Inhabited α]{l:List α}{n:Int}(h:0<=n)(h':n<l.length):gt l n∈l:=by
 have hn:n.toNat<l.length:=by omega
 simp[gt,List.getD,List.getElem?_eq_getElem hn]
theorem B1{xs:List (List T)}{n:Int}{r:List T}(h0:0<=n)(h:xs[n.toNat]?=some r):uY (.l xs) (ii n)=some r:=by
 simp[uY,T.rows,T.int,h0,h]
theorem F0{α:Type} [Inhabited α]{enc:α->List T}{l:List α}{n:Int}(h:0<=n)(h':n<l.length):Prim.ev .lk [.l (l.map enc),ii n]=some (bb true):=by
 simp[Prim.ev,B1 h (dV (enc:=enc) h h')]
theorem iU{xs:List (List T)}{n:Int}{w j:Nat}{r:List T}{t:T}(h0:0<=n)(h:xs[n.toNat]?=some r)(hw:r.length=w)(hj:r[j]?=some t):Prim.ev (.cell w j) [.l xs,ii n]=some t:=by
 simp[Prim.ev,B1 h0 h,hw,hj]
theorem lQ{xs:List (List T)}{n:Int}{w j:Nat}{r:List T}{t:T}(h0:0<=n)(h:xs[n.toNat]?=some r)(hw:r.length=w)(hj:r[j]?=some t)(hs:eA t=true):Prim.ev (.bF w j) [.l xs,ii n]=some t:=by
 simp[Prim.ev,B1 h0 h,hw,hj,hs]
theorem yZ{xs ys:List (List T)}{n:Int}{w j:Nat}{r:List T}(h0:0<=n)(h:xs[n.toNat]?=some r)(hw:r.length=w)(hj:r[j]?=some (.l ys)):Prim.ev (.lF w j) [.l xs,ii n]=some (.l ys):=by
 simp[Prim.ev,B1 h0 h,hw,hj,T.rows]
theorem B3{α:Type}{enc:α->List T}{l:List α}:Prim.ev .len [.l (l.map enc)]=some (ii l.length):=by
 rw[FI,List.length_map]
theorem F1{α:Type}{enc:α->List T}{w:Nat}(hw:∀x,(enc x).length=w)(l:List α):okW w (l.map enc)=true:=by
 cases l with
 |nil=>rfl
 |cons x l=>simp[okW,hw]
theorem sF{α:Type}{enc:α->List T}{w:Nat}{sc:Bool}(hw:∀x,(enc x).length=w)(hs:sc=false∨∀x,(enc x).all eA=true){l m:List α}(h:l.length+m.length<uX):Prim.ev (.app sc w) [.l (l.map enc),.l (m.map enc)]=some (.l ((l++m).map enc)):=by
 rw[List.map_append]
 refine aiG (by simpa using h) ?_ (F1 hw l) (F1 hw m)
 rcases hs with rfl|hs
 ·rfl
 ·have:(m.map enc).all (·.all eA)=true:=by simp only[List.all_map,List.all_eq_true];exactλx _=>hs x
  rw[this];simp
theorem uC{α:Type}{enc:α->List T}{w:Nat}{sc:Bool}(hw:∀x,(enc x).length=w)(hs:sc=false∨∀x,(enc x).all eA=true){m:List α}(h:m.length<uX):Prim.ev (.app sc w) [.l [],.l (m.map enc)]=some (.l (m.map enc)):=
 sF (l:=[]) hw hs (by simpa using h)
theorem B4{α:Type}{enc:α->List T}{w:Nat}(hw:∀x,(enc x).length=w){l:List α}{a:Int}(h:0<=a)(h':a<=l.length):Prim.ev (.sub w true false) [.l (l.map enc),ii a]=some (.l ((l.drop a.toNat).map enc)):=by
 simp only[Prim.ev,F1 hw l,if_true,List.length_map,gN,h,h']
 rw[if_pos (by omega)]
 have:((l.map enc).take (l.length:Int).toNat).drop a.toNat=(l.drop a.toNat).map enc:=by
  rw[List.map_drop,Int.toNat_natCast,List.take_of_length_le (by simp)]
 rw[this]
theorem B5{α:Type}{enc:α->List T}{w:Nat}(hw:∀x,(enc x).length=w){l:List α}{a:Int}(h:0<=a)(h':a<=l.length):Prim.ev (.sub w false true) [.l (l.map enc),ii a]=some (.l ((l.take a.toNat).map enc)):=by
 simp only[Prim.ev,F1 hw l,if_true,List.length_map,gN,h,h',Int.le_refl,Int.toNat_zero,List.drop_zero,List.map_take]
theorem U0{α:Type}{enc:α->List T}{ok:α->Prop}{ty:List Ty}(h:∀r,je ty r->∃x,r=enc x∧ok x):∀{xs:List (List T)},(∀r∈xs,je ty r)->∃l:List α,xs=l.map enc∧∀x∈l,ok x
 | [],_=>⟨[],rfl,by simp⟩
 |r::xs,hx=>by
  obtain⟨x,rfl,h1⟩:=h r (hx _ (.head _))
  obtain⟨l,rfl,h2⟩:=U0 h (xs:=xs) λr hr=>hx r (.tail _ hr)
  refine⟨x::l,rfl,?_⟩
  intro y hy
  rcases List.mem_cons.1 hy with rfl|hy
  ·exact h1
  ·exact h2 y hy
def aE(n:Int):List T:=[ii n]
def iI(b:Bool):List T:=[bb b]
theorem ajq{l:List Int}{n:Int}(h:0<=n)(h':n<l.length):Prim.ev (.cell 1 0) [.l (l.map aE),ii n]=some (ii (gt l n)):=iU h (dV h h') rfl rfl
theorem ajr{l:List Int}{n:Int}(h:0<=n)(h':n<l.length):Prim.ev (.bF 1 0) [.l (l.map aE),ii n]=some (ii (gt l n)):=lQ h (dV h h') rfl rfl rfl
theorem U1{l m:List Int}(h:l.length+m.length<4294967296):Prim.ev (.app false 1) [.l (l.map aE),.l (m.map aE)]=some (.l ((l++m).map aE)):=sF (w:=1) (λ_=>rfl) (.inl rfl) h
theorem U2{m:List Int}(h:m.length<4294967296):Prim.ev (.app false 1) [.l [],.l (m.map aE)]=some (.l (m.map aE)):=uC (w:=1) (λ_=>rfl) (.inl rfl) h
theorem y7{l m:List Int}(h:l.length+m.length<4294967296):Prim.ev (.app true 1) [.l (l.map aE),.l (m.map aE)]=some (.l ((l++m).map aE)):=sF (w:=1) (λ_=>rfl) (.inr λ_=>rfl) h
theorem U3{m:List Int}(h:m.length<4294967296):Prim.ev (.app true 1) [.l [],.l (m.map aE)]=some (.l (m.map aE)):=uC (w:=1) (λ_=>rfl) (.inr λ_=>rfl) h
theorem ajs{l:List Int}{x:Int}(h:l.length<4294967295):Prim.ev (.app false 1) [.l (l.map aE),.l ([x].map aE)]=some (.l ((l++[x]).map aE)):=U1 (by simp;omega)
theorem ajt{x:Int}:Prim.ev (.app false 1) [.l [],.l ([x].map aE)]=some (.l ([x].map aE)):=U2 (by simp)
theorem B6{l:List Int}{x:Int}(h:l.length<4294967295):Prim.ev (.app true 1) [.l (l.map aE),.l ([x].map aE)]=some (.l ((l++[x]).map aE)):=y7 (by simp;omega)
theorem aju{x:Int}:Prim.ev (.app true 1) [.l [],.l ([x].map aE)]=some (.l ([x].map aE)):=U3 (by simp)
theorem ajv{l:List Int}{a:Int}(h:0<=a)(h':a<=l.length):Prim.ev (.sub 1 true false) [.l (l.map aE),ii a]=some (.l ((l.drop a.toNat).map aE)):=B4 (enc:=aE) (w:=1) (λ_=>rfl) h h'
theorem ajw{l:List Int}{a:Int}(h:0<=a)(h':a<=l.length):Prim.ev (.sub 1 false true) [.l (l.map aE),ii a]=some (.l ((l.take a.toNat).map aE)):=B5 (enc:=aE) (w:=1) (λ_=>rfl) h h'
theorem ajx(x:Int):Prim.ev (.lit 1 [true]) [ii x]=some (.l ([x].map aE)):=qp (by decide) rfl rfl
theorem ajy(x:Int):Prim.ev (.lit 1 []) [ii x]=some (.l ([x].map aE)):=qp (by decide) rfl rfl
theorem ajz{l:List Bool}{n:Int}(h:0<=n)(h':n<l.length):Prim.ev (.cell 1 0) [.l (l.map iI),ii n]=some (bb (gt l n)):=iU h (dV h h') rfl rfl
theorem ajA{l:List Bool}{n:Int}(h:0<=n)(h':n<l.length):Prim.ev (.bF 1 0) [.l (l.map iI),ii n]=some (bb (gt l n)):=lQ h (dV h h') rfl rfl rfl
theorem U4{l m:List Bool}(h:l.length+m.length<4294967296):Prim.ev (.app false 1) [.l (l.map iI),.l (m.map iI)]=some (.l ((l++m).map iI)):=sF (w:=1) (λ_=>rfl) (.inl rfl) h
theorem U5{m:List Bool}(h:m.length<4294967296):Prim.ev (.app false 1) [.l [],.l (m.map iI)]=some (.l (m.map iI)):=uC (w:=1) (λ_=>rfl) (.inl rfl) h
theorem U6{l m:List Bool}(h:l.length+m.length<4294967296):Prim.ev (.app true 1) [.l (l.map iI),.l (m.map iI)]=some (.l ((l++m).map iI)):=sF (w:=1) (λ_=>rfl) (.inr λ_=>rfl) h
theorem U7{m:List Bool}(h:m.length<4294967296):Prim.ev (.app true 1) [.l [],.l (m.map iI)]=some (.l (m.map iI)):=uC (w:=1) (λ_=>rfl) (.inr λ_=>rfl) h
theorem ajB{l:List Bool}{x:Bool}(h:l.length<4294967295):Prim.ev (.app false 1) [.l (l.map iI),.l ([x].map iI)]=some (.l ((l++[x]).map iI)):=U4 (by simp;omega)
theorem ajC{x:Bool}:Prim.ev (.app false 1) [.l [],.l ([x].map iI)]=some (.l ([x].map iI)):=U5 (by simp)
theorem ajD{l:List Bool}{x:Bool}(h:l.length<4294967295):Prim.ev (.app true 1) [.l (l.map iI),.l ([x].map iI)]=some (.l ((l++[x]).map iI)):=U6 (by simp;omega)
theorem ajE{x:Bool}:Prim.ev (.app true 1) [.l [],.l ([x].map iI)]=some (.l ([x].map iI)):=U7 (by simp)
theorem ajF{l:List Bool}{a:Int}(h:0<=a)(h':a<=l.length):Prim.ev (.sub 1 true false) [.l (l.map iI),ii a]=some (.l ((l.drop a.toNat).map iI)):=B4 (enc:=iI) (w:=1) (λ_=>rfl) h h'
theorem ajG{l:List Bool}{a:Int}(h:0<=a)(h':a<=l.length):Prim.ev (.sub 1 false true) [.l (l.map iI),ii a]=some (.l ((l.take a.toNat).map iI)):=B5 (enc:=iI) (w:=1) (λ_=>rfl) h h'
theorem ajH(x:Bool):Prim.ev (.lit 1 [true]) [bb x]=some (.l ([x].map iI)):=qp (by decide) rfl rfl
theorem ajI(x:Bool):Prim.ev (.lit 1 []) [bb x]=some (.l ([x].map iI)):=qp (by decide) rfl rfl
structure bH where
 a:Int
 b:Int
 cost:Int
 ae:Int
 deriving Inhabited
def cT(x:bH):List T:=[ii x.a,ii x.b,ii x.cost,ii x.ae]
theorem ajJ{l:List bH}{n:Int}(h:0<=n)(h':n<l.length):Prim.ev (.cell 4 0) [.l (l.map cT),ii n]=some (ii (gt l n).a):=iU h (dV h h') rfl rfl
theorem ajK{l:List bH}{n:Int}(h:0<=n)(h':n<l.length):Prim.ev (.bF 4 0) [.l (l.map cT),ii n]=some (ii (gt l n).a):=lQ h (dV h h') rfl rfl rfl
theorem ajL{l:List bH}{n:Int}(h:0<=n)(h':n<l.length):Prim.ev (.cell 4 1) [.l (l.map cT),ii n]=some (ii (gt l n).b):=iU h (dV h h') rfl rfl
theorem ajM{l:List bH}{n:Int}(h:0<=n)(h':n<l.length):Prim.ev (.bF 4 1) [.l (l.map cT),ii n]=some (ii (gt l n).b):=lQ h (dV h h') rfl rfl rfl
theorem ajN{l:List bH}{n:Int}(h:0<=n)(h':n<l.length):Prim.ev (.cell 4 2) [.l (l.map cT),ii n]=some (ii (gt l n).cost):=iU h (dV h h') rfl rfl
theorem ajO{l:List bH}{n:Int}(h:0<=n)(h':n<l.length):Prim.ev (.bF 4 2) [.l (l.map cT),ii n]=some (ii (gt l n).cost):=lQ h (dV h h') rfl rfl rfl
theorem ajP{l:List bH}{n:Int}(h:0<=n)(h':n<l.length):Prim.ev (.cell 4 3) [.l (l.map cT),ii n]=some (ii (gt l n).ae):=iU h (dV h h') rfl rfl
theorem ajQ{l:List bH}{n:Int}(h:0<=n)(h':n<l.length):Prim.ev (.bF 4 3) [.l (l.map cT),ii n]=some (ii (gt l n).ae):=lQ h (dV h h') rfl rfl rfl
theorem U8{l m:List bH}(h:l.length+m.length<4294967296):Prim.ev (.app false 4) [.l (l.map cT),.l (m.map cT)]=some (.l ((l++m).map cT)):=sF (w:=4) (λ_=>rfl) (.inl rfl) h
theorem U9{m:List bH}(h:m.length<4294967296):Prim.ev (.app false 4) [.l [],.l (m.map cT)]=some (.l (m.map cT)):=uC (w:=4) (λ_=>rfl) (.inl rfl) h
theorem U_{l m:List bH}(h:l.length+m.length<4294967296):Prim.ev (.app true 4) [.l (l.map cT),.l (m.map cT)]=some (.l ((l++m).map cT)):=sF (w:=4) (λ_=>rfl) (.inr λ_=>rfl) h
theorem U'{m:List bH}(h:m.length<4294967296):Prim.ev (.app true 4) [.l [],.l (m.map cT)]=some (.l (m.map cT)):=uC (w:=4) (λ_=>rfl) (.inr λ_=>rfl) h
theorem ajR{l:List bH}{x:bH}(h:l.length<4294967295):Prim.ev (.app false 4) [.l (l.map cT),.l ([x].map cT)]=some (.l ((l++[x]).map cT)):=U8 (by simp;omega)
theorem ajS{x:bH}:Prim.ev (.app false 4) [.l [],.l ([x].map cT)]=some (.l ([x].map cT)):=U9 (by simp)
theorem ajT{l:List bH}{x:bH}(h:l.length<4294967295):Prim.ev (.app true 4) [.l (l.map cT),.l ([x].map cT)]=some (.l ((l++[x]).map cT)):=U_ (by simp;omega)
theorem ajU{x:bH}:Prim.ev (.app true 4) [.l [],.l ([x].map cT)]=some (.l ([x].map cT)):=U' (by simp)
theorem ajV{l:List bH}{a:Int}(h:0<=a)(h':a<=l.length):Prim.ev (.sub 4 true false) [.l (l.map cT),ii a]=some (.l ((l.drop a.toNat).map cT)):=B4 (enc:=cT) (w:=4) (λ_=>rfl) h h'
theorem ajW{l:List bH}{a:Int}(h:0<=a)(h':a<=l.length):Prim.ev (.sub 4 false true) [.l (l.map cT),ii a]=some (.l ((l.take a.toNat).map cT)):=B5 (enc:=cT) (w:=4) (λ_=>rfl) h h'
theorem ajX(v0:Int)(v1:Int)(v2:Int)(v3:Int):Prim.ev (.lit 4 [true,true,true,true]) [ii v0,ii v1,ii v2,ii v3]=some (.l ([(⟨v0,v1,v2,v3⟩:bH)].map cT)):=qp (by decide) rfl rfl
theorem ajY(v0:Int)(v1:Int)(v2:Int)(v3:Int):Prim.ev (.lit 4 []) [ii v0,ii v1,ii v2,ii v3]=some (.l ([(⟨v0,v1,v2,v3⟩:bH)].map cT)):=qp (by decide) rfl rfl
theorem ajZ(x:bH):(⟨x.a,x.b,x.cost,x.ae⟩:bH)=x:=rfl
structure bZ where
 owner:Int
 key:Int
 cost:Int
 e_:Bool
 deriving Inhabited
def dj(x:bZ):List T:=[ii x.owner,ii x.key,ii x.cost,bb x.e_]
theorem aj0{l:List bZ}{n:Int}(h:0<=n)(h':n<l.length):Prim.ev (.cell 4 0) [.l (l.map dj),ii n]=some (ii (gt l n).owner):=iU h (dV h h') rfl rfl
theorem aj1{l:List bZ}{n:Int}(h:0<=n)(h':n<l.length):Prim.ev (.bF 4 0) [.l (l.map dj),ii n]=some (ii (gt l n).owner):=lQ h (dV h h') rfl rfl rfl
theorem aj2{l:List bZ}{n:Int}(h:0<=n)(h':n<l.length):Prim.ev (.cell 4 1) [.l (l.map dj),ii n]=some (ii (gt l n).key):=iU h (dV h h') rfl rfl
theorem aj3{l:List bZ}{n:Int}(h:0<=n)(h':n<l.length):Prim.ev (.bF 4 1) [.l (l.map dj),ii n]=some (ii (gt l n).key):=lQ h (dV h h') rfl rfl rfl
theorem aj4{l:List bZ}{n:Int}(h:0<=n)(h':n<l.length):Prim.ev (.cell 4 2) [.l (l.map dj),ii n]=some (ii (gt l n).cost):=iU h (dV h h') rfl rfl
theorem aj5{l:List bZ}{n:Int}(h:0<=n)(h':n<l.length):Prim.ev (.bF 4 2) [.l (l.map dj),ii n]=some (ii (gt l n).cost):=lQ h (dV h h') rfl rfl rfl
theorem aj6{l:List bZ}{n:Int}(h:0<=n)(h':n<l.length):Prim.ev (.cell 4 3) [.l (l.map dj),ii n]=some (bb (gt l n).e_):=iU h (dV h h') rfl rfl
theorem aj7{l:List bZ}{n:Int}(h:0<=n)(h':n<l.length):Prim.ev (.bF 4 3) [.l (l.map dj),ii n]=some (bb (gt l n).e_):=lQ h (dV h h') rfl rfl rfl
theorem Va{l m:List bZ}(h:l.length+m.length<4294967296):Prim.ev (.app false 4) [.l (l.map dj),.l (m.map dj)]=some (.l ((l++m).map dj)):=sF (w:=4) (λ_=>rfl) (.inl rfl) h
theorem Vb{m:List bZ}(h:m.length<4294967296):Prim.ev (.app false 4) [.l [],.l (m.map dj)]=some (.l (m.map dj)):=uC (w:=4) (λ_=>rfl) (.inl rfl) h
theorem Vc{l m:List bZ}(h:l.length+m.length<4294967296):Prim.ev (.app true 4) [.l (l.map dj),.l (m.map dj)]=some (.l ((l++m).map dj)):=sF (w:=4) (λ_=>rfl) (.inr λ_=>rfl) h
theorem Vd{m:List bZ}(h:m.length<4294967296):Prim.ev (.app true 4) [.l [],.l (m.map dj)]=some (.l (m.map dj)):=uC (w:=4) (λ_=>rfl) (.inr λ_=>rfl) h
theorem aj8{l:List bZ}{x:bZ}(h:l.length<4294967295):Prim.ev (.app false 4) [.l (l.map dj),.l ([x].map dj)]=some (.l ((l++[x]).map dj)):=Va (by simp;omega)
theorem aj9{x:bZ}:Prim.ev (.app false 4) [.l [],.l ([x].map dj)]=some (.l ([x].map dj)):=Vb (by simp)
theorem aj_{l:List bZ}{x:bZ}(h:l.length<4294967295):Prim.ev (.app true 4) [.l (l.map dj),.l ([x].map dj)]=some (.l ((l++[x]).map dj)):=Vc (by simp;omega)
theorem aj'{x:bZ}:Prim.ev (.app true 4) [.l [],.l ([x].map dj)]=some (.l ([x].map dj)):=Vd (by simp)
theorem aka{l:List bZ}{a:Int}(h:0<=a)(h':a<=l.length):Prim.ev (.sub 4 true false) [.l (l.map dj),ii a]=some (.l ((l.drop a.toNat).map dj)):=B4 (enc:=dj) (w:=4) (λ_=>rfl) h h'
theorem akb{l:List bZ}{a:Int}(h:0<=a)(h':a<=l.length):Prim.ev (.sub 4 false true) [.l (l.map dj),ii a]=some (.l ((l.take a.toNat).map dj)):=B5 (enc:=dj) (w:=4) (λ_=>rfl) h h'
theorem akc(x:bZ):(⟨x.owner,x.key,x.cost,x.e_⟩:bZ)=x:=rfl
structure Net where
 n:Int
 aB:List bH
 aG:List bZ
 deriving Inhabited
structure cC where
 to:Int
 cost:Int
 deriving Inhabited
def eJ(x:cC):List T:=[ii x.to,ii x.cost]
theorem akd{l:List cC}{n:Int}(h:0<=n)(h':n<l.length):Prim.ev (.cell 2 0) [.l (l.map eJ),ii n]=some (ii (gt l n).to):=iU h (dV h h') rfl rfl
theorem ake{l:List cC}{n:Int}(h:0<=n)(h':n<l.length):Prim.ev (.bF 2 0) [.l (l.map eJ),ii n]=some (ii (gt l n).to):=lQ h (dV h h') rfl rfl rfl
theorem akf{l:List cC}{n:Int}(h:0<=n)(h':n<l.length):Prim.ev (.cell 2 1) [.l (l.map eJ),ii n]=some (ii (gt l n).cost):=iU h (dV h h') rfl rfl
theorem akg{l:List cC}{n:Int}(h:0<=n)(h':n<l.length):Prim.ev (.bF 2 1) [.l (l.map eJ),ii n]=some (ii (gt l n).cost):=lQ h (dV h h') rfl rfl rfl
theorem Ve{l m:List cC}(h:l.length+m.length<4294967296):Prim.ev (.app false 2) [.l (l.map eJ),.l (m.map eJ)]=some (.l ((l++m).map eJ)):=sF (w:=2) (λ_=>rfl) (.inl rfl) h
theorem Vf{m:List cC}(h:m.length<4294967296):Prim.ev (.app false 2) [.l [],.l (m.map eJ)]=some (.l (m.map eJ)):=uC (w:=2) (λ_=>rfl) (.inl rfl) h
theorem Vg{l m:List cC}(h:l.length+m.length<4294967296):Prim.ev (.app true 2) [.l (l.map eJ),.l (m.map eJ)]=some (.l ((l++m).map eJ)):=sF (w:=2) (λ_=>rfl) (.inr λ_=>rfl) h
theorem Vh{m:List cC}(h:m.length<4294967296):Prim.ev (.app true 2) [.l [],.l (m.map eJ)]=some (.l (m.map eJ)):=uC (w:=2) (λ_=>rfl) (.inr λ_=>rfl) h
theorem akh{l:List cC}{x:cC}(h:l.length<4294967295):Prim.ev (.app false 2) [.l (l.map eJ),.l ([x].map eJ)]=some (.l ((l++[x]).map eJ)):=Ve (by simp;omega)
theorem aki{x:cC}:Prim.ev (.app false 2) [.l [],.l ([x].map eJ)]=some (.l ([x].map eJ)):=Vf (by simp)
theorem Ls{l:List cC}{x:cC}(h:l.length<4294967295):Prim.ev (.app true 2) [.l (l.map eJ),.l ([x].map eJ)]=some (.l ((l++[x]).map eJ)):=Vg (by simp;omega)
theorem akj{x:cC}:Prim.ev (.app true 2) [.l [],.l ([x].map eJ)]=some (.l ([x].map eJ)):=Vh (by simp)
theorem akk{l:List cC}{a:Int}(h:0<=a)(h':a<=l.length):Prim.ev (.sub 2 true false) [.l (l.map eJ),ii a]=some (.l ((l.drop a.toNat).map eJ)):=B4 (enc:=eJ) (w:=2) (λ_=>rfl) h h'
theorem akl{l:List cC}{a:Int}(h:0<=a)(h':a<=l.length):Prim.ev (.sub 2 false true) [.l (l.map eJ),ii a]=some (.l ((l.take a.toNat).map eJ)):=B5 (enc:=eJ) (w:=2) (λ_=>rfl) h h'
theorem akm(v0:Int)(v1:Int):Prim.ev (.lit 2 [true,true]) [ii v0,ii v1]=some (.l ([(⟨v0,v1⟩:cC)].map eJ)):=qp (by decide) rfl rfl
theorem akn(v0:Int)(v1:Int):Prim.ev (.lit 2 []) [ii v0,ii v1]=some (.l ([(⟨v0,v1⟩:cC)].map eJ)):=qp (by decide) rfl rfl
theorem ako(x:cC):(⟨x.to,x.cost⟩:cC)=x:=rfl
structure ay where
 ae:Int
 kind:Int
 owner:Int
 key:Int
 seq:Int
 aX:List cC
 cost:Int
 e_:Bool
 deriving Inhabited
def aw(x:ay):List T:=[ii x.ae,ii x.kind,ii x.owner,ii x.key,ii x.seq,.l (x.aX.map eJ),ii x.cost,bb x.e_]
theorem akp{l:List ay}{n:Int}(h:0<=n)(h':n<l.length):Prim.ev (.cell 8 0) [.l (l.map aw),ii n]=some (ii (gt l n).ae):=iU h (dV h h') rfl rfl
theorem akq{l:List ay}{n:Int}(h:0<=n)(h':n<l.length):Prim.ev (.bF 8 0) [.l (l.map aw),ii n]=some (ii (gt l n).ae):=lQ h (dV h h') rfl rfl rfl
theorem akr{l:List ay}{n:Int}(h:0<=n)(h':n<l.length):Prim.ev (.cell 8 1) [.l (l.map aw),ii n]=some (ii (gt l n).kind):=iU h (dV h h') rfl rfl
theorem aks{l:List ay}{n:Int}(h:0<=n)(h':n<l.length):Prim.ev (.bF 8 1) [.l (l.map aw),ii n]=some (ii (gt l n).kind):=lQ h (dV h h') rfl rfl rfl
theorem akt{l:List ay}{n:Int}(h:0<=n)(h':n<l.length):Prim.ev (.cell 8 2) [.l (l.map aw),ii n]=some (ii (gt l n).owner):=iU h (dV h h') rfl rfl
theorem aku{l:List ay}{n:Int}(h:0<=n)(h':n<l.length):Prim.ev (.bF 8 2) [.l (l.map aw),ii n]=some (ii (gt l n).owner):=lQ h (dV h h') rfl rfl rfl
theorem akv{l:List ay}{n:Int}(h:0<=n)(h':n<l.length):Prim.ev (.cell 8 3) [.l (l.map aw),ii n]=some (ii (gt l n).key):=iU h (dV h h') rfl rfl
theorem akw{l:List ay}{n:Int}(h:0<=n)(h':n<l.length):Prim.ev (.bF 8 3) [.l (l.map aw),ii n]=some (ii (gt l n).key):=lQ h (dV h h') rfl rfl rfl
theorem akx{l:List ay}{n:Int}(h:0<=n)(h':n<l.length):Prim.ev (.cell 8 4) [.l (l.map aw),ii n]=some (ii (gt l n).seq):=iU h (dV h h') rfl rfl
theorem aky{l:List ay}{n:Int}(h:0<=n)(h':n<l.length):Prim.ev (.bF 8 4) [.l (l.map aw),ii n]=some (ii (gt l n).seq):=lQ h (dV h h') rfl rfl rfl
theorem akz{l:List ay}{n:Int}(h:0<=n)(h':n<l.length):Prim.ev (.cell 8 5) [.l (l.map aw),ii n]=some (.l ((gt l n).aX.map eJ)):=iU h (dV h h') rfl rfl
theorem akA{l:List ay}{n:Int}(h:0<=n)(h':n<l.length):Prim.ev (.lF 8 5) [.l (l.map aw),ii n]=some (.l ((gt l n).aX.map eJ)):=yZ h (dV h h') rfl rfl
theorem akB{l:List ay}{n:Int}(h:0<=n)(h':n<l.length):Prim.ev (.cell 8 6) [.l (l.map aw),ii n]=some (ii (gt l n).cost):=iU h (dV h h') rfl rfl
theorem akC{l:List ay}{n:Int}(h:0<=n)(h':n<l.length):Prim.ev (.bF 8 6) [.l (l.map aw),ii n]=some (ii (gt l n).cost):=lQ h (dV h h') rfl rfl rfl
theorem akD{l:List ay}{n:Int}(h:0<=n)(h':n<l.length):Prim.ev (.cell 8 7) [.l (l.map aw),ii n]=some (bb (gt l n).e_):=iU h (dV h h') rfl rfl
theorem akE{l:List ay}{n:Int}(h:0<=n)(h':n<l.length):Prim.ev (.bF 8 7) [.l (l.map aw),ii n]=some (bb (gt l n).e_):=lQ h (dV h h') rfl rfl rfl
theorem Vi{l m:List ay}(h:l.length+m.length<4294967296):Prim.ev (.app false 8) [.l (l.map aw),.l (m.map aw)]=some (.l ((l++m).map aw)):=sF (w:=8) (λ_=>rfl) (.inl rfl) h
theorem Vj{m:List ay}(h:m.length<4294967296):Prim.ev (.app false 8) [.l [],.l (m.map aw)]=some (.l (m.map aw)):=uC (w:=8) (λ_=>rfl) (.inl rfl) h
theorem akF{l:List ay}{x:ay}(h:l.length<4294967295):Prim.ev (.app false 8) [.l (l.map aw),.l ([x].map aw)]=some (.l ((l++[x]).map aw)):=Vi (by simp;omega)
theorem akG{x:ay}:Prim.ev (.app false 8) [.l [],.l ([x].map aw)]=some (.l ([x].map aw)):=Vj (by simp)
theorem akH{l:List ay}{a:Int}(h:0<=a)(h':a<=l.length):Prim.ev (.sub 8 true false) [.l (l.map aw),ii a]=some (.l ((l.drop a.toNat).map aw)):=B4 (enc:=aw) (w:=8) (λ_=>rfl) h h'
theorem akI{l:List ay}{a:Int}(h:0<=a)(h':a<=l.length):Prim.ev (.sub 8 false true) [.l (l.map aw),ii a]=some (.l ((l.take a.toNat).map aw)):=B5 (enc:=aw) (w:=8) (λ_=>rfl) h h'
theorem Vk(v0:Int)(v1:Int)(v2:Int)(v3:Int)(v4:Int)(v5:List cC)(v6:Int)(v7:Bool):Prim.ev (.lit 8 [true,true,true,true,true,false,true,true]) [ii v0,ii v1,ii v2,ii v3,ii v4,.l (v5.map eJ),ii v6,bb v7]=some (.l ([(⟨v0,v1,v2,v3,v4,v5,v6,v7⟩:ay)].map aw)):=qp (by decide) rfl rfl
theorem Vl(v0:Int)(v1:Int)(v2:Int)(v3:Int)(v4:Int)(v5:List cC)(v6:Int)(v7:Bool):Prim.ev (.lit 8 []) [ii v0,ii v1,ii v2,ii v3,ii v4,.l (v5.map eJ),ii v6,bb v7]=some (.l ([(⟨v0,v1,v2,v3,v4,v5,v6,v7⟩:ay)].map aw)):=qp (by decide) rfl rfl
theorem akJ(x:ay):(⟨x.ae,x.kind,x.owner,x.key,x.seq,x.aX,x.cost,x.e_⟩:ay)=x:=rfl
structure Way where
 to:Int
 cost:Int
 aW:List Int
 deriving Inhabited
def bB(x:Way):List T:=[ii x.to,ii x.cost,.l (x.aW.map aE)]
theorem akK{l:List Way}{n:Int}(h:0<=n)(h':n<l.length):Prim.ev (.cell 3 0) [.l (l.map bB),ii n]=some (ii (gt l n).to):=iU h (dV h h') rfl rfl
theorem akL{l:List Way}{n:Int}(h:0<=n)(h':n<l.length):Prim.ev (.bF 3 0) [.l (l.map bB),ii n]=some (ii (gt l n).to):=lQ h (dV h h') rfl rfl rfl
theorem akM{l:List Way}{n:Int}(h:0<=n)(h':n<l.length):Prim.ev (.cell 3 1) [.l (l.map bB),ii n]=some (ii (gt l n).cost):=iU h (dV h h') rfl rfl
theorem akN{l:List Way}{n:Int}(h:0<=n)(h':n<l.length):Prim.ev (.bF 3 1) [.l (l.map bB),ii n]=some (ii (gt l n).cost):=lQ h (dV h h') rfl rfl rfl
theorem akO{l:List Way}{n:Int}(h:0<=n)(h':n<l.length):Prim.ev (.cell 3 2) [.l (l.map bB),ii n]=some (.l ((gt l n).aW.map aE)):=iU h (dV h h') rfl rfl
theorem akP{l:List Way}{n:Int}(h:0<=n)(h':n<l.length):Prim.ev (.lF 3 2) [.l (l.map bB),ii n]=some (.l ((gt l n).aW.map aE)):=yZ h (dV h h') rfl rfl
theorem IP{l m:List Way}(h:l.length+m.length<4294967296):Prim.ev (.app false 3) [.l (l.map bB),.l (m.map bB)]=some (.l ((l++m).map bB)):=sF (w:=3) (λ_=>rfl) (.inl rfl) h
theorem IQ{m:List Way}(h:m.length<4294967296):Prim.ev (.app false 3) [.l [],.l (m.map bB)]=some (.l (m.map bB)):=uC (w:=3) (λ_=>rfl) (.inl rfl) h
theorem Lt{l:List Way}{x:Way}(h:l.length<4294967295):Prim.ev (.app false 3) [.l (l.map bB),.l ([x].map bB)]=some (.l ((l++[x]).map bB)):=IP (by simp;omega)
theorem akQ{x:Way}:Prim.ev (.app false 3) [.l [],.l ([x].map bB)]=some (.l ([x].map bB)):=IQ (by simp)
theorem akR{l:List Way}{a:Int}(h:0<=a)(h':a<=l.length):Prim.ev (.sub 3 true false) [.l (l.map bB),ii a]=some (.l ((l.drop a.toNat).map bB)):=B4 (enc:=bB) (w:=3) (λ_=>rfl) h h'
theorem akS{l:List Way}{a:Int}(h:0<=a)(h':a<=l.length):Prim.ev (.sub 3 false true) [.l (l.map bB),ii a]=some (.l ((l.take a.toNat).map bB)):=B5 (enc:=bB) (w:=3) (λ_=>rfl) h h'
theorem akT(v0:Int)(v1:Int)(v2:List Int):Prim.ev (.lit 3 [true,true,false]) [ii v0,ii v1,.l (v2.map aE)]=some (.l ([(⟨v0,v1,v2⟩:Way)].map bB)):=qp (by decide) rfl rfl
theorem akU(v0:Int)(v1:Int)(v2:List Int):Prim.ev (.lit 3 []) [ii v0,ii v1,.l (v2.map aE)]=some (.l ([(⟨v0,v1,v2⟩:Way)].map bB)):=qp (by decide) rfl rfl
theorem akV(x:Way):(⟨x.to,x.cost,x.aW⟩:Way)=x:=rfl
structure aw7 where
 Vm:Bool
 to:Int
 kind:Int
 cost:Int
 e_:Int
 aW:List Int
 deriving Inhabited
structure Self where
 id:Int
 aV:Int
 net:Net
 heard:List Int
 store:List ay
 deriving Inhabited
def ie(x:Self):List T:=[ii x.id,ii x.aV,ii x.net.n,.l (x.net.aB.map cT),.l (x.net.aG.map dj),.l (x.heard.map aE),.l (x.store.map aw)]
theorem akW{l:List Self}{n:Int}(h:0<=n)(h':n<l.length):Prim.ev (.cell 7 0) [.l (l.map ie),ii n]=some (ii (gt l n).id):=iU h (dV h h') rfl rfl
theorem akX{l:List Self}{n:Int}(h:0<=n)(h':n<l.length):Prim.ev (.bF 7 0) [.l (l.map ie),ii n]=some (ii (gt l n).id):=lQ h (dV h h') rfl rfl rfl
theorem akY{l:List Self}{n:Int}(h:0<=n)(h':n<l.length):Prim.ev (.cell 7 1) [.l (l.map ie),ii n]=some (ii (gt l n).aV):=iU h (dV h h') rfl rfl
theorem akZ{l:List Self}{n:Int}(h:0<=n)(h':n<l.length):Prim.ev (.bF 7 1) [.l (l.map ie),ii n]=some (ii (gt l n).aV):=lQ h (dV h h') rfl rfl rfl
theorem ak0{l:List Self}{n:Int}(h:0<=n)(h':n<l.length):Prim.ev (.cell 7 2) [.l (l.map ie),ii n]=some (ii (gt l n).net.n):=iU h (dV h h') rfl rfl
theorem ak1{l:List Self}{n:Int}(h:0<=n)(h':n<l.length):Prim.ev (.bF 7 2) [.l (l.map ie),ii n]=some (ii (gt l n).net.n):=lQ h (dV h h') rfl rfl rfl
theorem ak2{l:List Self}{n:Int}(h:0<=n)(h':n<l.length):Prim.ev (.cell 7 3) [.l (l.map ie),ii n]=some (.l ((gt l n).net.aB.map cT)):=iU h (dV h h') rfl rfl
theorem ak3{l:List Self}{n:Int}(h:0<=n)(h':n<l.length):Prim.ev (.lF 7 3) [.l (l.map ie),ii n]=some (.l ((gt l n).net.aB.map cT)):=yZ h (dV h h') rfl rfl
theorem ak4{l:List Self}{n:Int}(h:0<=n)(h':n<l.length):Prim.ev (.cell 7 4) [.l (l.map ie),ii n]=some (.l ((gt l n).net.aG.map dj)):=iU h (dV h h') rfl rfl
theorem ak5{l:List Self}{n:Int}(h:0<=n)(h':n<l.length):Prim.ev (.lF 7 4) [.l (l.map ie),ii n]=some (.l ((gt l n).net.aG.map dj)):=yZ h (dV h h') rfl rfl
theorem ak6{l:List Self}{n:Int}(h:0<=n)(h':n<l.length):Prim.ev (.cell 7 5) [.l (l.map ie),ii n]=some (.l ((gt l n).heard.map aE)):=iU h (dV h h') rfl rfl
theorem ak7{l:List Self}{n:Int}(h:0<=n)(h':n<l.length):Prim.ev (.lF 7 5) [.l (l.map ie),ii n]=some (.l ((gt l n).heard.map aE)):=yZ h (dV h h') rfl rfl
theorem ak8{l:List Self}{n:Int}(h:0<=n)(h':n<l.length):Prim.ev (.cell 7 6) [.l (l.map ie),ii n]=some (.l ((gt l n).store.map aw)):=iU h (dV h h') rfl rfl
theorem ak9{l:List Self}{n:Int}(h:0<=n)(h':n<l.length):Prim.ev (.lF 7 6) [.l (l.map ie),ii n]=some (.l ((gt l n).store.map aw)):=yZ h (dV h h') rfl rfl
theorem Vn{l m:List Self}(h:l.length+m.length<4294967296):Prim.ev (.app false 7) [.l (l.map ie),.l (m.map ie)]=some (.l ((l++m).map ie)):=sF (w:=7) (λ_=>rfl) (.inl rfl) h
theorem Vo{m:List Self}(h:m.length<4294967296):Prim.ev (.app false 7) [.l [],.l (m.map ie)]=some (.l (m.map ie)):=uC (w:=7) (λ_=>rfl) (.inl rfl) h
theorem ak_{l:List Self}{x:Self}(h:l.length<4294967295):Prim.ev (.app false 7) [.l (l.map ie),.l ([x].map ie)]=some (.l ((l++[x]).map ie)):=Vn (by simp;omega)
theorem ak'{x:Self}:Prim.ev (.app false 7) [.l [],.l ([x].map ie)]=some (.l ([x].map ie)):=Vo (by simp)
theorem ala{l:List Self}{a:Int}(h:0<=a)(h':a<=l.length):Prim.ev (.sub 7 true false) [.l (l.map ie),ii a]=some (.l ((l.drop a.toNat).map ie)):=B4 (enc:=ie) (w:=7) (λ_=>rfl) h h'
theorem alb{l:List Self}{a:Int}(h:0<=a)(h':a<=l.length):Prim.ev (.sub 7 false true) [.l (l.map ie),ii a]=some (.l ((l.take a.toNat).map ie)):=B5 (enc:=ie) (w:=7) (λ_=>rfl) h h'
theorem alc(v0:Int)(v1:Int)(v2:Int)(v3:List bH)(v4:List bZ)(v5:List Int)(v6:List ay):Prim.ev (.lit 7 [true,true,true,false,false,false,false]) [ii v0,ii v1,ii v2,.l (v3.map cT),.l (v4.map dj),.l (v5.map aE),.l (v6.map aw)]=some (.l ([(⟨v0,v1,⟨v2,v3,v4⟩,v5,v6⟩:Self)].map ie)):=qp (by decide) rfl rfl
theorem ald(v0:Int)(v1:Int)(v2:Int)(v3:List bH)(v4:List bZ)(v5:List Int)(v6:List ay):Prim.ev (.lit 7 []) [ii v0,ii v1,ii v2,.l (v3.map cT),.l (v4.map dj),.l (v5.map aE),.l (v6.map aw)]=some (.l ([(⟨v0,v1,⟨v2,v3,v4⟩,v5,v6⟩:Self)].map ie)):=qp (by decide) rfl rfl
theorem ale(x:Self):(⟨x.id,x.aV,⟨x.net.n,x.net.aB,x.net.aG⟩,x.heard,x.store⟩:Self)=x:=rfl
structure cO where
 node:Int
 ae:Int
 left:Int
 both:Bool
 deriving Inhabited
def bG(x:cO):List T:=[ii x.node,ii x.ae,ii x.left,bb x.both]
theorem alf{l:List cO}{n:Int}(h:0<=n)(h':n<l.length):Prim.ev (.cell 4 0) [.l (l.map bG),ii n]=some (ii (gt l n).node):=iU h (dV h h') rfl rfl
theorem alg{l:List cO}{n:Int}(h:0<=n)(h':n<l.length):Prim.ev (.bF 4 0) [.l (l.map bG),ii n]=some (ii (gt l n).node):=lQ h (dV h h') rfl rfl rfl
theorem alh{l:List cO}{n:Int}(h:0<=n)(h':n<l.length):Prim.ev (.cell 4 1) [.l (l.map bG),ii n]=some (ii (gt l n).ae):=iU h (dV h h') rfl rfl
theorem ali{l:List cO}{n:Int}(h:0<=n)(h':n<l.length):Prim.ev (.bF 4 1) [.l (l.map bG),ii n]=some (ii (gt l n).ae):=lQ h (dV h h') rfl rfl rfl
theorem alj{l:List cO}{n:Int}(h:0<=n)(h':n<l.length):Prim.ev (.cell 4 2) [.l (l.map bG),ii n]=some (ii (gt l n).left):=iU h (dV h h') rfl rfl
theorem alk{l:List cO}{n:Int}(h:0<=n)(h':n<l.length):Prim.ev (.bF 4 2) [.l (l.map bG),ii n]=some (ii (gt l n).left):=lQ h (dV h h') rfl rfl rfl
theorem alm{l:List cO}{n:Int}(h:0<=n)(h':n<l.length):Prim.ev (.cell 4 3) [.l (l.map bG),ii n]=some (bb (gt l n).both):=iU h (dV h h') rfl rfl
theorem aln{l:List cO}{n:Int}(h:0<=n)(h':n<l.length):Prim.ev (.bF 4 3) [.l (l.map bG),ii n]=some (bb (gt l n).both):=lQ h (dV h h') rfl rfl rfl
theorem Vp{l m:List cO}(h:l.length+m.length<4294967296):Prim.ev (.app false 4) [.l (l.map bG),.l (m.map bG)]=some (.l ((l++m).map bG)):=sF (w:=4) (λ_=>rfl) (.inl rfl) h
theorem Vq{m:List cO}(h:m.length<4294967296):Prim.ev (.app false 4) [.l [],.l (m.map bG)]=some (.l (m.map bG)):=uC (w:=4) (λ_=>rfl) (.inl rfl) h
theorem Vr{l m:List cO}(h:l.length+m.length<4294967296):Prim.ev (.app true 4) [.l (l.map bG),.l (m.map bG)]=some (.l ((l++m).map bG)):=sF (w:=4) (λ_=>rfl) (.inr λ_=>rfl) h
theorem Vs{m:List cO}(h:m.length<4294967296):Prim.ev (.app true 4) [.l [],.l (m.map bG)]=some (.l (m.map bG)):=uC (w:=4) (λ_=>rfl) (.inr λ_=>rfl) h
theorem alo{l:List cO}{x:cO}(h:l.length<4294967295):Prim.ev (.app false 4) [.l (l.map bG),.l ([x].map bG)]=some (.l ((l++[x]).map bG)):=Vp (by simp;omega)
theorem alp{x:cO}:Prim.ev (.app false 4) [.l [],.l ([x].map bG)]=some (.l ([x].map bG)):=Vq (by simp)
theorem alq{l:List cO}{x:cO}(h:l.length<4294967295):Prim.ev (.app true 4) [.l (l.map bG),.l ([x].map bG)]=some (.l ((l++[x]).map bG)):=Vr (by simp;omega)
theorem alr{x:cO}:Prim.ev (.app true 4) [.l [],.l ([x].map bG)]=some (.l ([x].map bG)):=Vs (by simp)
theorem als{l:List cO}{a:Int}(h:0<=a)(h':a<=l.length):Prim.ev (.sub 4 true false) [.l (l.map bG),ii a]=some (.l ((l.drop a.toNat).map bG)):=B4 (enc:=bG) (w:=4) (λ_=>rfl) h h'
theorem alt{l:List cO}{a:Int}(h:0<=a)(h':a<=l.length):Prim.ev (.sub 4 false true) [.l (l.map bG),ii a]=some (.l ((l.take a.toNat).map bG)):=B5 (enc:=bG) (w:=4) (λ_=>rfl) h h'
theorem alu(v0:Int)(v1:Int)(v2:Int)(v3:Bool):Prim.ev (.lit 4 [true,true,true,true]) [ii v0,ii v1,ii v2,bb v3]=some (.l ([(⟨v0,v1,v2,v3⟩:cO)].map bG)):=qp (by decide) rfl rfl
theorem alv(v0:Int)(v1:Int)(v2:Int)(v3:Bool):Prim.ev (.lit 4 []) [ii v0,ii v1,ii v2,bb v3]=some (.l ([(⟨v0,v1,v2,v3⟩:cO)].map bG)):=qp (by decide) rfl rfl
theorem alw(x:cO):(⟨x.node,x.ae,x.left,x.both⟩:cO)=x:=rfl
structure Node where
 self:Self
 cq:List cO
 deriving Inhabited
def jt(x:Node):List T:=[ii x.self.id,ii x.self.aV,ii x.self.net.n,.l (x.self.net.aB.map cT),.l (x.self.net.aG.map dj),.l (x.self.heard.map aE),.l (x.self.store.map aw),.l (x.cq.map bG)]
theorem alx{l:List Node}{n:Int}(h:0<=n)(h':n<l.length):Prim.ev (.cell 8 0) [.l (l.map jt),ii n]=some (ii (gt l n).self.id):=iU h (dV h h') rfl rfl
theorem aly{l:List Node}{n:Int}(h:0<=n)(h':n<l.length):Prim.ev (.bF 8 0) [.l (l.map jt),ii n]=some (ii (gt l n).self.id):=lQ h (dV h h') rfl rfl rfl
theorem alz{l:List Node}{n:Int}(h:0<=n)(h':n<l.length):Prim.ev (.cell 8 1) [.l (l.map jt),ii n]=some (ii (gt l n).self.aV):=iU h (dV h h') rfl rfl
theorem alA{l:List Node}{n:Int}(h:0<=n)(h':n<l.length):Prim.ev (.bF 8 1) [.l (l.map jt),ii n]=some (ii (gt l n).self.aV):=lQ h (dV h h') rfl rfl rfl
theorem alB{l:List Node}{n:Int}(h:0<=n)(h':n<l.length):Prim.ev (.cell 8 2) [.l (l.map jt),ii n]=some (ii (gt l n).self.net.n):=iU h (dV h h') rfl rfl
theorem alC{l:List Node}{n:Int}(h:0<=n)(h':n<l.length):Prim.ev (.bF 8 2) [.l (l.map jt),ii n]=some (ii (gt l n).self.net.n):=lQ h (dV h h') rfl rfl rfl
theorem alD{l:List Node}{n:Int}(h:0<=n)(h':n<l.length):Prim.ev (.cell 8 3) [.l (l.map jt),ii n]=some (.l ((gt l n).self.net.aB.map cT)):=iU h (dV h h') rfl rfl
theorem alE{l:List Node}{n:Int}(h:0<=n)(h':n<l.length):Prim.ev (.lF 8 3) [.l (l.map jt),ii n]=some (.l ((gt l n).self.net.aB.map cT)):=yZ h (dV h h') rfl rfl
theorem alF{l:List Node}{n:Int}(h:0<=n)(h':n<l.length):Prim.ev (.cell 8 4) [.l (l.map jt),ii n]=some (.l ((gt l n).self.net.aG.map dj)):=iU h (dV h h') rfl rfl
theorem alG{l:List Node}{n:Int}(h:0<=n)(h':n<l.length):Prim.ev (.lF 8 4) [.l (l.map jt),ii n]=some (.l ((gt l n).self.net.aG.map dj)):=yZ h (dV h h') rfl rfl
theorem alH{l:List Node}{n:Int}(h:0<=n)(h':n<l.length):Prim.ev (.cell 8 5) [.l (l.map jt),ii n]=some (.l ((gt l n).self.heard.map aE)):=iU h (dV h h') rfl rfl
theorem alI{l:List Node}{n:Int}(h:0<=n)(h':n<l.length):Prim.ev (.lF 8 5) [.l (l.map jt),ii n]=some (.l ((gt l n).self.heard.map aE)):=yZ h (dV h h') rfl rfl
theorem alJ{l:List Node}{n:Int}(h:0<=n)(h':n<l.length):Prim.ev (.cell 8 6) [.l (l.map jt),ii n]=some (.l ((gt l n).self.store.map aw)):=iU h (dV h h') rfl rfl
theorem alK{l:List Node}{n:Int}(h:0<=n)(h':n<l.length):Prim.ev (.lF 8 6) [.l (l.map jt),ii n]=some (.l ((gt l n).self.store.map aw)):=yZ h (dV h h') rfl rfl
theorem alL{l:List Node}{n:Int}(h:0<=n)(h':n<l.length):Prim.ev (.cell 8 7) [.l (l.map jt),ii n]=some (.l ((gt l n).cq.map bG)):=iU h (dV h h') rfl rfl
theorem alM{l:List Node}{n:Int}(h:0<=n)(h':n<l.length):Prim.ev (.lF 8 7) [.l (l.map jt),ii n]=some (.l ((gt l n).cq.map bG)):=yZ h (dV h h') rfl rfl
theorem Vt{l m:List Node}(h:l.length+m.length<4294967296):Prim.ev (.app false 8) [.l (l.map jt),.l (m.map jt)]=some (.l ((l++m).map jt)):=sF (w:=8) (λ_=>rfl) (.inl rfl) h
theorem Vu{m:List Node}(h:m.length<4294967296):Prim.ev (.app false 8) [.l [],.l (m.map jt)]=some (.l (m.map jt)):=uC (w:=8) (λ_=>rfl) (.inl rfl) h
theorem alN{l:List Node}{x:Node}(h:l.length<4294967295):Prim.ev (.app false 8) [.l (l.map jt),.l ([x].map jt)]=some (.l ((l++[x]).map jt)):=Vt (by simp;omega)
theorem alO{x:Node}:Prim.ev (.app false 8) [.l [],.l ([x].map jt)]=some (.l ([x].map jt)):=Vu (by simp)
theorem alP{l:List Node}{a:Int}(h:0<=a)(h':a<=l.length):Prim.ev (.sub 8 true false) [.l (l.map jt),ii a]=some (.l ((l.drop a.toNat).map jt)):=B4 (enc:=jt) (w:=8) (λ_=>rfl) h h'
theorem alQ{l:List Node}{a:Int}(h:0<=a)(h':a<=l.length):Prim.ev (.sub 8 false true) [.l (l.map jt),ii a]=some (.l ((l.take a.toNat).map jt)):=B5 (enc:=jt) (w:=8) (λ_=>rfl) h h'
theorem alR(v0:Int)(v1:Int)(v2:Int)(v3:List bH)(v4:List bZ)(v5:List Int)(v6:List ay)(v7:List cO):Prim.ev (.lit 8 [true,true,true,false,false,false,false,false]) [ii v0,ii v1,ii v2,.l (v3.map cT),.l (v4.map dj),.l (v5.map aE),.l (v6.map aw),.l (v7.map bG)]=some (.l ([(⟨⟨v0,v1,⟨v2,v3,v4⟩,v5,v6⟩,v7⟩:Node)].map jt)):=qp (by decide) rfl rfl
theorem alS(v0:Int)(v1:Int)(v2:Int)(v3:List bH)(v4:List bZ)(v5:List Int)(v6:List ay)(v7:List cO):Prim.ev (.lit 8 []) [ii v0,ii v1,ii v2,.l (v3.map cT),.l (v4.map dj),.l (v5.map aE),.l (v6.map aw),.l (v7.map bG)]=some (.l ([(⟨⟨v0,v1,⟨v2,v3,v4⟩,v5,v6⟩,v7⟩:Node)].map jt)):=qp (by decide) rfl rfl
theorem alT(x:Node):(⟨⟨x.self.id,x.self.aV,⟨x.self.net.n,x.self.net.aB,x.self.net.aG⟩,x.self.heard,x.self.store⟩,x.cq⟩:Node)=x:=rfl
structure bd where
 kind:Int
 fQ:Int
 to:Int
 ae:Int
 heard:List Int
 list:List ay
 deriving Inhabited
def ej(x:bd):List T:=[ii x.kind,ii x.fQ,ii x.to,ii x.ae,.l (x.heard.map aE),.l (x.list.map aw)]
theorem alU{l:List bd}{n:Int}(h:0<=n)(h':n<l.length):Prim.ev (.cell 6 0) [.l (l.map ej),ii n]=some (ii (gt l n).kind):=iU h (dV h h') rfl rfl
theorem alV{l:List bd}{n:Int}(h:0<=n)(h':n<l.length):Prim.ev (.bF 6 0) [.l (l.map ej),ii n]=some (ii (gt l n).kind):=lQ h (dV h h') rfl rfl rfl
theorem alW{l:List bd}{n:Int}(h:0<=n)(h':n<l.length):Prim.ev (.cell 6 1) [.l (l.map ej),ii n]=some (ii (gt l n).fQ):=iU h (dV h h') rfl rfl
theorem alX{l:List bd}{n:Int}(h:0<=n)(h':n<l.length):Prim.ev (.bF 6 1) [.l (l.map ej),ii n]=some (ii (gt l n).fQ):=lQ h (dV h h') rfl rfl rfl
theorem alY{l:List bd}{n:Int}(h:0<=n)(h':n<l.length):Prim.ev (.cell 6 2) [.l (l.map ej),ii n]=some (ii (gt l n).to):=iU h (dV h h') rfl rfl
theorem alZ{l:List bd}{n:Int}(h:0<=n)(h':n<l.length):Prim.ev (.bF 6 2) [.l (l.map ej),ii n]=some (ii (gt l n).to):=lQ h (dV h h') rfl rfl rfl
theorem al0{l:List bd}{n:Int}(h:0<=n)(h':n<l.length):Prim.ev (.cell 6 3) [.l (l.map ej),ii n]=some (ii (gt l n).ae):=iU h (dV h h') rfl rfl
theorem al1{l:List bd}{n:Int}(h:0<=n)(h':n<l.length):Prim.ev (.bF 6 3) [.l (l.map ej),ii n]=some (ii (gt l n).ae):=lQ h (dV h h') rfl rfl rfl
theorem al2{l:List bd}{n:Int}(h:0<=n)(h':n<l.length):Prim.ev (.cell 6 4) [.l (l.map ej),ii n]=some (.l ((gt l n).heard.map aE)):=iU h (dV h h') rfl rfl
theorem al3{l:List bd}{n:Int}(h:0<=n)(h':n<l.length):Prim.ev (.lF 6 4) [.l (l.map ej),ii n]=some (.l ((gt l n).heard.map aE)):=yZ h (dV h h') rfl rfl
theorem al4{l:List bd}{n:Int}(h:0<=n)(h':n<l.length):Prim.ev (.cell 6 5) [.l (l.map ej),ii n]=some (.l ((gt l n).list.map aw)):=iU h (dV h h') rfl rfl
theorem al5{l:List bd}{n:Int}(h:0<=n)(h':n<l.length):Prim.ev (.lF 6 5) [.l (l.map ej),ii n]=some (.l ((gt l n).list.map aw)):=yZ h (dV h h') rfl rfl
theorem Lu{l m:List bd}(h:l.length+m.length<4294967296):Prim.ev (.app false 6) [.l (l.map ej),.l (m.map ej)]=some (.l ((l++m).map ej)):=sF (w:=6) (λ_=>rfl) (.inl rfl) h
theorem Vv{m:List bd}(h:m.length<4294967296):Prim.ev (.app false 6) [.l [],.l (m.map ej)]=some (.l (m.map ej)):=uC (w:=6) (λ_=>rfl) (.inl rfl) h
theorem al6{l:List bd}{x:bd}(h:l.length<4294967295):Prim.ev (.app false 6) [.l (l.map ej),.l ([x].map ej)]=some (.l ((l++[x]).map ej)):=Lu (by simp;omega)
theorem al7{x:bd}:Prim.ev (.app false 6) [.l [],.l ([x].map ej)]=some (.l ([x].map ej)):=Vv (by simp)
theorem al8{l:List bd}{a:Int}(h:0<=a)(h':a<=l.length):Prim.ev (.sub 6 true false) [.l (l.map ej),ii a]=some (.l ((l.drop a.toNat).map ej)):=B4 (enc:=ej) (w:=6) (λ_=>rfl) h h'
theorem al9{l:List bd}{a:Int}(h:0<=a)(h':a<=l.length):Prim.ev (.sub 6 false true) [.l (l.map ej),ii a]=some (.l ((l.take a.toNat).map ej)):=B5 (enc:=ej) (w:=6) (λ_=>rfl) h h'
theorem Vw(v0:Int)(v1:Int)(v2:Int)(v3:Int)(v4:List Int)(v5:List ay):Prim.ev (.lit 6 [true,true,true,true,false,false]) [ii v0,ii v1,ii v2,ii v3,.l (v4.map aE),.l (v5.map aw)]=some (.l ([(⟨v0,v1,v2,v3,v4,v5⟩:bd)].map ej)):=qp (by decide) rfl rfl
theorem Lv(v0:Int)(v1:Int)(v2:Int)(v3:Int)(v4:List Int)(v5:List ay):Prim.ev (.lit 6 []) [ii v0,ii v1,ii v2,ii v3,.l (v4.map aE),.l (v5.map aw)]=some (.l ([(⟨v0,v1,v2,v3,v4,v5⟩:bd)].map ej)):=qp (by decide) rfl rfl
theorem al_(x:bd):(⟨x.kind,x.fQ,x.to,x.ae,x.heard,x.list⟩:bd)=x:=rfl
structure al' where
 Vm:Bool
 to:Int
 aW:List Int
 deriving Inhabited
structure ayA where
 gone:Bool
 line:al'
 deriving Inhabited
structure World where
 net:Net
 aB:List Bool
 up:List Bool
 aw8:List Int
 nodes:List Node
 ama:List bd
 told:List ay
 errors:Int
 deriving Inhabited
set_option linter.unusedSimpArgs false
set_option linter.defProp false
theorem pz:(∀p:Prop,(p∨p)=p)∧(∀p:Prop,(p∨True)=True)∧(∀p:Prop,(True∨p)=True)∧(∀p:Prop,(p∨False)=p)∧(∀p:Prop,(False∨p)=p)∧(¬True)=False∧(¬False)=True∧(∀a:Int,(a<a)=False):=
 ⟨or_self,or_true,true_or,or_false,false_or,not_true_eq_false,not_false_eq_true,λa=>eq_false (Int.lt_irrefl a)⟩
@[congr] theorem ayB {α β:Type} {F:(α->Option β)->α->Option β} {R:Nat} {x y:α} (h:x=y):iter F R x=iter F R y:=by rw[h]
@[congr] theorem ayC {α β:Type} {o o':Option α} {f:α->Option β} (h:o=o'):o.bind f=o'.bind f:=by rw[h]
@[congr] theorem ayD {t t':T} {x y:Option (List T)} (h:t=t'):ax t x y=ax t' x y:=by rw[h]
@[congr] theorem ayE {k:aA} {b:aA->Option (List T)}:jn k b=jn k b:=rfl
@[congr] theorem ayF {o o':Option (List T)} {k:T->Option (List T)} (h:o=o'):aY o k=aY o' k:=by rw[h]
@[congr] theorem ayG {k:T->Option (List T)} {l l':List T} (h:l=l'):dz k l=dz k l':=by rw[h]
@[congr] theorem ayH {o o':Option (List T)} {k:T->T->Option (List T)} (h:o=o'):FW o k=FW o' k:=by rw[h]
@[congr] theorem ayI {k:T->T->Option (List T)} {l l':List T} (h:l=l'):di k l=di k l':=by rw[h]
@[congr] theorem ayJ {o o':Option (List T)} {k:T->T->T->Option (List T)} (h:o=o'):mQ o k=mQ o' k:=by rw[h]
@[congr] theorem ayK {k:T->T->T->Option (List T)} {l l':List T} (h:l=l'):sD k l=sD k l':=by rw[h]
@[congr] theorem ayL {o o':Option (List T)} {k:T->T->T->T->Option (List T)} (h:o=o'):fe o k=fe o' k:=by rw[h]
@[congr] theorem ayM {k:T->T->T->T->Option (List T)} {l l':List T} (h:l=l'):wG k l=wG k l':=by rw[h]
@[congr] theorem ayN {k:T->T->T->T->T->Option (List T)} {l l':List T} (h:l=l'):rF k l=rF k l':=by rw[h]
@[congr] theorem ayO {o o':Option (List T)} {k:T->T->T->T->T->T->Option (List T)} (h:o=o'):Lq o k=Lq o' k:=by rw[h]
@[congr] theorem ayP {k:T->T->T->T->T->T->Option (List T)} {l l':List T} (h:l=l'):UL k l=UL k l':=by rw[h]
@[congr] theorem ayQ {o o':Option (List T)} {k:T->T->T->T->T->T->T->Option (List T)} (h:o=o'):Ak o k=Ak o' k:=by rw[h]
@[congr] theorem ayR {k:T->T->T->T->T->T->T->Option (List T)} {l l':List T} (h:l=l'):IM k l=IM k l':=by rw[h]
@[congr] theorem ayS {o o':Option (List T)} {k:T->T->T->T->T->T->T->T->Option (List T)} (h:o=o'):jX o k=jX o' k:=by rw[h]
@[congr] theorem ayT {k:T->T->T->T->T->T->T->T->Option (List T)} {l l':List T} (h:l=l'):Qt k l=Qt k l':=by rw[h]
@[congr] theorem ayU {o o':Option (List T)} {k:T->T->T->T->T->T->T->T->T->Option (List T)} (h:o=o'):uA o k=uA o' k:=by rw[h]
@[congr] theorem ayV {k:T->T->T->T->T->T->T->T->T->Option (List T)} {l l':List T} (h:l=l'):Qu k l=Qu k l':=by rw[h]
@[congr] theorem ayW {o o':Option (List T)} {k:T->T->T->T->T->T->T->T->T->T->Option (List T)} (h:o=o'):FX o k=FX o' k:=by rw[h]
@[congr] theorem ayX {k:T->T->T->T->T->T->T->T->T->T->Option (List T)} {l l':List T} (h:l=l'):FY k l=FY k l':=by rw[h]
@[congr] theorem ayY {o o':Option (List T)} {k:T->T->T->T->T->T->T->T->T->T->T->Option (List T)} (h:o=o'):sE o k=sE o' k:=by rw[h]
@[congr] theorem ayZ {k:T->T->T->T->T->T->T->T->T->T->T->Option (List T)} {l l':List T} (h:l=l'):q8 k l=q8 k l':=by rw[h]
@[congr] theorem ay0 {o o':Option (List T)} {k:T->T->T->T->T->T->T->T->T->T->T->T->T->T->Option (List T)} (h:o=o'):q9 o k=q9 o' k:=by rw[h]
@[congr] theorem ay1 {k:T->T->T->T->T->T->T->T->T->T->T->T->T->T->Option (List T)} {l l':List T} (h:l=l'):B0 k l=B0 k l':=by rw[h]
theorem Vx(b:Bool)(x y:Option (List T)):ax (bb b) x y=if b=true then x else y:=by cases b<;>rfl
theorem amb:Prim.ev .len [.l []]=some (ii 0):=rfl
theorem amc(a b:Int)(h:b≠0):Prim.ev (.bin .rem) [ii a,ii b]=some (ii (a.tmod b)):=by
 simp only[Prim.ev,T.val,jS,Option.bind_some,if_true,h,if_false]
theorem amd(a b:Int):Prim.ev .mx [ii a,ii b]=some (ii (if b>a then b else a)):=rfl
theorem ame(a b:Int):Prim.ev .mn [ii a,ii b]=some (ii (if b<a then b else a)):=rfl
theorem amf(a b c d a' b' c' d':Int):Prim.ev (.eqs [1,1,1,1]) [ii a,ii b,ii c,ii d,ii a',ii b',ii c',ii d']=some (bb (a==a'&&(b==b'&&(c==c'&&(d==d'))))):=by
 simp[Prim.ev,xa,Qd]
theorem amg(a b c a' b' c':Int)(d d':Bool):Prim.ev (.eqs [1,1,1,4]) [ii a,ii b,ii c,bb d,ii a',ii b',ii c',bb d']=some (bb (a==a'&&(b==b'&&(c==c'&&(d==d'))))):=by
 simp[Prim.ev,xa,Qd]
theorem amh{w:Nat}(h:0<w):Prim.ev (.lit w []) []=some (.l []):=by
 simp[Prim.ev,qE,nT,h]
theorem ami(a b:Int):Prim.ev (.lit 1 [true,true]) [ii a,ii b]=some (.l ([a,b].map aE)):=by simp[Prim.ev,qE,nT,eA,aE]
theorem amj(a b:Int):Prim.ev (.lit 1 []) [ii a,ii b]=some (.l ([a,b].map aE)):=by simp[Prim.ev,qE,nT,aE]
theorem Vy{l:List Int}{x y:Int}(h:l.length<4294967294):Prim.ev (.app true 1) [.l (l.map aE),.l ([x,y].map aE)]=some (.l ((l++[x,y]).map aE)):=y7 (by simp;omega)
theorem amk(a b:Int):((a==b)=true)=(a=b):=by simp
theorem aml(a b:Int):((a !=b)=true)=¬(a=b):=by simp
theorem amm(b:Bool):((!b)=true)=¬(b=true):=by simp
theorem amn(a b:Bool):((a !=b)=true)=¬((a=true)=(b=true)):=by cases a<;>cases b<;>simp
theorem amo(a b:Bool):((a==b)=true)=((a=true)=(b=true)):=by cases a<;>cases b<;>simp
theorem rG(n:Nat):((n+1:Nat):Int)=(n:Int)+1:=by simp
theorem B7(a b:Nat):((a+b:Nat):Int)=(a:Int)+b:=by simp
theorem B8:((1:Nat):Int)=1:=rfl
theorem amp:((2:Nat):Int)=2:=rfl
theorem amq:((3:Nat):Int)=3:=rfl
theorem amr:((5:Nat):Int)=5:=rfl
theorem ams:((6:Nat):Int)=6:=rfl
theorem amt:((7:Nat):Int)=7:=rfl
theorem amu:((9:Nat):Int)=9:=rfl
theorem Lw:((0:Nat):Int)=0:=rfl
theorem y8{α:Type}{p q:Prop} [Decidable p] [Decidable q](h:p↔q)(x y:α):(if p then x else y)=if q then x else y:=by
 by_cases hq:q
 ·rw[if_pos (h.2 hq),if_pos hq]
 ·rw[if_neg (λhp=>hq (h.1 hp)),if_neg hq]
def ke(n:Nat)(p:Nat->Bool):Bool:=(List.range n).all p
theorem bW{n:Nat}{p:Nat->Bool}:ke n p=true↔∀i,i<n->p i=true:=by
 simp[ke]
theorem B9{β σ:Type}{F:(σ->Option β)->σ->Option β}(n:Nat)(st:Nat->σ)(p:Nat->Bool){gV fF:Option β}
  (step:∀i:Nat,(i:Int)<(n:Int)->∀s,F s (st i)=if p i=true then s (st (i+1))else fF)(fin:∀s,F s (st n)=gV){R:Nat}(hR:n<R):
  iter F R (st 0)=if ke n p=true then gV else fF:=by
 classical
 have:∀(d i:Nat),i+d=n->∀R,d<R->iter F R (st i)=if(∀j,i<=j->j<n->p j=true)then gV else fF:=by
  intro d
  induction d with
  |zero=>
   intro i hi R hR
   cases R with
   |zero=>omega
   |succ R=>
    have hi:i=n:=hi
    subst hi
    rw[if_pos (λj h1 h2=>absurd h1 (by omega))]
    exact fin _
  |succ d ih=>
   intro i hi R hR
   cases R with
   |zero=>omega
   |succ R=>
    unfold iter
    rw[step i (by omega)]
    by_cases hp:p i=true
    ·rw[if_pos hp,ih (i+1) (by omega) R (by omega)]
     refine y8 ⟨λh j h1 h2=>?_,λh j h1 h2=>h j (by omega) h2⟩ _ _
     rcases Nat.lt_or_ge i j with h3|h3
     ·exact h j h3 h2
     ·have:j=i:=by omega
      subst this;exact hp
    ·rw[if_neg hp,if_neg λh=>hp (h i (Nat.le_refl i) (by omega))]
 rw[this n 0 (by omega) R hR]
 exact y8 ⟨λh=>bW.2 λi hi=>h i (Nat.zero_le i) hi,λh j _ h2=>bW.1 h j h2⟩ _ _
def dJ{α:Type}(p:α->Bool)(l:List α):Int:=match l.findIdx? p with|some i=>(i:Int)|none=>-1
theorem o5{α:Type}(p:α->Bool)(l:List α):dJ p l<l.length:=by
 unfold dJ
 cases h:l.findIdx? p with
 |none=>show(-1:Int)<_;omega
 |some i=>
  obtain⟨h1,_⟩:=List.findIdx?_eq_some_iff_getElem.1 h
  show(i:Int)<_;omega
theorem Lx{α:Type}(p:α->Bool)(l:List α):-1<=dJ p l:=by
 unfold dJ
 cases h:l.findIdx? p with
 |none=>show(-1:Int)<=-1;omega
 |some i=>show(-1:Int)<=(i:Int);omega
theorem q_{α:Type} [Inhabited α](p:α->Bool)(l:List α)(h:0<=dJ p l):p (gt l (dJ p l))=true:=by
 unfold dJ at h⊢
 cases h':l.findIdx? p with
 |none=>rw[h']at h;exact absurd h (by decide)
 |some i=>
  obtain⟨h1,h2,_⟩:=List.findIdx?_eq_some_iff_getElem.1 h'
  show p (gt l (i:Int))=true
  rw[eh h1];exact h2
theorem D8{α:Type}(p:α->Bool)(l:List α):dJ p l<0↔∀x∈l,p x=false:=by
 unfold dJ
 cases h:l.findIdx? p with
 |none=>
  rw[List.findIdx?_eq_none_iff]at h
  exact⟨λ_=>h,λ_=>by show(-1:Int)<0;decide⟩
 |some i=>
  obtain⟨h1,h2,_⟩:=List.findIdx?_eq_some_iff_getElem.1 h
  refine⟨λh3=>absurd (show(i:Int)<0 from h3) (by omega),λh3=>?_⟩
  rw[h3 _ (List.getElem_mem h1)]at h2
  cases h2
theorem Ly{α β σ:Type} [Inhabited α]{F:(σ->Option β)->σ->Option β}(l:List α)(st:Nat->σ)(p:α->Bool)(sG:Int->Option β){ku:Option β}
  (step:∀i:Nat,(i:Int)<(l.length:Int)->∀s,F s (st i)=if p (gt l i)=true then sG i else s (st (i+1)))(fin:∀s,F s (st l.length)=ku){R:Nat}(hR:l.length<R):
  iter F R (st 0)=if dJ p l<0 then ku else sG (dJ p l):=by
 have:∀(d i:Nat),i+d=l.length->∀R,d<R->iter F R (st i)=(match(l.drop i).findIdx? p with|some k=>sG ((i+k:Nat):Int)|none=>ku):=by
  intro d
  induction d with
  |zero=>
   intro i hi R hR
   cases R with
   |zero=>omega
   |succ R=>
    rw[Nat.add_zero]at hi
    subst hi
    rw[List.drop_length]
    exact fin _
  |succ d ih=>
   intro i hi R hR
   cases R with
   |zero=>omega
   |succ R=>
    have bC:i<l.length:=by omega
    unfold iter
    rw[step i (by omega),List.drop_eq_getElem_cons bC,List.findIdx?_cons,eh bC]
    cases hp:p l[i]with
    |true=>simp
    |false=>
     simp only[cE,if_false]
     rw[ih (i+1) (by omega) R (by omega)]
     cases(l.drop (i+1)).findIdx? p with
     |none=>rfl
     |some k=>simp[Int.add_assoc,Int.add_comm 1]
 have h:=this l.length 0 (by omega) R hR
 rw[h,List.drop_zero]
 unfold dJ
 cases l.findIdx? p with
 |none=>rfl
 |some i=>
  show sG ((0+i:Nat):Int)=if(i:Int)<0 then ku else sG (i:Int)
  rw[if_neg (by omega),Nat.zero_add]
theorem Vz{α γ β σ:Type} [Inhabited α]{F:(σ->Option β)->σ->Option β}(l:List α)(st:Nat->γ->σ)(g:γ->α->γ)(out:γ->Option β)(c:γ)(Inv:Nat->γ->Prop)(h0:Inv 0 c)
  (step:∀(i:Nat) c,(i:Int)<(l.length:Int)->Inv i c->Inv (i+1) (g c (gt l i))∧∀s,F s (st i c)=s (st (i+1) (g c (gt l i))))(fin:∀c s,Inv l.length c->F s (st l.length c)=out c){R:Nat}(hR:l.length<R):
  iter F R (st 0 c)=out (l.foldl g c):=by
 have:∀(d i:Nat) (c:γ),i+d=l.length->Inv i c->∀R,d<R->iter F R (st i c)=out ((l.drop i).foldl g c):=by
  intro d
  induction d with
  |zero=>
   intro i c hi hc R hR
   cases R with
   |zero=>omega
   |succ R=>
    rw[Nat.add_zero]at hi
    subst hi
    rw[List.drop_length]
    exact fin _ _ hc
  |succ d ih=>
   intro i c hi hc R hR
   cases R with
   |zero=>omega
   |succ R=>
    have bC:i<l.length:=by omega
    unfold iter
    obtain⟨h1,h2⟩:=step i c (by omega) hc
    rw[h2,List.drop_eq_getElem_cons bC,List.foldl_cons,ih (i+1) _ (by omega) h1 R (by omega),eh bC]
 have h:=this l.length 0 c (by omega) h0 R hR
 simpa using h
theorem amv{γ β σ:Type}{F:(σ->Option β)->σ->Option β}(n:Nat)(st:Nat->γ->σ)(g:γ->Nat->γ)(out:γ->Option β)(c:γ)(Inv:Nat->γ->Prop)(h0:Inv 0 c)
  (step:∀(i:Nat) c,(i:Int)<(n:Int)->Inv i c->Inv (i+1) (g c i)∧∀s,F s (st i c)=s (st (i+1) (g c i)))(fin:∀c s,Inv n c->F s (st n c)=out c){R:Nat}(hR:n<R):
  iter F R (st 0 c)=out ((List.range n).foldl g c):=by
 have hl:(List.range n).length=n:=List.length_range
 refine Vz (List.range n) st g out c Inv h0 (λi c hi hc=>?_) (λc s hc=>?_) (by rw[hl];exact hR)
 ·rw[hl]at hi
  rw[eh (by rw[hl];omega),List.getElem_range]
  exact step i c hi hc
 ·rw[hl]at hc⊢
  exact fin c s hc
theorem IR{α β:Type}(p:α->Bool)(f:α->β)(l:List α)(acc:List β):l.foldl (λc a=>if p a=true then c++[f a]else c) acc=acc++(l.filter p).map f:=by
 induction l generalizing acc with
 |nil=>simp
 |cons a l ih=>
  rw[List.foldl_cons,ih]
  cases h:p a<;>simp[h,List.filter_cons]
theorem foldl_map{α β:Type}(f:α->β)(l:List α)(acc:List β):l.foldl (λc a=>c++[f a]) acc=acc++l.map f:=by
 induction l generalizing acc with
 |nil=>simp
 |cons a l ih=>rw[List.foldl_cons,ih];simp
theorem sH{β σ:Type}{F:(σ->Option β)->σ->Option β}{R:Nat}{x:σ}(n:Nat)(st:Nat->σ)(p:Nat->Bool){gV fF:Option β}(hx:x=st 0)(hR:n<R)
  (step:∀i:Nat,(i:Int)<(n:Int)->∀s,F s (st i)=if p i=true then s (st (i+1))else fF)(fin:∀s,F s (st n)=gV):
  iter F R x=if ke n p=true then gV else fF:=by rw[hx];exact B9 n st p step fin hR
theorem D9{α β σ:Type} [Inhabited α]{F:(σ->Option β)->σ->Option β}{R:Nat}{x:σ}(l:List α)(st:Nat->σ)(p:α->Bool)(sG:Int->Option β){ku:Option β}(hx:x=st 0)(hR:l.length<R)
  (step:∀i:Nat,(i:Int)<(l.length:Int)->∀s,F s (st i)=if p (gt l i)=true then sG i else s (st (i+1)))(fin:∀s,F s (st l.length)=ku):
  iter F R x=if dJ p l<0 then ku else sG (dJ p l):=by rw[hx];exact Ly l st p sG step fin hR
theorem gO{α γ β σ:Type} [Inhabited α]{F:(σ->Option β)->σ->Option β}{R:Nat}{x:σ}(l:List α)(st:Nat->γ->σ)(g:γ->α->γ)(out:γ->Option β)(c:γ)(Inv:Nat->γ->Prop)(hx:x=st 0 c)(hR:l.length<R)(h0:Inv 0 c)
  (step:∀(i:Nat) c,(i:Int)<(l.length:Int)->Inv i c->Inv (i+1) (g c (gt l i))∧∀s,F s (st i c)=s (st (i+1) (g c (gt l i))))(fin:∀c s,Inv l.length c->F s (st l.length c)=out c):
  iter F R x=out (l.foldl g c):=by rw[hx];exact Vz l st g out c Inv h0 step fin hR
theorem o6{γ β σ:Type}{F:(σ->Option β)->σ->Option β}{R:Nat}{x:σ}(n:Nat)(st:Nat->γ->σ)(g:γ->Nat->γ)(out:γ->Option β)(c:γ)(Inv:Nat->γ->Prop)(hx:x=st 0 c)(hR:n<R)(h0:Inv 0 c)
  (step:∀(i:Nat) c,(i:Int)<(n:Int)->Inv i c->Inv (i+1) (g c i)∧∀s,F s (st i c)=s (st (i+1) (g c i)))(fin:∀c s,Inv n c->F s (st n c)=out c):
  iter F R x=out ((List.range n).foldl g c):=by rw[hx];exact amv n st g out c Inv h0 step fin hR
theorem IU{α γ:Type} [Inhabited α]{l:List α}{g:γ->α->γ}{c:γ}{Inv:Nat->γ->Prop}(h0:Inv 0 c)(step:∀(i:Nat) c,(i:Int)<(l.length:Int)->Inv i c->Inv (i+1) (g c (gt l i))):Inv l.length (l.foldl g c):=by
 have:∀(d i:Nat) (c:γ),i+d=l.length->Inv i c->Inv l.length ((l.drop i).foldl g c):=by
  intro d
  induction d with
  |zero=>intro i c hi hc;rw[Nat.add_zero]at hi;subst hi;rw[List.drop_length];exact hc
  |succ d ih=>
   intro i c hi hc
   have bC:i<l.length:=by omega
   rw[List.drop_eq_getElem_cons bC,List.foldl_cons]
   have:=step i c (by omega) hc
   rw[eh bC]at this
   exact ih (i+1) _ (by omega) this
 have h:=this l.length 0 c (by omega) h0
 simpa using h
theorem VA(n:Nat):(n:Int).tmod 2=((n%2:Nat):Int):=rfl
theorem c_{n:Nat}(h:n<=1048576):n<rounds:=by unfold rounds;omega
def F2{γ:Type}(ok:Nat->γ->Bool)(g:γ->Nat->γ)(n:Nat)(c:γ):Option γ:=(List.range n).foldl (λo i=>o.bind λc=>if ok i c=true then some (g c i)else none) (some c)
theorem VB{γ:Type}(ok:Nat->γ->Bool)(g:γ->Nat->γ)(l:List Nat):l.foldl (λo i=>o.bind λc=>if ok i c=true then some (g c i)else none) (none:Option γ)=none:=by
 induction l with
 |nil=>rfl
 |cons i l ih=>exact ih
theorem Lz{γ β σ:Type}{F:(σ->Option β)->σ->Option β}{R:Nat}{x:σ}(n:Nat)(st:Nat->γ->σ)(ok:Nat->γ->Bool)(g:γ->Nat->γ)(out:γ->Option β){fF:Option β}(c:γ)(Inv:Nat->γ->Prop)(hx:x=st 0 c)(hR:n<R)(h0:Inv 0 c)
  (step:∀(i:Nat) c,(i:Int)<(n:Int)->Inv i c->(ok i c=true->Inv (i+1) (g c i))∧∀s,F s (st i c)=if ok i c=true then s (st (i+1) (g c i))else fF)(fin:∀c s,Inv n c->F s (st n c)=out c):
  iter F R x=match F2 ok g n c with|some c=>out c|none=>fF:=by
 subst hx
 have:∀(d i:Nat) (c:γ),i+d=n->Inv i c->∀R,d<R->iter F R (st i c)=match((List.range n).drop i).foldl (λo i=>o.bind λc=>if ok i c=true then some (g c i)else none) (some c)with|some c=>out c|none=>fF:=by
  intro d
  induction d with
  |zero=>
   intro i c hi hc R hR
   cases R with
   |zero=>omega
   |succ R=>
    rw[Nat.add_zero]at hi
    subst hi
    rw[List.drop_eq_nil_iff.2 (by simp)]
    exact fin _ _ hc
  |succ d ih=>
   intro i c hi hc R hR
   cases R with
   |zero=>omega
   |succ R=>
    have bC:i<(List.range n).length:=by simp;omega
    unfold iter
    obtain⟨h1,h2⟩:=step i c (by omega) hc
    rw[h2,List.drop_eq_getElem_cons bC,List.foldl_cons,List.getElem_range]
    cases hp:ok i c with
    |true=>
     simp only[if_true,Option.bind_some,hp]
     exact ih (i+1) _ (by omega) (h1 hp) R (by omega)
    |false=>
     simp only[cE,if_false,Option.bind_some,hp,VB]
 have h:=this n 0 c (by omega) h0 R hR
 simpa[F2]using h
theorem VC{γ:Type}{ok:Nat->γ->Bool}{g:γ->Nat->γ}(P:γ->Bool){n:Nat}{c:γ}(ux:∀c i,P (g c i)=true->P c=true)(cV:∀i c,i<n->P c=true->ok i c=P (g c i))(h:P c=true):
  F2 ok g n c=if P ((List.range n).foldl g c)=true then some ((List.range n).foldl g c)else none:=by
 have:∀(l:List Nat) (c:γ),(∀i∈l,i<n)->P c=true->l.foldl (λo i=>o.bind λc=>if ok i c=true then some (g c i)else none) (some c)=if P (l.foldl g c)=true then some (l.foldl g c)else none:=by
  intro l
  induction l with
  |nil=>intro c _ hc;simp[hc]
  |cons i l ih=>
   intro c hl hc
   rw[List.foldl_cons,List.foldl_cons,Option.bind_some,cV i c (hl i (.head _)) hc]
   cases hp:P (g c i)with
   |true=>rw[if_pos rfl];exact ih _ (λj hj=>hl j (.tail _ hj)) hp
   |false=>
    rw[if_neg (by simp),VB]
    have:P (l.foldl g (g c i))=false:=by
     have hm:∀(l:List Nat) (c:γ),P (l.foldl g c)=true->P c=true:=by
      intro l
      induction l with
      |nil=>exactλc h=>h
      |cons j l ih=>exactλc h=>ux _ _ (ih _ h)
     cases hq:P (l.foldl g (g c i))with
     |false=>rfl
     |true=>rw[hm _ _ hq]at hp;cases hp
    simp[this]
 exact this _ c (λi hi=>by simpa using hi) h
theorem y9{α:Type}(p:α->Bool)(l:List α)(acc:List α):l.foldl (λc a=>if p a=true then c++[a]else c) acc=acc++l.filter p:=by
 induction l generalizing acc with
 |nil=>simp
 |cons a l ih=>
  rw[List.foldl_cons,ih]
  cases h:p a<;>simp[h,List.filter_cons]
def ps0:=(aF (aF (aF (aF (@gN T (List T)) (aF trivial @UF)) (aF @ajf (aF @ajg @ajh))) (aF (aF trivial (aF @aji @ajj)) (aF @ajk (aF @ajl @ajm)))) (aF (aF (aF @ajn (aF trivial trivial)) (aF @ajo (aF trivial trivial))) (aF (aF trivial (aF @UG @UH)) (aF @UI (aF @UJ @UK)))))
def ps1:=(aF (aF (aF (aF @UM (aF @UN @UO)) (aF @UP (aF @UQ @UR))) (aF (aF trivial (aF trivial @UW)) (aF trivial (aF trivial Vx)))) (aF (aF (aF (λ(p:Prop) (_:Decidable p)=>@decide_eq_true_eq p _) (aF bL Bool.or_eq_true)) (aF amm (aF amn amo))) (aF (aF amk (aF aml @B3)) (aF amb (aF @TZ @FJ)))))
def ps2:=(aF (aF (aF (aF @T3 (aF @T4 @T5)) (aF @K5 (aF @T6 @uu))) (aF (aF @T7 (aF @K6 amc)) (aF amd (aF ame T_)))) (aF (aF (aF T' (aF Ua @T0)) (aF T1 (aF T2 @F0))) (aF (aF @yS (aF aiq amf)) (aF amg (aF @amh B7)))))
def ps3:=(aF (aF (aF (aF Lw (aF B8 amp)) (aF amq (aF amr ams))) (aF (aF amt (aF amu T8)) (aF T9 (aF ami amj)))) (aF (aF (aF @Vy (aF (λ(k:Nat)=>@Int.toNat_natCast k) (λ(α:Type) (f:α->List T) (l:List α)=>@List.length_map α (List T) l f))) (aF ajZ (aF akc trivial))) (aF (aF ako (aF akJ akV)) (aF trivial (aF ale alw)))))
def ps4:=(aF (aF (aF (aF alT (aF al_ trivial)) (aF trivial (aF trivial @ajq))) (aF (aF @ajr (aF @ajs @ajt)) (aF @U1 (aF @U2 @B6)))) (aF (aF (aF @aju (aF @y7 @U3)) (aF @ajv (aF @ajw @ajx))) (aF (aF @ajy (aF @ajz @ajA)) (aF @ajB (aF @ajC @U4)))))
def ps5:=(aF (aF (aF (aF @U5 (aF @ajD @ajE)) (aF @U6 (aF @U7 @ajF))) (aF (aF @ajG (aF @ajH @ajI)) (aF @ajJ (aF @ajK @ajL)))) (aF (aF (aF @ajM (aF @ajN @ajO)) (aF @ajP (aF @ajQ @ajR))) (aF (aF @ajS (aF @U8 @U9)) (aF @ajT (aF @ajU @U_)))))
def ps6:=(aF (aF (aF (aF @U' (aF @ajV @ajW)) (aF @ajX (aF @ajY @aj0))) (aF (aF @aj1 (aF @aj2 @aj3)) (aF @aj4 (aF @aj5 @aj6)))) (aF (aF (aF @aj7 (aF @aj8 @aj9)) (aF @Va (aF @Vb @aj_))) (aF (aF @aj' (aF @Vc @Vd)) (aF @aka (aF @akb trivial)))))
def ps7:=(aF (aF (aF (aF trivial (aF trivial trivial)) (aF trivial (aF trivial trivial))) (aF (aF trivial (aF trivial trivial)) (aF trivial (aF trivial trivial)))) (aF (aF (aF trivial (aF @akd @ake)) (aF @akf (aF @akg @akh))) (aF (aF @aki (aF @Ve @Vf)) (aF @Ls (aF @akj @Vg)))))
def ps8:=(aF (aF (aF (aF @Vh (aF @akk @akl)) (aF @akm (aF @akn @akp))) (aF (aF @akq (aF @akr @aks)) (aF @akt (aF @aku @akv)))) (aF (aF (aF @akw (aF @akx @aky)) (aF @akz (aF @akA @akB))) (aF (aF @akC (aF @akD @akE)) (aF @akF (aF @akG @Vi)))))
def ps9:=(aF (aF (aF (aF @Vj (aF @akH @akI)) (aF @Vk (aF @Vl @akK))) (aF (aF @akL (aF @akM @akN)) (aF @akO (aF @akP @Lt)))) (aF (aF (aF @akQ (aF @IP @IQ)) (aF @akR (aF @akS @akT))) (aF (aF @akU (aF trivial trivial)) (aF trivial (aF trivial trivial)))))
def amw:=(aF (aF (aF (aF trivial (aF trivial trivial)) (aF trivial (aF trivial trivial))) (aF (aF trivial (aF trivial trivial)) (aF trivial (aF trivial trivial)))) (aF (aF (aF trivial (aF trivial trivial)) (aF @akW (aF @akX @akY))) (aF (aF @akZ (aF @ak0 @ak1)) (aF @ak2 (aF @ak3 @ak4)))))
def amx:=(aF (aF (aF (aF @ak5 (aF @ak6 @ak7)) (aF @ak8 (aF @ak9 @ak_))) (aF (aF @ak' (aF @Vn @Vo)) (aF @ala (aF @alb @alc)))) (aF (aF (aF @ald (aF @alf @alg)) (aF @alh (aF @ali @alj))) (aF (aF @alk (aF @alm @aln)) (aF @alo (aF @alp @Vp)))))
def amy:=(aF (aF (aF (aF @Vq (aF @alq @alr)) (aF @Vr (aF @Vs @als))) (aF (aF @alt (aF @alu @alv)) (aF @alx (aF @aly @alz)))) (aF (aF (aF @alA (aF @alB @alC)) (aF @alD (aF @alE @alF))) (aF (aF @alG (aF @alH @alI)) (aF @alJ (aF @alK @alL)))))
def amz:=(aF (aF (aF (aF @alM (aF @alN @alO)) (aF @Vt (aF @Vu @alP))) (aF (aF @alQ (aF @alR @alS)) (aF @alU (aF @alV @alW)))) (aF (aF (aF @alX (aF @alY @alZ)) (aF @al0 (aF @al1 @al2))) (aF (aF @al3 (aF @al4 @al5)) (aF @al6 (aF @al7 @Lu)))))
def amA:=(aF (aF (aF (aF @Vv (aF @al8 @al9)) (aF @Vw (aF @Lv trivial))) (aF (aF trivial (aF trivial trivial)) (aF trivial (aF trivial trivial)))) (aF (aF (aF trivial (aF trivial trivial)) (aF trivial (aF trivial trivial))) (aF (aF trivial (aF trivial trivial)) (aF trivial (aF trivial trivial)))))
def amB:=(aF (aF (aF (aF trivial (aF trivial trivial)) (aF trivial (aF trivial trivial))) (aF (aF trivial (aF trivial trivial)) (aF trivial (aF trivial trivial)))) (aF (aF (aF trivial (aF trivial trivial)) (aF trivial (aF trivial trivial))) (aF (aF trivial (aF trivial trivial)) (aF trivial (aF trivial trivial)))))
def amC:=(aF (aF (aF trivial (aF trivial trivial)) (aF (aF trivial trivial) (aF trivial trivial))) (aF (aF (aF trivial trivial) (aF trivial trivial)) (aF (aF trivial trivial) (aF trivial trivial))))
def pq:=(aF (aF (aF (aF (aF UE Vx) (aF aiR (aF aiS aiT))) (aF (aF aiU (aF aiV aiW)) (aF aiX (aF aiY aiZ)))) (aF (aF (aF ai0 ai1) (aF ai2 (aF ai3 ai4))) (aF (aF ai5 (aF ai6 ai7)) (aF ai8 (aF ai9 ai_))))) (aF (aF (aF (aF ai' aja) (aF ajb (aF ajc ajd))) (aF (aF aje (aF trivial @UG)) (aF @UH (aF @UI @UJ)))) (aF (aF (aF @UK (aF @UM @UN)) (aF @UO (aF @UP @UQ))) (aF (aF @UR (aF trivial trivial)) (aF @UW (aF trivial trivial))))))
def pj:=aF ajp trivial
def ps:=(aF (aF (aF (aF ps0 ps1) (aF ps2 ps3)) (aF (aF ps4 ps5) (aF ps6 ps7))) (aF (aF (aF ps8 ps9) (aF amw amx)) (aF (aF amy amz) (aF amA (aF amB amC)))))
end Go.Proofs.YtjimmglpkndemaaGreatC

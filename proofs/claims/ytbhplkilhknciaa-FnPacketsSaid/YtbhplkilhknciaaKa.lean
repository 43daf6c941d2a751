/- The walk by reflection: a part of its laws, for any function. Conditions: none. -/
import Derived.Calls
import Derived.Orders
import Derived.Below
import Derived.KernelRfl
import Derived.Laws.OwnMore
import Derived.Laws.Cells
import Derived.Laws.IdiomCopy
import Derived.Laws.Small
import Derived.Laws.Entries
import Derived.Laws.StructEq
import Derived.Laws.BytesString
namespace Go.Proofs.YtbhplkilhknciaaC
theorem aH.{u}{α:Type u}(a b:α):(some a=some b)=(a=b):=Option.some.injEq a b
theorem bd(a b:Bool):((a&&b)=true)=(a=true∧b=true):=Bool.and_eq_true a b
theorem bU.{u,v}{α:Type u}{β:Type v}{x:Option α}{f:α->Option β}{b:β}:x.bind f=some b↔∃a,x=some a∧f a=some b:=Option.bind_eq_some_iff
theorem cO{n m:Nat}(h:Nat.beq n m=true):n=m:=Nat.eq_of_beq_eq_true h
theorem af{a b:Prop}(x:a)(y:b):a∧b:=⟨x,y⟩
theorem du:(false=true)=False:=Bool.false_eq_true
set_option linter.unusedVariables false
inductive T where
 |c (v:Value)
 |l (xs:List (List T))
 deriving Inhabited
inductive Lf where
 |k (v:Value)
 |a (n:Nat)
 |e
inductive aK where
 |t (d n:Nat)
 |x (n:Nat)
 |o (n:Nat)
abbrev ma:=List (Lf×Nat×Nat)
inductive Ce where
 |p (x:Lf)
 |o (id:Nat) (q:ma)
 |n
 |d
inductive Pv where
 |z
 |w (tk:Nat) (x lo:Lf)
inductive SV where
 |un
 |v (ag:Bool) (cs:List Ce)
 |pt (bx off:Nat)
 |ep (id:Nat) (q:ma) (ix:Lf) (wd off:Nat)
 |fp (s ix:Lf) (wd off:Nat)
 |tp (vs:List (Bool×List Ce))
 |cl (f:Nat) (bs:List Nat)
 |ob (dp:Bool) (x:Lf)
 |fz (pv:Pv) (x:Lf)
 |tk (x m:Lf)
 |fl (x:Lf)
 |fr (x:Lf)
def aK.beq:aK->aK->Bool
 | .t d n,.t e m=>Nat.beq n m&&Nat.beq d e
 | .x n,.x m=>Nat.beq n m
 | .o n,.o m=>Nat.beq n m
 |_,_=>false
theorem aK.beq_iff{r s:aK}:r.beq s=true↔r=s:=by
 cases r<;>cases s<;>simp[aK.beq,and_comm]
instance:DecidableEq aK:=λr s=>if h:r.beq s=true then isTrue (aK.beq_iff.1 h)else isFalse λe=>h (aK.beq_iff.2 e)
abbrev St:=List (aK×SV)
def St.get(s:St)(r:aK):SV:=
 match s with
 | []=>.un
 |(r',v)::s=>bif r'.beq r then v else St.get s r
def St.set(s:St)(r:aK)(v:SV):St:=
 match s with
 | []=>[(r,v)]
 |(r',v')::s=>bif r'.beq r then(r,v)::s else(r',v')::St.set s r v
theorem St.bm(s:St)(r:aK)(v:SV):(s.set r v).get r=v:=by
 induction s with
 |nil=>simp[St.set,St.get,(aK.beq_iff).2 rfl]
 |cons x s ih=>
  obtain⟨r',v'⟩:=x
  cases h:r'.beq r with
  |true=>simp[St.set,St.get,h,(aK.beq_iff).2 rfl]
  |false=>simp[St.set,St.get,h,ih]
theorem St.dl(s:St){r r':aK}(v:SV)(h:r≠r'):(s.set r v).get r'=s.get r':=by
 have hb:r.beq r'=false:=by
  cases hh:r.beq r' with
  |false=>rfl
  |true=>exact absurd (aK.beq_iff.1 hh) h
 induction s with
 |nil=>simp[St.set,St.get,hb]
 |cons x s ih=>
  obtain⟨r2,v2⟩:=x
  cases h2:r2.beq r with
  |true=>
   have:=aK.beq_iff.1 h2
   subst this
   simp[St.set,St.get,h2,hb]
  |false=>
   cases h3:r2.beq r' with
   |true=>simp[St.set,St.get,h2,h3]
   |false=>simp[St.set,St.get,h2,h3,ih]
inductive Prim where
 |bin (op:BinOp)
 |bb (op:BinOp)
 |un (op:UnOp)
 |len
 |lens
 |ic
 |cell (w j:Nat)
 |de (w j:Nat)
 |idx
 |sub (w:Nat) (lo hi:Bool)
 |fg (lo hi:Bool)
 |lit (w:Nat) (ms:List Bool)
 |app (sc:Bool) (w:Nat)
 |mk
 |put (sc:Bool) (w off n:Nat)
 |mj (ms:List Bool) (w off:Nat)
 |nC (w j:Nat)
 |uz (w j:Nat)
 |oY (ks:List Nat)
 |mx
 |mn
 |dA (k:IntKind)
 |iP
 |str
 |aR
 |wu
 |yv
inductive zl where
 |pr (p:Prim) (xs:List Lf)
 |cl (g:Nat) (xs:List Lf) (m:Nat)
inductive PL where
 |ret (xs:List Lf)
 |ins (i:zl) (k:PL)
 |ite (c:Nat) (x y:PL)
 |loop (xs:List Lf) (body:PL)
 |join (k:PL) (body:PL)
 |go (j:Nat) (xs:List Lf)
 |pI (tag:Nat) (s:List St)
def T.bp:T:=.l []
def Lf.ev(ρ:List T):Lf->T
 | .k v=>.c v
 | .a n=>ρ.getD n T.bp
 | .e=>.l []
def tQ:Nat:=4294967296
def fh(op:BinOp):Value->Value->Option Value
 | .int k a,.int k' b=>
  match op with
  | .shl=>if b<0 then none else some (.int k (k.wrap (a*2^(min b.toNat k.bits))))
  | .shr=>if b<0 then none else some (.int k (a.fdiv (2^(min b.toNat k.bits))))
  |op=>
  if k=k' then
   match op with
   | .and=>some (.int k (k.wrap ((BitVec.ofInt k.bits a&&&BitVec.ofInt k.bits b).toNat:Nat)))
   | .or=>some (.int k (k.wrap ((BitVec.ofInt k.bits a|||BitVec.ofInt k.bits b).toNat:Nat)))
   | .xor=>some (.int k (k.wrap ((BitVec.ofInt k.bits a^^^BitVec.ofInt k.bits b).toNat:Nat)))
   | .andNot=>some (.int k (k.wrap ((BitVec.ofInt k.bits a&&& ~~~BitVec.ofInt k.bits b).toNat:Nat)))
   | .add=>some (.int k (k.wrap (a+b)))
   | .sub=>some (.int k (k.wrap (a-b)))
   | .mul=>some (.int k (k.wrap (a*b)))
   | .quo=>if b=0 then none else some (.int k (k.wrap (a.tdiv b)))
   | .rem=>if b=0 then none else some (.int k (a.tmod b))
   | .eql=>some (.bool (a==b))
   | .neq=>some (.bool (a !=b))
   | .lss=>some (.bool (decide (a<b)))
   | .leq=>some (.bool (decide (a<=b)))
   | .gtr=>some (.bool (decide (a>b)))
   | .geq=>some (.bool (decide (a>=b)))
   |_=>none
  else none
 | .string a,.string b=>
  match op with
  | .add=>if a.size+b.size<tQ then some (.string (a++b))else none
  | .eql=>some (.bool (a.toList==b.toList))
  | .neq=>some (.bool !(a.toList==b.toList))
  |_=>none
 |_,_=>none
def C6(op:BinOp):Value->Value->Option Value
 | .bool a,.bool b=>
  match op with
  | .eql=>some (.bool (a==b))
  | .neq=>some (.bool !(a==b))
  |_=>none
 |_,_=>none
def QM(op:UnOp):Value->Option Value
 | .bool a=>match op with| .not=>some (.bool !a)|_=>none
 | .int k a=>match op with| .neg=>some (.int k (k.wrap (0-a)))|_=>none
 |_=>none
def T.val:T->Option Value
 | .c v=>some v
 | .l _=>none
def T.int:T->Option Int
 | .c (.int _ n)=>some n
 |_=>none
def T.rows:T->Option (List (List T))
 | .l xs=>some xs
 |_=>none
def sE(s i:T):Option (List T):=
 s.rows.bind λxs=>i.int.bind λn=>if 0<=n then xs[n.toNat]? else none
def kY(w:Nat):Nat->List T->List (List T)
 |0,_=>[]
 |n+1,ts=>ts.take w::kY w n (ts.drop w)
def cF:T->Bool
 | .c (.int ..)| .c (.bool _)| .c (.string _)=>true
 |_=>false
def C7:Nat->Value->Value->Option Bool
 |1,.int k a,.int k' b=>if k=k' then some (a==b)else none
 |4,.bool a,.bool b=>some (a==b)
 |2,.string a,.string b=>some (a==b)
 |_,_,_=>none
def sF:List Nat->List T->List T->Option Bool
 | [],[],[]=>some true
 |k::ks,.c x::xs,.c y::ys=>(C7 k x y).bind λb=>(sF ks xs ys).bind λc=>some (b&&c)
 |_,_,_=>none
def setRow(xs:List (List T))(i off:Nat)(vs:List T):List (List T):=
 xs.modify i λr=>r.take off++vs++r.drop (off+vs.length)
def mQ:List Bool->List T->Bool
 |true::ms,t::ts=>cF t&&mQ ms ts
 |false::ms,_::ts=>mQ ms ts
 |true::_,[]=>false
 |_,_=>true
def okW(w:Nat):List (List T)->Bool
 | []=>true
 |r::_=>Nat.beq r.length w
def wv(us:List (List T))(n k:Nat):Bool:=((us.drop n).take k).all λr=>!r.isEmpty
def B4(us:List (List T))(n k:Nat):List (List T):=us.take n++List.replicate k []++us.drop (n+k)
def IY:List T->Option Int
 | [.c (.int .u8 n)]=>some n
 |_=>none
def B5:List (List T)->Option (List Int)
 | []=>some []
 |r::rs=>(IY r).bind λn=>(B5 rs).bind λns=>some (n::ns)
def uA(ns:List Int):ByteArray:=⟨(ns.map λn=>UInt8.ofNat n.toNat).toArray⟩
def Prim.ev:Prim->List T->Option T
 | .bin op,[x,y]=>x.val.bind λa=>y.val.bind λb=>(fh op a b).bind λr=>some (.c r)
 | .bb op,[x,y]=>x.val.bind λa=>y.val.bind λb=>(C6 op a b).bind λr=>some (.c r)
 | .un op,[x]=>x.val.bind λa=>(QM op a).bind λr=>some (.c r)
 | .len,[.l xs]=>some (.c (.int .i64 xs.length))
 | .lens,[.c (.string s)]=>some (.c (.int .i64 s.size))
 | .ic,[s,i]=>(sE s i).bind λ_=>some (.c (.bool true))
 | .cell w j,[s,i]=>(sE s i).bind λr=>if r.length=w then r[j]? else none
 | .de w j,[s,i]=>(sE s i).bind λr=>if r.length=w then(r[j]?).bind λt=>if cF t=true then some t else none else none
 | .idx,[.c (.string s),.c (.int _ n)]=>if 0<=n then(if h:n.toNat<s.size then some (.c (.int .u8 (s.get n.toNat h).toNat))else none)else none
 | .sub w lo hi,.l xs::ts=>if okW w xs=true then
  (match lo,hi,ts with
   |false,false,[]=>some (0,(xs.length:Int))
   |true,false,[.c (.int _ l)]=>some (l,(xs.length:Int))
   |false,true,[.c (.int _ h)]=>some (0,h)
   |true,true,[.c (.int _ l),.c (.int _ h)]=>some (l,h)
   |_,_,_=>none).bind λ(l,h)=>
   if 0<=l then(if l<=h then(if h<=xs.length then some (.l ((xs.take h.toNat).drop l.toNat))else none)else none)else none
  else none
 | .fg lo hi,.c (.string s)::ts=>
  (match lo,hi,ts with
   |false,false,[]=>some (0,(s.size:Int))
   |true,false,[.c (.int _ l)]=>some (l,(s.size:Int))
   |false,true,[.c (.int _ h)]=>some (0,h)
   |true,true,[.c (.int _ l),.c (.int _ h)]=>some (l,h)
   |_,_,_=>none).bind λ(l,h)=>
   if 0<=l then(if l<=h then(if h<=s.size then some (.c (.string (s.extract l.toNat h.toNat)))else none)else none)else none
 | .lit w ms,ts=>if 0<w then(if mQ ms ts=true then some (.l (kY w (ts.length/w) ts))else none)else none
 | .app sc w,[.l xs,.l ys]=>if xs.length+ys.length<tQ then(if(!sc||ys.all (·.all cF))=true then(if okW w xs=true then(if okW w ys=true then some (.l (xs++ys))else none)else none)else none)else none
 | .mk,.c (.int _ n):: .c (.int _ c)::ts=>if 0<=n then(if n=c then(if c<tQ then some (.l (List.replicate n.toNat ts))else none)else none)else none
 | .put sc w off n,s::i::vs=>(sE s i).bind λr=>if r.length=w then(if off+n<=w then(if vs.length=n then(if(!sc||vs.all cF)=true then
   s.rows.bind λxs=>i.int.bind λk=>some (.l (setRow xs k.toNat off vs))else none)else none)else none)else none
 | .mj ms w off,s::i::vs=>(sE s i).bind λr=>if r.length=w then(if off+vs.length<=w then(if mQ ms vs=true then
   s.rows.bind λxs=>i.int.bind λk=>some (.l (setRow xs k.toNat off vs))else none)else none)else none
 | .nC w j,[s,i]=>(sE s i).bind λr=>if r.length=w then(r[j]?).bind λt=>t.rows.bind λxs=>some (.l xs)else none
 | .uz w j,[s,i,v]=>(sE s i).bind λr=>if r.length=w then(if j<w then
   s.rows.bind λxs=>i.int.bind λk=>some (.l (setRow xs k.toNat j [v]))else none)else none
 | .oY ks,ts=>(sF ks (ts.take ks.length) (ts.drop ks.length)).bind λb=>some (.c (.bool b))
 | .mx,[.c (.int k a),.c (.int _ b)]=>some (.c (.int k (if b>a then b else a)))
 | .mn,[.c (.int k a),.c (.int _ b)]=>some (.c (.int k (if b<a then b else a)))
 | .iP,[t]=>if cF t=true then some t else none
 | .wu,[.l us,.c (.int _ n)]=>if 0<=n then(if n.toNat+1<=us.length then(if wv us n.toNat 1=true then some (.l (B4 us n.toNat 1))else none)else none)else none
 | .yv,[.l us,.c (.int _ n),.l ys]=>if 0<=n then(if n.toNat+ys.length<=us.length then(if wv us n.toNat ys.length=true then some (.l (B4 us n.toNat ys.length))else none)else none)else none
 | .dA k,[.c (.int _ n)]=>some (.c (.int k (k.wrap n)))
 | .aR,[.c (.string s)]=>if s.size<tQ then(if 0<s.size then some (.l (s.data.toList.map λb=>[.c (.int .u8 (b.toNat:Int))]))else none)else none
 | .str,[.l xs]=>(B5 xs).bind λns=>some (.c (.string (uA ns)))
 |_,_=>none
def pZ(ts:List T):Nat->Nat->List T
 |_,0=>[]
 |i,m+1=>ts.getD i T.bp::pZ ts (i+1) m
abbrev ai:=List T->Option (List T)
def zl.ev(S:Nat->ai)(ρ:List T):zl->Option (List T)
 | .pr p xs=>(p.ev (xs.map (Lf.ev ρ))).bind λt=>some [t]
 | .cl g xs m=>(S g (xs.map (Lf.ev ρ))).bind λts=>some (pZ ts 0 m)
def iter{α β:Type}(F:(α->Option β)->α->Option β):Nat->α->Option β
 |0,_=>none
 |n+1,x=>F (iter F n) x
def rounds:Nat:=1099511627776
def PL.den(S:Nat->ai)(R:Nat)(K:List ai)(ρ:List T):PL->Option (List T)
 | .ret xs=>some (xs.map (Lf.ev ρ))
 | .ins (.pr p xs) k=>(p.ev (xs.map (Lf.ev ρ))).bind λt=>k.den S R K (ρ++[t])
 | .ins (.cl g xs m) k=>(S g (xs.map (Lf.ev ρ))).bind λts=>k.den S R K (ρ++pZ ts 0 m)
 | .ite c x y=>match ρ.getD c T.bp with
  | .c (.bool b)=>bif b then x.den S R K ρ else y.den S R K ρ
  |_=>none
 | .loop xs body=>iter (λself ts=>body.den S R (self::K) (ρ++ts)) R (xs.map (Lf.ev ρ))
 | .join k body=>body.den S R ((λts=>k.den S R K (ρ++ts))::K) ρ
 | .go j xs=>match K[j]? with
  |some f=>f (xs.map (Lf.ev ρ))
  |none=>none
 | .pI _ _=>none
structure TI where
 sz:Nat
 bytes:Nat
 ag:Bool
 zero:List Ce
 el:Nat
 fs:List (Nat×Nat)
 kd:Nat
inductive Ck where
 |s
 |p
 |o (dp:Bool)
inductive PS where
 |v (ag:Bool) (n:Nat)
 |x (n:Nat)
structure mR where
 ps:List PS
 rs:List (Bool×List Ck)
structure Ct where
 a:Nat
 i:Nat
abbrev iQ:=List (Nat×Bool)
def fact(fs:iQ)(n:Nat):Option Bool:=
 match fs with
 | []=>none
 |(m,b)::fs=>bif Nat.beq m n then some b else fact fs n
inductive Cj where
 |k
 |p
 |o (dp:Bool)
 |d
inductive Rj where
 |drop
 |aY (ag:Bool) (cs:List Cj)
 |rows (js:List (Nat×Bool))
abbrev Js:=List (Nat×Bool×Rj)
structure Cx where
 ty:Nat->Option TI
 sg:Nat->Option mR
 fn:Nat->Option Func
 pk:Nat->Nat->Nat->Option Js
 fz:Nat->Nat->Nat->Bool
 nest:Nat->Bool
def iY:Value->Bool
 | .int .. | .bool _| .string _=>true
 |_=>false
def ww:Value->SV
 | .slice none 0 0=>.v false [.n]
 |v=>bif iY v then .v false [.p (.k v)]else .un
def bC(d:Nat)(s:aK->SV):Operand->SV
 | .tmp t=>s (.t d t)
 | .const v=>ww v
 | .func f=>.cl f []
 | .global _=>.un
def cellsOf:SV->Option (List Ce)
 | .v _ cs=>some cs
 |_=>none
def Lf.beq:Lf->Lf->Bool
 | .a n,.a m=>Nat.beq n m
 | .e,.e=>true
 | .k (.int k1 n),.k (.int k2 m)=>decide (k1=k2)&&decide (n=m)
 | .k (.bool b1),.k (.bool b2)=>b1==b2
 | .k (.string s1),.k (.string s2)=>s1.data.toList==s2.data.toList
 |_,_=>false
structure Wk where
 r:St
 w:St
 ct:Ct
 is:List zl
def St.look(s:St)(r:aK):Option SV:=
 match s with
 | []=>none
 |(r',v)::s=>bif r'.beq r then some v else St.look s r
def Wk.get(k:Wk)(r:aK):SV:=
 match k.w.look r with
 |some v=>v
 |none=>k.r.get r
def Wk.em(k:Wk)(p:Prim)(xs:List Lf):Wk×Lf:=({k with ct:=⟨k.ct.a+1,k.ct.i⟩,is:=.pr p xs::k.is},.a k.ct.a)
def Wk.set(k:Wk)(r:aK)(v:SV):Wk:={k with w:=k.w.set r v}
def Wk.down(k:Wk)(x:Lf):ma->Wk×Lf
 | []=>(k,x)
 |(ix,w,j)::q=>
  let(k,y):=k.em (.nC w j) [x,ix]
  Wk.down k y q
def Wk.up(k:Wk)(x y:Lf):ma->Wk×Lf
 | []=>(k,y)
 |(ix,w,j)::q=>
  let(k,z):=k.em (.nC w j) [x,ix]
  let(k,z):=Wk.up k z y q
  k.em (.uz w j) [x,ix,z]
def Wk.val(k:Wk):Ce->Option (Wk×Lf)
 | .p x=>some (k,x)
 | .n=>some (k,.e)
 | .o id q=>
  match k.get (.o id)with
  | .ob true x=>some (k.down x q)
  | .ob false x| .fz _ x| .fl x=>match q with
   | []=>some (k,x)
   |_=>none
  |_=>none
 | .d=>none
def Wk.ie(k:Wk):List Ce->Option (Wk×List Lf)
 | []=>some (k,[])
 |c::cs=>(k.val c).bind λ(k,x)=>(Wk.ie k cs).bind λ(k,xs)=>some (k,x::xs)
def Wk.one(k:Wk):SV->Option (Wk×Lf)
 | .v false [c]=>k.val c
 |_=>none
def Wk.lj(k:Wk)(id:Nat):Option Wk:=
 match k.get (.o id)with
 | .ob _ x=>some (k.set (.o id) (.fz .z x))
 | .fz _ _=>some k
 |_=>none
def Wk.flat(k:Wk)(id:Nat):Option Wk:=
 match k.get (.o id)with
 | .ob _ x=>some (k.set (.o id) (.ob false x))
 | .fz _ _=>some k
 |_=>none
def Wk.dv(k:Wk):List Ce->Option Wk
 | []=>some k
 | .o id _::cs=>(k.lj id).bind λk=>Wk.dv k cs
 |_::cs=>Wk.dv k cs
def dU:Ce->Bool
 | .n=>true
 |_=>false
def Wk.ez(k:Wk)(fz:Bool):List Ce->List Ce->Option (Wk×List Lf×Bool)
 | [],[]=>some (k,[],true)
 |z::zs,.p x::cs=>(Wk.ez k fz zs cs).bind λ(k,xs,dp)=>some (k,x::xs,dp&& !dU z)
 |z::zs,.n::cs=>(Wk.ez k fz zs cs).bind λ(k,xs,dp)=>some (k,.e::xs,dp)
 |z::zs,.o id []::cs=>
  match k.get (.o id)with
  | .fz _ x=>(Wk.ez k fz zs cs).bind λ(k,xs,dp)=>some (k,x::xs,false)
  | .ob d x=>
   bif fz then(Wk.ez (k.set (.o id) (.fz .z x)) fz zs cs).bind λ(k,xs,dp)=>some (k,x::xs,false)
   else bif d then(Wk.ez (k.set (.o id) .un) fz zs cs).bind λ(k,xs,dp)=>some (k,x::xs,dp)
   else(Wk.ez (k.set (.o id) (.fz .z x)) fz zs cs).bind λ(k,xs,dp)=>some (k,x::xs,false)
  |_=>none
 |_,_=>none
def Wk.bh(k:Wk):List Ce->List Ce->Option (Wk×List Lf)
 | [],[]=>some (k,[])
 |z::zs,.p x::cs=>bif dU z then none else(Wk.bh k zs cs).bind λ(k,xs)=>some (k,x::xs)
 |z::zs,.n::cs=>(Wk.bh k zs cs).bind λ(k,xs)=>some (k,.e::xs)
 |z::zs,.o id []::cs=>
  match k.get (.o id)with
  | .ob true x| .fl x=>(Wk.bh (k.set (.o id) .un) zs cs).bind λ(k,xs)=>some (k,x::xs)
  |_=>none
 |_,_=>none
def Wk.alias(k0:Wk):Wk->List Ce->Wk
 |k,[]=>k
 |k,.o id []::cs=>
  match k0.get (.o id)with
  | .ob true x=>Wk.alias k0 (k.set (.o id) (.fz .z x)) cs
  |_=>Wk.alias k0 k cs
 |k,_::cs=>Wk.alias k0 k cs
def Wk.p9(k:Wk)(fz:Bool)(zs cs:List Ce):Option (Wk×List Lf×Bool):=
 match(bif fz then none else k.bh zs cs)with
 |some (k1,xs)=>some (Wk.alias k k1 cs,xs,true)
 |none=>k.ez true zs cs
def fj(cs:List Ce)(off:Nat)(vs:List Ce):List Ce:=cs.take off++vs++cs.drop (off+vs.length)
def Wk.row(k:Wk)(sc:Bool)(s ix:Lf)(w off:Nat):Nat->Wk×List Ce
 |0=>(k,[])
 |n+1=>
  let(k,y):=k.em (bif sc then .de w off else .cell w off) [s,ix]
  let(k,cs):=Wk.row k sc s ix w (off+1) n
  (k,.p y::cs)
def Wk.nJ(k:Wk)(y ix:Lf)(id:Nat)(q:ma)(w off:Nat):List Ce->Wk×List Ce
 | []=>(k,[])
 |z::zs=>
  bif dU z then
   let r:=Wk.nJ (k.em (.nC w off) [y,ix]).1 y ix id q w (off+1) zs
   (r.1,.o id (q++[(ix,w,off)])::r.2)
  else
   let r:=Wk.nJ (k.em (.de w off) [y,ix]).1 y ix id q w (off+1) zs
   (r.1,.p (k.em (.de w off) [y,ix]).2::r.2)
def storeAt(cx:Cx)(k:Wk)(t:Nat)(ad v:SV):Option Wk:=
 (cx.ty t).bind λti=>(cellsOf v).bind λcs=>
 bif Nat.beq cs.length ti.sz then
  match ad with
  | .pt bx off=>
   match k.get (.x bx)with
   | .v ag uC=>bif Nat.ble (off+cs.length) uC.length then some (k.set (.x bx) (.v ag (fj uC off cs)))else none
   |_=>none
  | .ep id q ix w off=>
   bif Nat.beq (id%4) 2 then none else
   bif ti.zero.any dU then
    match q with
    | []=>(k.flat id).bind λk=>(k.dv cs).bind λk=>(k.ie cs).bind λ(k,xs)=>
     match k.get (.o id)with
     | .ob _ x=>
      let(k,y):=k.em (.put false w off xs.length) (x::ix::xs)
      some (k.set (.o id) (.ob false y))
     |_=>none
    |_=>none
   else(k.ie cs).bind λ(k,xs)=>
    match k.get (.o id)with
    | .ob dp x=>
     bif dp||q.isEmpty then
      let(k,y):=k.down x q
      let(k,y):=k.em (.put true w off xs.length) (y::ix::xs)
      let(k,y):=k.up x y q
      some (k.set (.o id) (.ob dp y))
     else none
    |_=>none
  |_=>none
 else none
def C8(cx:Cx)(k:Wk)(t:Nat)(ad v:SV):Option Wk:=
 match ad with
 | .ep id [] ix w off=>
  (cx.ty t).bind λti=>(cellsOf v).bind λcs=>
  bif Nat.beq cs.length ti.sz&&ti.zero.any dU&&Nat.beq (id%4) 0 then
   match k.get (.o id)with
   | .ob true x=>(k.bh ti.zero cs).bind λ(k2,xs)=>
    match k2.get (.o id)with
    | .ob true _=>
     let(k3,y):=k2.em (.mj (ti.zero.map λz=>!dU z) w off) (x::ix::xs)
     some (k3.set (.o id) (.ob true y))
    |_=>none
   |_=>none
  else none
 |_=>none
def loadAt(cx:Cx)(nest:Bool)(k:Wk)(t:Nat):SV->Option (Wk×SV)
 | .pt bx off=>(cx.ty t).bind λti=>
  match k.get (.x bx)with
  | .v _ cs=>bif Nat.ble (off+ti.sz) cs.length then some (k,.v ti.ag ((cs.drop off).take ti.sz))else none
  |_=>none
 | .fp s ix w off=>(cx.ty t).bind λti=>
  let(k,cs):=k.row false s ix w off ti.sz
  some (k,.v ti.ag cs)
 | .ep id q ix w off=>(cx.ty t).bind λti=>
  match k.get (.o id)with
  | .ob true x=>
   bif nest&&ti.zero.any dU&&Nat.beq ti.zero.length ti.sz&&Nat.beq (id%2) 1 then
    let(k,y):=k.down x q
    let(k,cs):=k.nJ y ix id q w off ti.zero
    some (k,.v ti.ag cs)
   else bif ti.zero.any dU then
    match q with
    | []=>bif Nat.beq (id%2) 0 then
      let(k,cs):=k.row false x ix w off ti.sz
      some (k,.v ti.ag cs)
     else(k.flat id).bind λk=>
     let(k,cs):=k.row false x ix w off ti.sz
     some (k,.v ti.ag cs)
    |_=>none
   else
    let(k,y):=k.down x q
    let(k,cs):=k.row true y ix w off ti.sz
    some (k,.v ti.ag cs)
  | .ob false x| .fz _ x=>
   match q with
   | []=>
    let(k,cs):=k.row false x ix w off ti.sz
    some (k,.v ti.ag cs)
   |_=>none
  |_=>none
 |_=>none
def mH(i:Nat):Nat:=i+(1-i%2)
def df(i:Nat):Nat:=i+(4-i%4)%4
def mb(i:Nat):Nat:=i+(6-i%4)%4
theorem C9(i:Nat):i<=mH i:=by unfold mH;omega
theorem uD(i:Nat):i<=df i:=by unfold df;omega
theorem IZ(i:Nat):i<=mb i:=by unfold mb;omega
theorem I0(i:Nat):mb i%4=2:=by unfold mb;omega
def B6:Lf->Bool
 | .k (.int _ n)=>decide (n=0)
 |_=>false
def Wk.lE(k:Wk)(y ix:Lf)(j:Nat)(w off:Nat):List Ce->Wk×List Ce×Lf
 | []=>(k,[],.e)
 |z::zs=>
  bif dU z then
   let r:=Wk.lE (k.em (.nC w off) [y,ix]).1 y ix j w (off+1) zs
   (r.1,.o j []::r.2.1,(k.em (.nC w off) [y,ix]).2)
  else
   let r:=Wk.lE (k.em (.de w off) [y,ix]).1 y ix j w (off+1) zs
   (r.1,.p (k.em (.de w off) [y,ix]).2::r.2.1,r.2.2)
def C_(cx:Cx)(k:Wk)(t:Nat):SV->Option (Wk×SV)
 | .ep id [] ix w off=>(cx.ty t).bind λti=>
  match k.get (.o id)with
  | .fz (.w tk x0 lo) x=>
   match k.get (.o tk)with
   | .tk y0 m=>
    bif B6 lo&&x0.beq y0&&Nat.beq (ti.zero.filter dU).length 1&&Nat.beq ti.zero.length ti.sz then
     let j:=mb k.ct.i
     let r:=k.lE x ix j w off ti.zero
     let q:=r.1.em .wu [m,ix]
     some ({((q.1.set (.o tk) (.tk y0 q.2)).set (.o j) (.fl r.2.2))with ct:=⟨q.1.ct.a,j+1⟩},.v ti.ag r.2.1)
    else none
   |_=>none
  |_=>none
 |_=>none
def indexAt(cx:Cx)(k:Wk)(t:Nat)(s ix:SV):Option (Wk×SV):=
 (cx.ty t).bind λti=>(cx.ty ti.el).bind λte=>
 bif Nat.beq ti.kd 3 then
  (k.one ix).bind λ(k,i)=>
   match s with
   | .v false [.p x]=>
    let(k,_):=k.em .ic [x,i]
    some (k,.fp x i te.sz 0)
   | .v false [.o id q]=>
    match k.get (.o id),q with
    | .ob true x,q=>
     let(k,y):=k.down x q
     let(k,_):=k.em .ic [y,i]
     some (k,.ep id q i te.sz 0)
    | .ob false x,[]=>
     let(k,_):=k.em .ic [x,i]
     some (k,.ep id [] i te.sz 0)
    | .fz (.w tk x0 lo) x,[]=>
     let(k,_):=k.em .ic [x,i]
     bif B6 lo then some (k,.ep id [] i te.sz 0)else some (k,.fp x i te.sz 0)
    | .fz _ x,[]=>
     let(k,_):=k.em .ic [x,i]
     some (k,.fp x i te.sz 0)
    |_,_=>none
   |_=>none
 else none
def fieldAt(cx:Cx)(t f:Nat):SV->Option SV
 | .pt bx off=>(cx.ty t).bind λti=>(ti.fs[f]?).bind λo=>some (.pt bx (off+o.1))
 | .ep id q ix w off=>(cx.ty t).bind λti=>(ti.fs[f]?).bind λo=>some (.ep id q ix w (off+o.1))
 | .fp s ix w off=>(cx.ty t).bind λti=>(ti.fs[f]?).bind λo=>some (.fp s ix w (off+o.1))
 |_=>none
def Wk.args(k:Wk):List SV->List PS->Option (Wk×List Lf×List (Nat×Bool×Nat))
 | [],[]=>some (k,[],[])
 | .v ag cs::vs,.v tR n::ps=>
  bif (ag==tR)&&Nat.beq cs.length n then
   (k.ie cs).bind λ(k,xs)=>(Wk.args k vs ps).bind λ(k,ys,bs)=>some (k,xs++ys,bs)
  else none
 | .pt bx 0::vs,.x n::ps=>
  match k.get (.x bx)with
  | .v ag cs=>
   bif Nat.beq cs.length n then
    (k.dv cs).bind λk=>(k.ie cs).bind λ(k,xs)=>(Wk.args k vs ps).bind λ(k,ys,bs)=>some (k,xs++ys,(bx,ag,n)::bs)
   else none
  |_=>none
 |_,_=>none
def zm:SV->List Ce
 | .v _ cs=>cs
 |_=>[]
def sG:List SV->List Ce
 | []=>[]
 |v::vs=>zm v++sG vs
def ou(sg:mR):Bool:=sg.rs.any (λr=>r.2.any λ | .p| .o false=>true|_=>false)||sg.ps.any λ | .x _=>true|_=>false
def eC:Ct->List Ck->Ct×List Ce×St
 |ct,[]=>(ct,[],[])
 |ct,.o dp::ks=>
  let r:=eC ⟨ct.a+1,mH ct.i+1⟩ ks
  (r.1,.o (mH ct.i) []::r.2.1,(.o (mH ct.i),.ob dp (.a ct.a))::r.2.2)
 |ct,_::ks=>
  let r:=eC ⟨ct.a+1,ct.i⟩ ks
  (r.1,.p (.a ct.a)::r.2.1,r.2.2)
def mS:Ct->List (Bool×List Ck)->Ct×List (Bool×List Ce)×St
 |ct,[]=>(ct,[],[])
 |ct,r::rs=>
  let x:=eC ct r.2
  let y:=mS x.1 rs
  (y.1,(r.1,x.2.1)::y.2.1,x.2.2++y.2.2)
def yw(a:Nat):Nat->List Ce
 |0=>[]
 |n+1=>.p (.a a)::yw (a+1) n
def rl:Nat->List (Nat×Bool×Nat)->Nat×St
 |a,[]=>(a,[])
 |a,(bx,ag,n)::bs=>
  let r:=rl (a+n) bs
  (r.1,(.x bx,.v ag (yw a n))::r.2)
def B7:List (Bool×List Ce)->SV
 | []=>.un
 | [v]=>.v v.1 v.2
 |vs=>.tp vs
def C':List Nat->Bool
 | []=>true
 |x::xs=>!(xs.any (Nat.beq x))&&C' xs
def I1(k:Wk)(d:Nat)(dst:Option Nat)(g:Nat)(sg:mR)(vs:List SV):Option Wk:=
 (bif ou sg then k.dv (sG vs)else some k).bind λk=>
 (k.args vs sg.ps).bind λ(k,xs,bs)=>
 bif C' (bs.map (·.1))then
  let r:=mS k.ct sg.rs
  let b:=rl r.1.a bs
  let dw:St:=match dst with|some n=>[(.t d n,B7 r.2.1)]|none=>[]
  some {r:=k.r,w:=(dw++(r.2.2++b.2))++k.w,ct:=⟨b.1,r.1.i⟩,is:=.cl g xs (b.1-k.ct.a)::k.is}
 else none
def uE(cs:List Ce):List (Nat×List Ce)->Option (List Ce)
 | []=>some cs
 |(off,vs)::ps=>bif Nat.ble (off+vs.length) cs.length then uE (fj cs off vs) ps else none
def parts(d:Nat)(s:aK->SV)(fs:List (Nat×Nat)):List (Nat×Operand)->Option (List (Nat×List Ce))
 | []=>some []
 |(f,x)::ps=>(fs[f]?).bind λo=>(cellsOf (bC d s x)).bind λcs=>bif Nat.beq cs.length o.2 then(parts d s fs ps).bind λl=>some ((o.1,cs)::l)else none
def lk:Ce->Nat
 | .p (.k (.int _ _))=>1
 | .p (.k (.string _))=>2
 | .p (.k (.bool _))=>4
 |_=>0
def I2(k:Wk)(op:BinOp)(ks:List Nat)(xs ys:List Ce):Option (Wk×Lf):=
 (k.ie xs).bind λ(k,xs)=>(k.ie ys).bind λ(k,ys)=>
  let(k,r):=k.em (.oY ks) (xs++ys)
  match op with
  | .eql=>some (k,r)
  | .neq=>some (k.em (.un .not) [r])
  |_=>none
def ml(zs:List Ce):Nat->List Ce
 |0=>[]
 |n+1=>zs++ml zs n
def Da(k:Wk):SV->Option (Wk×Lf×Bool)
 | .v false [.n]=>some (k,.e,true)
 | .v false [.o id []]=>
  match k.get (.o id)with
  | .ob dp x=>bif Nat.beq (id%4) 2 then none else some (k.set (.o id) .un,x,dp)
  |_=>none
 |_=>none
def Wk.fk(k:Wk):SV->Option Wk
 | .v false [.o j []]=>
  match k.get (.o j)with
  | .fz (.w tk x0 lo) y=>
   match k.get (.o tk)with
   | .tk y0 m=>bif x0.beq y0&&Nat.beq (j%4) 0 then
     let r:=k.em .yv [m,lo,y]
     some ((r.1.set (.o tk) (.tk y0 r.2)).set (.o j) (.fr y))
    else none
   |_=>none
  |_=>none
 |_=>none
def Wk.sH(k:Wk)(b:Bool)(v:SV):Wk:=
 match(bif b then k.fk v else none)with
 |some k'=>k'
 |none=>k
def wx(sl fz:Bool)(k:Wk):SV->Option (Wk×Lf×Bool)
 | .v false [.n]=>some (k,.e,true)
 | .v false [.p x]=>some (k,x,!sl)
 | .v false [.o id q]=>
  bif sl then
   match k.get (.o id),q with
   | .ob dp x,[]=>bif dp&& !fz then some (k.set (.o id) .un,x,true)else some (k.set (.o id) (.ob false x),x,false)
   | .fz _ x,[]=>some (k,x,false)
   | .fr x,[]=>bif fz then none else some (k.set (.o id) .un,x,true)
   |_,_=>none
  else(k.val (.o id q)).bind λr=>some (r.1,r.2,true)
 |_=>none
def Db(k:Wk)(sl:Bool)(w:Nat)(x y:SV):Option (Wk×Lf):=
 match x with
 | .v false [.o id (s::q)]=>
  match k.get (.o id)with
  | .ob true v=>
   bif sl then none else
    (Wk.one (k.down v (s::q)).1 y).bind λb=>
     some ((b.1.em (.app true w) [(k.down v (s::q)).2,b.2]).1.set (.o id) (.ob false v),(b.1.em (.app true w) [(k.down v (s::q)).2,b.2]).2)
  |_=>none
 |_=>none
def wy(cx:Cx)(k:Wk)(t:Nat)(x:SV)(lo hi:Option SV):Option (Wk×SV):=
 match x with
 | .v false [.o id []]=>
  match k.get (.o id)with
  | .fz (.w tk x0 l0) y=>
   (cx.ty t).bind λti=>(cx.ty ti.el).bind λte=>
   bif Nat.beq ti.kd 3&&B6 l0 then
    (match lo with
     |none=>some (k,[])
     |some l=>(k.one l).bind λ(k,l)=>some (k,[l])).bind λ(k,ls)=>
    (match hi with
     |none=>some (k,[])
     |some h=>(k.one h).bind λ(k,h)=>some (k,[h])).bind λ(k,hs)=>
    let r:=k.em (.sub te.sz lo.isSome hi.isSome) (y::(ls++hs))
    let j:=df k.ct.i
    some ({(r.1.set (.o j) (.fz (.w tk x0 (ls.headD (.k (.int .i64 0)))) r.2))with ct:=⟨r.1.ct.a,j+1⟩},.v false [.o j []])
   else none
  |_=>none
 |_=>none
def wz(cx:Cx)(k:Wk)(s t:Nat)(x:SV):Option (Wk×SV):=
 (cx.ty s).bind λsi=>(cx.ty t).bind λti=>(cx.ty ti.el).bind λte=>
 bif Nat.beq ti.kd 3&&Nat.beq si.kd 2&&Nat.beq te.kd 1 then
  match te.zero with
  | [.p (.k (.int .u8 _))]=>(k.one x).bind λr=>
    some ({((r.1.em .aR [r.2]).1.set (.o (df r.1.ct.i)) (.ob true (r.1.em .aR [r.2]).2))with ct:=⟨(r.1.em .aR [r.2]).1.ct.a,df r.1.ct.i+1⟩},.v false [.o (df r.1.ct.i) []])
  |_=>none
 else none
def gv(cx:Cx)(bY dS:Nat)(d:Nat)(o:Oper)(oi:Nat)(k:Wk):Option Wk:=
 let put (k:Wk) (v:SV):Wk:=match o.dst with|some n=>k.set (.t d n) v|none=>k
 let one (x:Operand):SV:=bC d k.get x
 let lf (r:Wk×Lf):Option Wk:=some (put r.1 (.v false [.p r.2]))
 match o.op with
 | .move x| .assign x=>some (put k (one x))
 | .alloc t=>(cx.ty t).bind λti=>some (put {(k.set (.x k.ct.i) (.v ti.ag ti.zero))with ct:=⟨k.ct.a,k.ct.i+1⟩} (.pt k.ct.i 0))
 | .box t x=>(cx.ty t).bind λti=>(cellsOf (one x)).bind λcs=>
   bif Nat.beq cs.length ti.sz then some (put {(k.set (.x k.ct.i) (.v ti.ag cs))with ct:=⟨k.ct.a,k.ct.i+1⟩} (.pt k.ct.i 0))else none
 | .build t ps=>(cx.ty t).bind λti=>bif ti.ag then(parts d k.get ti.fs ps.toList).bind λl=>(uE ti.zero l).bind λcs=>some (put k (.v true cs))else none
 | .buildSlice t n ps=>(cx.ty t).bind λti=>(cx.ty ti.el).bind λte=>bif Nat.beq ti.kd 3&&Nat.ble (n*te.sz) 65536&&Nat.blt 0 te.sz then
   (parts d k.get ((List.range n).map λi=>(i*te.sz,te.sz)) ps.toList).bind λl=>(uE (ml te.zero n) l).bind λcs=>
    (k.p9 (cx.fz bY dS oi) (ml te.zero n) cs).bind λ(k,xs,dp)=>
     let(k,y):=k.em (.lit te.sz (bif dp then(ml te.zero n).map (λz=>!dU z)else [])) xs
     let id:=df k.ct.i
     some (put {(k.set (.o id) (.ob dp y))with ct:=⟨k.ct.a,id+1⟩} (.v false [.o id []]))
   else none
 | .makeSlice t l c=>(cx.ty t).bind λti=>(cx.ty ti.el).bind λte=>(k.one (one l)).bind λ(k,n)=>(k.one (one c)).bind λ(k,m)=>
   (k.ie te.zero).bind λ(k,zs)=>bif Nat.beq ti.kd 3&&Nat.ble te.bytes 65536&&Nat.blt 0 te.sz then
    let(k,y):=k.em .mk (n::m::zs)
    let id:=df k.ct.i
    some (put {(k.set (.o id) (.ob true y))with ct:=⟨k.ct.a,id+1⟩} (.v false [.o id []]))
   else none
 | .load t a=>(match(bif cx.fz bY dS oi then C_ cx k t (one a)else none)with|some r=>some r|none=>loadAt cx (cx.nest bY) k t (one a)).bind λ(k,v)=>some (put k v)
 | .store t a x=>(match(bif cx.fz bY dS oi then none else C8 cx k t (one a) (one x))with|some k=>some k|none=>storeAt cx k t (one a) (one x)).bind λk=>some (put k .un)
 | .nilCheck x=>match one x with
   | .pt bx off=>some (put k (.pt bx off))
   | .ep id q ix w off=>some (put k (.ep id q ix w off))
   | .fp s ix w off=>some (put k (.fp s ix w off))
   |_=>none
 | .binOp op t x y _=>match one x,one y with
   | .v false [a],.v false [b]=>(cx.ty t).bind λti=>(k.val a).bind λ(k,a)=>(k.val b).bind λ(k,b)=>
     bif Nat.beq ti.kd 4 then lf (k.em (.bb op) [a,b])
     else bif Nat.beq ti.kd 1||Nat.beq ti.kd 2 then lf (k.em (.bin op) [a,b])else none
   | .v true es,.v true bs=>(cx.ty t).bind λti=>bif Nat.beq ti.kd 5&&Nat.beq es.length ti.sz then(I2 k op (ti.zero.map lk) es bs).bind lf else none
   |_,_=>none
 | .unOp op _ x=>(k.one (one x)).bind λ(k,a)=>lf (k.em (.un op) [a])
 | .convert s t x=>match wz cx k s t (one x)with
  |some r=>some (put r.1 r.2)
  |none=>(cx.ty s).bind λsi=>(cx.ty t).bind λti=>(k.one (one x)).bind λ(k,a)=>
   match ti.zero with
   | [.p (.k (.int kk _))]=>bif Nat.beq ti.kd 1&&Nat.beq si.kd 1 then lf (k.em (.dA kk) [a])else none
   | [.p (.k (.string _))]=>bif Nat.beq ti.kd 2&&Nat.beq si.kd 3 then(cx.ty si.el).bind λte=>
     match te.zero with
     | [.p (.k (.int .u8 _))]=>bif Nat.beq te.kd 1 then lf (k.em .str [a])else none
     |_=>none
    else none
   |_=>none
 | .slice t x lo hi mx=>match(bif mx.isSome then none else wy cx k t (one x) (lo.map one) (hi.map one))with
  |some (k,v)=>some (put k v)
  |none=>(cx.ty t).bind λti=>(k.dv (zm (one x))).bind λk=>(k.one (one x)).bind λ(k,a)=>
   match mx with
   |some _=>none
   |none=>
   (match lo with
    |none=>some (k,[])
    |some l=>(k.one (one l)).bind λ(k,l)=>some (k,[l])).bind λ(k,ls)=>
   (match hi with
    |none=>some (k,[])
    |some h=>(k.one (one h)).bind λ(k,h)=>some (k,[h])).bind λ(k,hs)=>
   bif Nat.beq ti.kd 3 then(cx.ty ti.el).bind λte=>lf (k.em (.sub te.sz lo.isSome hi.isSome) (a::(ls++hs)))
   else bif Nat.beq ti.kd 2 then lf (k.em (.fg lo.isSome hi.isSome) (a::(ls++hs)))else none
 | .fieldAddr t x f=>(fieldAt cx t f (one x)).bind λv=>some (put k v)
 | .indexAddr t x i=>(indexAt cx k t (one x) (one i)).bind λ(k,v)=>some (put k v)
 | .index t x i=>(cx.ty t).bind λti=>(k.one (one x)).bind λ(k,a)=>(k.one (one i)).bind λ(k,i)=>
   bif Nat.beq ti.kd 2 then lf (k.em .idx [a,i])else none
 | .extract x i=>match one x with
   | .tp vs=>(vs[i]?).bind λv=>some (put k (.v v.1 v.2))
   |_=>none
 | .makeFunc (.func f) first uF=>bif first.isEmpty then
   (uF.toList.mapM λx=>match one x with| .pt b 0=>some b|_=>none).bind λbs=>some (put k (.cl f bs))else none
 | .call c=>match c.callee,c.args.toList with
   | .builtin .len,[x]=>((c.argTypes[0]?).bind cx.ty).bind λti=>(k.one (one x)).bind λ(k,a)=>
     bif Nat.beq ti.kd 3 then lf (k.em .len [a])else bif Nat.beq ti.kd 2 then lf (k.em .lens [a])else none
   | .builtin .max,[x,y]=>(k.one (one x)).bind λ(k,a)=>(k.one (one y)).bind λ(k,b)=>lf (k.em .mx [a,b])
   | .builtin .min,[x,y]=>(k.one (one x)).bind λ(k,a)=>(k.one (one y)).bind λ(k,b)=>lf (k.em .mn [a,b])
   | .builtin .append,[x,y]=>match c.argTypes.toList with
    | [t,tx]=>(cx.ty t).bind λti=>(cx.ty tx).bind λtj=>(cx.ty ti.el).bind λte=>
     bif Nat.beq ti.kd 3&&Nat.beq tj.kd 3&&Nat.ble te.bytes 32768&&Nat.blt 0 te.sz then
     let sl:=te.zero.any dU
     match Db k sl te.sz (one x) (one y)with
     |some r=>some (put r.1 (.v false [.p r.2]))
     |none=>
     (Da k (one x)).bind λ(k,a,dp)=>(wx sl (cx.fz bY dS oi) (k.sH (sl&& !cx.fz bY dS oi) (one y)) (one y)).bind λ(k,b,sk)=>
     let(k,r):=k.em (.app (!sl) te.sz) [a,b]
     let id:=df k.ct.i
     some (put {(k.set (.o id) (.ob (dp&&sk) r))with ct:=⟨k.ct.a,id+1⟩} (.v false [.o id []]))
     else none
    |_=>none
   | .value (.func g),xs=>(cx.sg g).bind λsg=>I1 k d o.dst g sg (xs.map one)
   |_,_=>none
 |_=>none
def zn:List Ce->List aK
 | []=>[]
 | .o id _::cs=>.o id::zn cs
 |_::cs=>zn cs
def Sq:SV->List aK
 | .v _ cs=>zn cs
 | .pt bx _=>[.x bx]
 | .ep id _ _ _ _=>[.o id]
 | .cl _ bs=>bs.map .x
 | .tp vs=>vs.flatMap λv=>zn v.2
 | .fz (.w tk _ _) _=>[.o tk]
 |_=>[]
def Dc(o:Oper):List Nat:=o.op.operands.toList.filterMap λ | .tmp t=>some t|_=>none
def deep(s:St):List aK->List aK
 | []=>[]
 |r::rs=>Sq (s.get r)++deep s rs
def Sr:Op->Bool
 | .move _| .assign _| .fieldAddr .. | .build .. | .box .. | .makeFunc .. | .nilCheck _| .alloc _| .extract ..=>false
 |_=>true
def Ss:Op->Bool
 | .load .. | .call _=>true
 |_=>false
def Dd:List aK->List aK
 | []=>[]
 | .o n::rs=>.o n::Dd rs
 |_::rs=>Dd rs
def De:List aK->List aK
 | []=>[]
 | .x n::rs=>.x n::De rs
 |_::rs=>De rs
def zo(d:Nat)(s:St)(o:Oper):List aK:=
 let ts:=(Dc o).map (aK.t d)
 bif Sr o.op then
  let m:=deep s ts
  let b:=deep s (De m)
  ts++m++b++bif Ss o.op then deep s (Dd (m++b))else []
 else ts
def St.only(s:St):List aK->St
 | []=>[]
 |r::rs=>(r,s.get r)::St.only s rs
def St.dV(s:St):St->St
 | []=>s
 |(r,v)::w=>(St.dV s w).set r v
structure Tr where
 rd:List aK
 wr:List aK
def zp(xs ys:List aK):Bool:=xs.any λx=>ys.any x.beq
def zq(a b:Tr):Bool:=!zp a.wr b.rd&& !zp a.wr b.wr&& !zp a.rd b.wr
def lr:List Nat->List Oper->List Nat
 |acc,[]=>acc
 |acc,o::os=>lr (acc++[o.after.toList.foldl (λs e=>bif Region.binds .any e&&Nat.blt e.on acc.length then s|||(2^e.on)|||(acc.getD e.on 0)else s) 0]) os
def uG:Nat->List Oper->Bool
 |_,[]=>true
 |i,o::os=>o.after.toList.all (λe=>!Region.binds .any e||Nat.blt e.on i)&&uG (i+1) os
def tS(nt:Nat):Code->Bool
 | .region _ ops _=>ops.toList.all λo=>match o.dst with|some n=>Nat.blt n nt|none=>true
 | .seq a b=>tS nt a&&tS nt b
 | .cond _ a b=>tS nt a&&tS nt b
 | .block _ a=>tS nt a
 | .loop a=>tS nt a
 | .scope a=>tS nt a
 |_=>true
def zr(bj:Nat)(t:Tr):Nat->List Tr->Bool
 |_,[]=>true
 |i,u::us=>(Nat.testBit bj i||zq u t)&&zr bj t (i+1) us
def wC:List Tr->List Tr->List Nat->Bool
 |done,t::ts,b::bs=>zr b t 0 done&&wC (done++[t]) ts bs
 |_,_,_=>true
def Df(s:SV):Option Lf:=
 match s with
 | .v false [.p x]=>some x
 |_=>none
inductive Dec where
 |nil
 |is (b:Bool)
 |ask (n:Nat)
 |no
def pn(fs:iQ)(s:SV):Dec:=
 match s with
 | .tp _=>.nil
 |s=>
 match Df s with
 |some (.k (.bool b))=>.is b
 |some (.a n)=>match fact fs n with
  |some b=>.is b
  |none=>.ask n
 |_=>.no
def wrap:List zl->PL->PL
 | [],k=>k
 |i::is,k=>wrap is (.ins i k)
abbrev KP:=Nat->St->Ct->iQ->Option PL
def zt(cx:Cx)(d:Nat)(s:St)(o:Oper):Option (Nat×List SV):=
 match o.op with
 | .call c=>match c.callee with
  | .value x=>match bC d s.get x with
   | .cl g bs=>match cx.sg g with
    |some _=>none
    |none=>some (g,c.args.toList.map (bC d s.get)++bs.map λb=>.pt b 0)
   |_=>none
  |_=>none
 |_=>none
abbrev mm:=Nat->Nat->List SV->Nat->St->Ct->iQ->(List SV->KP)->Option PL
def sm:List SV->Option (List (Bool×List Ce))
 | []=>some []
 | .v ag cs::vs=>(sm vs).bind λl=>some ((ag,cs)::l)
 |_=>none
def oZ:List zl->Nat
 | []=>0
 | .pr _ _::is=>oZ is+1
 | .cl _ _ m::is=>oZ is+m
def Lf.ia(a:Nat):Lf->Bool
 | .a n=>Nat.blt n a
 |_=>true
def zu:Nat->List zl->Bool
 |_,[]=>true
 |e,.pr _ xs::is=>Nat.blt 0 e&&xs.all (Lf.ia (e-1))&&zu (e-1) is
 |e,.cl _ xs m::is=>Nat.ble m e&&xs.all (Lf.ia (e-m))&&zu (e-m) is
def vL(d:Nat)(ops:Array Oper)(o:Oper):List aK:=
 match o.guard with
 |none=>[]
 |some (j,_)=>match(ops[j]?).bind (·.dst)with
  |some g=>[.t d g]
  |none=>[]
def Dg(d:Nat)(s:St)(o:Oper)(fs:iQ):Option (Dec×SV×SV):=
 match o.op with
 | .pick c a b=>some (pn fs (bC d s.get c),bC d s.get a,bC d s.get b)
 |_=>none
abbrev Rec:=List Tr->Nat->St->Ct->iQ->Option PL
def zv(d:Nat)(ops:Array Oper)(o:Oper)(rc:Rec)(tr:List Tr)(lv:Nat)(s:St)(ct:Ct)(fs:iQ):Option PL:=
 match o.dst with
 |some n=>rc (tr++[⟨vL d ops o,[.t d n]⟩]) lv (s.set (.t d n) (.tp [])) ct fs
 |none=>rc (tr++[⟨vL d ops o,[]⟩]) lv s ct fs
def uH(d:Nat)(ops:Array Oper)(o:Oper)(rc:Rec)(tr:List Tr)(lv:Nat)(s:St)(ct:Ct)(fs:iQ)(v:SV):Option PL:=
 match o.dst with
 |some n=>rc (tr++[⟨vL d ops o++(Dc o).map (aK.t d),[.t d n]⟩]) lv (s.set (.t d n) v) ct fs
 |none=>none
def zw(d:Nat)(o:Oper)(rc:Rec)(tr:List Tr):List SV->KP:=λrs lv s ct fs=>
 match o.dst,rs with
 |none,_=>rc tr lv s ct fs
 |some n,[v]=>rc tr lv (s.set (.t d n) v) ct fs
 |some n,[]=>rc tr lv (s.set (.t d n) .un) ct fs
 |some n,rs=>(sm rs).bind λvs=>rc tr lv (s.set (.t d n) (.tp vs)) ct fs
def QN(cx:Cx)(cC:mm)(bY dS d:Nat)(ops:Array Oper)(draw:Bool)(o:Oper)(i:Nat)(rc:Rec)(tr:List Tr)(lv:Nat)(s:St)(ct:Ct)(fs:iQ):Option PL:=
 match Dg d s o fs with
 |some (dc,a,b)=>
  match dc with
  | .is true=>uH d ops o rc tr lv s ct fs a
  | .is false=>uH d ops o rc tr lv s ct fs b
  | .ask n=>(uH d ops o rc tr lv s ct ((n,true)::fs) a).bind λx=>(uH d ops o rc tr lv s ct ((n,false)::fs) b).bind λy=>some (.ite n x y)
  | .nil| .no=>some (.pI (bY*100000000+2000000+dS*1000+i) [s])
 |none=>
  match zt cx d s o with
  |some (g,vs)=>
   bif draw then some (.pI (bY*100000000+4000000+dS*1000+i) [s])else
   cC (d+1) g vs lv s ct fs (zw d o rc tr)
  |none=>
   match gv cx bY dS d o i ⟨s.only (zo d s o),[],ct,[]⟩with
   |none=>some (.pI (bY*100000000+1000000+dS*1000+i) [s.only (zo d s o)])
   |some k=>
    bif Nat.beq k.ct.a (ct.a+oZ k.is)&&Nat.ble ct.i k.ct.i&&zu k.ct.a k.is then
     (rc (tr++[⟨vL d ops o++zo d s o,k.w.map (·.1)⟩]) lv (s.dV k.w) k.ct fs).bind λp=>some (wrap k.is p)
    else none
def wD(cx:Cx)(cC:mm)(bY dS d:Nat)(ops:Array Oper)(draw:Bool)(o:Oper)(i:Nat)(rc:Rec)(tr:List Tr)(lv:Nat)(s:St)(ct:Ct)(fs:iQ):Option PL:=
 let run:=QN cx cC bY dS d ops draw o i rc tr lv s ct
 let skip:=zv d ops o rc tr lv s ct
 match o.guard with
 |none=>run fs
 |some (j,iR)=>
  match(ops[j]?).bind (·.dst)with
  |none=>none
  |some g=>
   match pn fs (s.get (.t d g))with
   | .nil=>skip fs
   | .is b=>bif b==iR then run fs else skip fs
   | .ask n=>(bif true==iR then run ((n,true)::fs)else skip ((n,true)::fs)).bind λx=>
     (bif false==iR then run ((n,false)::fs)else skip ((n,false)::fs)).bind λy=>some (.ite n x y)
   | .no=>some (.pI (bY*100000000+3000000+dS*1000+i) [s])
def zx(cx:Cx)(cC:mm)(bY dS d:Nat)(ops:Array Oper)(draw:Bool)(fin:List Tr->KP):
  List Oper->Nat->Rec
 | [],_=>fin
 |o::os,i=>wD cx cC bY dS d ops draw o i (zx cx cC bY dS d ops draw fin os (i+1))
inductive Ex where
 |normal
 |exit (id:Nat)
 |ret
def Dh:ma->ma->Bool
 | [],[]=>true
 |(x,w,j)::p,(x',w',j')::q=>x.beq x'&&Nat.beq w w'&&Nat.beq j j'&&Dh p q
 |_,_=>false
def Ce.beq:Ce->Ce->Bool
 | .p x,.p y=>x.beq y
 | .o i s,.o j t=>Nat.beq i j&&Dh s t
 | .n,.n=>true
 | .d,.d=>true
 |_,_=>false
def sJ:List Ce->List Ce->Bool
 | [],[]=>true
 |c::cs,e::es=>c.beq e&&sJ cs es
 |_,_=>false
def uI:List Nat->List Nat->Bool
 | [],[]=>true
 |c::cs,e::es=>Nat.beq c e&&uI cs es
 |_,_=>false
def uJ:List (Bool×List Ce)->List (Bool×List Ce)->Bool
 | [],[]=>true
 |(a,cs)::vs,(b,es)::us=>(a==b)&&sJ cs es&&uJ vs us
 |_,_=>false
def Pv.beq:Pv->Pv->Bool
 | .z,.z=>true
 | .w t x l,.w u y m=>Nat.beq t u&&x.beq y&&l.beq m
 |_,_=>false
def SV.beq:SV->SV->Bool
 | .un,_=>true
 | .v a cs,.v b es=>(a==b)&&sJ cs es
 | .pt a b,.pt c d=>Nat.beq a c&&Nat.beq b d
 | .ep i p x w j,.ep i' q x' w' j'=>Nat.beq i i'&&Dh p q&&x.beq x'&&Nat.beq w w'&&Nat.beq j j'
 | .fp s x w j,.fp s' x' w' j'=>s.beq s'&&x.beq x'&&Nat.beq w w'&&Nat.beq j j'
 | .tp vs,.tp us=>uJ vs us
 | .cl f bs,.cl g cs=>Nat.beq f g&&uI bs cs
 | .ob a x,.ob b y=>(a==b)&&x.beq y
 | .fz p x,.fz q y=>p.beq q&&x.beq y
 | .tk x m,.tk y n=>x.beq y&&m.beq n
 | .fl x,.fl y=>x.beq y
 | .fr x,.fr y=>x.beq y
 |_,_=>false
def wE(d:Nat)(s:St)(n:Nat)(bx:Bool):aK:=
 bif bx then match s.get (.t d n)with| .pt b _=>.x b|_=>.t d n else .t d n
def Di(d:Nat)(s:St)(r:aK):Js->Bool
 | []=>false
 |(_,_,.rows _)::js=>Di d s r js
 |(n,bx,_)::js=>(wE d s n bx).beq r||Di d s r js
def wF:Ct->List Ce->List Cj->Ct×List Ce×St×List Nat
 |ct,_,[]=>(ct,[],[],[])
 |ct,cs,j::js=>
  let c:=cs.headD .d
  match j with
  | .k=>let(ct,es,w,ds):=wF ct cs.tail js;(ct,c::es,w,ds)
  | .p=>let(fK,es,w,ds):=wF ⟨ct.a+1,ct.i⟩ cs.tail js;(fK,.p (.a ct.a)::es,w,ds)
  | .o dp=>
   let(fK,es,w,ds):=wF ⟨ct.a+1,df ct.i+1⟩ cs.tail js
   (fK,.o (df ct.i) []::es,(.o (df ct.i),.ob dp (.a ct.a))::w,match c with| .o id _=>id::ds|_=>ds)
  | .d=>let(ct,es,w,ds):=wF ct cs.tail js;(ct,.d::es,w,match c with| .o id _=>id::ds|_=>ds)
def I3:SV->Option Nat
 | .fz (.w t _ _) _=>some t
 |_=>none
def I4(s:St)(cs:List Ce):Ct->List (Nat×Bool)->Ct×St×List Nat
 |ct,[]=>(ct,[],[])
 |ct,(j,dp)::js=>
  match cs[j]? with
  |some (.o id _)=>
   match I3 (s.get (.o id))with
   |some t=>
    match s.get (.o t)with
    | .tk x _=>let(fK,w,ds):=I4 s cs ⟨ct.a+1,ct.i⟩ js;(fK,(.o t,.tk x (.a ct.a))::w,t::ds)
    |_=>I4 s cs ct js
   |none=>let(fK,w,ds):=I4 s cs ⟨ct.a+1,ct.i⟩ js;(fK,(.o id,.ob dp (.a ct.a))::w,id::ds)
  |_=>I4 s cs ct js
def nK:SV->List Ce
 | .v _ cs=>cs
 |_=>[]
def zy(d:Nat)(s:St):Ct->Js->Ct×St×St×List Nat
 |ct,[]=>(ct,[],[],[])
 |ct,(_,_,.drop)::js=>zy d s ct js
 |ct,(n,bx,.aY ag cj)::js=>
  let r:=wE d s n bx
  let(ct,es,w,ds):=wF ct (nK (s.get r)) cj
  let(ct,ps,ws,Su):=zy d s ct js
  (ct,(r,.v ag es)::ps,w++ws,ds++Su)
 |ct,(n,bx,.rows rj)::js=>
  let(ct,w,ds):=I4 s (nK (s.get (wE d s n bx))) ct rj
  let(ct,ps,ws,Su):=zy d s ct js
  (ct,ps,w++ws,ds++Su)
def Dj(d:Nat)(s0:St)(js:Js)(ds:List Nat):St->St
 | []=>[]
 |(r,v)::s=>
  let gone:=match r with| .o id=>ds.any (Nat.beq id)|_=>false
  bif Di d s0 r js||gone then Dj d s0 js ds s else(r,v)::Dj d s0 js ds s
structure Head where
 s0:St
 kept:St
 new:St
 own:St
 c0:Ct
 ct:Ct
 js:Js
def Head.st(h:Head):St:=h.kept++h.own++h.new
def zA(s:St):List Ce->List Cj->List (Nat×Bool)
 | .o id []::cs,.p::js=>(id,true)::zA s cs js
 | .o id []::cs,.o false::js=>(id,false)::zA s cs js
 |_::cs,_::js=>zA s cs js
 |_,_=>[]
def zB(cs:List Ce):List (Nat×Bool)->List (Nat×Bool)
 | []=>[]
 |(j,dp)::js=>
  match cs[j]? with
  |some (.o id _)=>bif dp then zB cs js else(id,false)::zB cs js
  |_=>zB cs js
def Dk(d:Nat)(s0 s:St):Js->List (Nat×Bool)
 | []=>[]
 |(_,_,.drop)::js=>Dk d s0 s js
 |(n,bx,.aY _ cj)::js=>zA s (nK (s.get (wE d s0 n bx))) cj++Dk d s0 s js
 |(n,bx,.rows rj)::js=>zB (nK (s0.get (wE d s0 n bx))) rj++Dk d s0 s js
def zC(s:St):List (Nat×Bool)->List Nat
 | []=>[]
 |(id,all)::l=>bif all then(match s.get (.o id)with| .ob _ _=>id::zC s l|_=>zC s l)else zC s l
def yx(d:Nat)(s:St)(ct:Ct)(js:Js):Head:=
 let(fK,ps,ws,ds):=zy d s ct js
 {s0:=s,kept:=Dj d s js (zC s (Dk d s s js)++ds) s,new:=ps,own:=ws,c0:=ct,ct:=fK,js}
def B8(s:St):List (Nat×Bool)->St
 | []=>s
 |(id,all)::l=>
  match s.get (.o id)with
  | .ob _ x=>B8 (s.set (.o id) (bif all then .fz .z x else .ob false x)) l
  |_=>B8 s l
abbrev mc:=List (Nat×Option Nat)
def I5(s:St):List Ce->List Ce->List Cj->Option (List Lf×mc)
 | [],[],[]=>some ([],[])
 |c::cs,h::hs,j::js=>
  (I5 s cs hs js).bind λ(xs,rn)=>
  match j with
  | .k| .d=>some (xs,rn)
  | .p=>match c with
   | .p x=>some (x::xs,rn)
   | .n=>some (.e::xs,rn)
   | .o id []=>match s.get (.o id)with
    | .fz _ x=>some (x::xs,rn)
    |_=>none
   |_=>none
  | .o dp=>match h with
   | .o i []=>match c with
    | .n=>some (.e::xs,(i,none)::rn)
    | .o id []=>match s.get (.o id)with
     | .ob _ x=>some (x::xs,(i,some id)::rn)
     |_=>none
    |_=>none
   |_=>none
 |_,_,_=>none
def I6(s0 s:St)(cs:List Ce):List (Nat×Bool)->Option (List Lf)
 | []=>some []
 |(j,dp)::js=>
  match cs[j]? with
  |some (.o id _)=>
   match I3 (s0.get (.o id))with
   |some t=>
    match s0.get (.o t)with
    | .tk _ _=>match s.get (.o t)with
     | .tk _ m=>(I6 s0 s cs js).bind λxs=>some (m::xs)
     |_=>none
    |_=>I6 s0 s cs js
   |none=>match s.get (.o id)with
    | .ob _ x=>(I6 s0 s cs js).bind λxs=>some (x::xs)
    |_=>none
  |_=>I6 s0 s cs js
def zD(d:Nat)(s0 s:St):St->Js->Option (List Lf×mc)
 |ps,(_,_,.drop)::js=>zD d s0 s ps js
 |(r',.v ag hs)::ps,(n,bx,.aY tR cj)::js=>
  (I5 s (nK (s.get (wE d s0 n bx))) hs cj).bind λ(xs,rn)=>(zD d s0 s ps js).bind λ(ys,rm)=>some (xs++ys,rn++rm)
 |ps,(n,bx,.rows rj)::js=>
  (I6 s0 s (nK (s0.get (wE d s0 n bx))) rj).bind λxs=>(zD d s0 s ps js).bind λ(ys,rm)=>some (xs++ys,rm)
 | [],[]=>some ([],[])
 |_,_=>none
def uK(a:Nat):ma->Bool
 | []=>true
 |(x,_,_)::q=>x.ia a&&uK a q
def Ce.ia(a i:Nat):Ce->Bool
 | .p x=>x.ia a
 | .o id q=>Nat.blt id i&&uK a q
 |_=>true
def wG(a i:Nat):List Ce->Bool
 | []=>true
 |c::cs=>c.ia a i&&wG a i cs
def uL(a i:Nat):List (Bool×List Ce)->Bool
 | []=>true
 |v::vs=>wG a i v.2&&uL a i vs
def Pv.ia(a i:Nat):Pv->Bool
 | .z=>true
 | .w t x l=>Nat.blt t i&&x.ia a&&l.ia a
def SV.ia(a i:Nat):SV->Bool
 | .un=>true
 | .v _ cs=>wG a i cs
 | .pt b _=>Nat.blt b i
 | .ep id q x _ _=>Nat.blt id i&&uK a q&&x.ia a
 | .fp s x _ _=>s.ia a&&x.ia a
 | .tp vs=>uL a i vs
 | .cl _ bs=>bs.all λb=>Nat.blt b i
 | .ob _ x=>x.ia a
 | .fz p x=>p.ia a i&&x.ia a
 | .tk x m=>x.ia a&&m.ia a
 | .fl x=>x.ia a
 | .fr x=>x.ia a
def mI:mc->Nat->Option (Option Nat)
 | [],_=>none
 |(j,x)::rn,i=>bif Nat.beq j i then some x else mI rn i
def mo:mc->Nat->Option Nat
 | [],_=>none
 |(j,some x)::rn,i=>bif Nat.beq x i then some j else mo rn i
 |(_,none)::rn,i=>mo rn i
def mT(a0:Nat)(xs:List Lf)(n:Nat)(x:Lf):Bool:=
 Nat.ble a0 n&&(match xs[n-a0]? with|some y=>y.beq x|none=>false)
def Dl(s:St)(a0 i0:Nat)(xs:List Lf)(rn:mc)(c h:Ce):Bool:=
 (h.beq c&&h.ia a0 i0)||
 match h,c with
 | .p (.a n),.p x=>mT a0 xs n x
 | .p (.a n),.n=>mT a0 xs n .e
 | .p (.a n),.o id []=>(match s.get (.o id)with| .fz _ x=>mT a0 xs n x|_=>false)
 | .o j [],.n=>Nat.ble i0 j&&(match mI rn j with|some none=>true|_=>false)
 | .o j [],.o id []=>Nat.ble i0 j&&(match mI rn j with|some (some k)=>Nat.beq k id|_=>false)
 | .d,_=>true
 |_,_=>false
def wH(s:St)(a0 i0:Nat)(xs:List Lf)(rn:mc):List Ce->List Ce->Bool
 | [],[]=>true
 |c::cs,h::hs=>Dl s a0 i0 xs rn c h&&wH s a0 i0 xs rn cs hs
 |_,_=>false
def Ha(s:St)(a0 i0:Nat)(xs:List Lf)(rn:mc):St->Bool
 | []=>true
 |(r,.v ag hs)::ps=>
  (match r with| .o _=>false| .x b=>Nat.blt b i0| .t _ _=>true)&&
  (match s.get r with| .v tR cs=>(ag==tR)&&wH s a0 i0 xs rn cs hs|_=>false)&&Ha s a0 i0 xs rn ps
 |_::_=>false
def Dm(s:St)(a0 i0:Nat)(xs:List Lf)(rn:mc):St->Bool
 | []=>true
 |(.o j,.ob dp (.a n))::ps=>
  (match mI rn j with
   |some (some id)=>Nat.ble i0 j&&(match s.get (.o id)with| .ob sk x=>(dp==sk)&&mT a0 xs n x|_=>false)
   |some none=>Nat.ble i0 j&&mT a0 xs n .e
   |none=>Nat.blt j i0&&(match mo rn j with|none=>true|some _=>false)&&(match s.get (.o j)with| .ob sk x=>(dp==sk)&&mT a0 xs n x|_=>false))&&
  Dm s a0 i0 xs rn ps
 |(.o j,.tk x (.a n))::ps=>
  (Nat.blt j i0&&(match mo rn j with|none=>true|some _=>false)&&x.ia a0&&(match s.get (.o j)with| .tk y m=>x.beq y&&mT a0 xs n m|_=>false))&&
  Dm s a0 i0 xs rn ps
 |_::_=>false
def SV.isU:SV->Bool
 | .un=>true
 |_=>false
def I7(i0:Nat)(rn:mc):aK->Bool
 | .o id=>Nat.blt id i0&&(match mo rn id with|none=>true|some _=>false)
 | .x b=>Nat.blt b i0
 | .t _ _=>true
def zE(s:St)(a0 i0:Nat)(rn:mc):St->Bool
 | []=>true
 |(r,v)::h=>(v.isU||(v.beq (s.get r)&&v.ia a0 i0&&I7 i0 rn r))&&zE s a0 i0 rn h
def B9(i0 i1:Nat)(all:mc):mc->Bool
 | []=>true
 |(j,x)::rn=>Nat.ble i0 j&&Nat.blt j i1&&Nat.beq (j%2) 0&&(match x with|none=>true|some id=>!Nat.beq (id%4) 2&&(match mo all id with|some k=>Nat.beq k j|none=>false))&&B9 i0 i1 all rn
def Dn(h:Head)(s:St)(xs:List Lf)(rn:mc):Bool:=
 Nat.beq (h.c0.a+xs.length) h.ct.a&&Nat.blt 0 h.ct.i&&Nat.ble h.c0.i h.ct.i&&B9 h.c0.i h.ct.i rn rn&&zE s h.c0.a h.c0.i rn h.kept&&Dm s h.c0.a h.c0.i xs rn h.own&&Ha s h.c0.a h.c0.i xs rn h.new
def fB(d:Nat)(h:Head)(s:St):Option (List Lf):=
 let s1:=B8 s (Dk d h.s0 s h.js)
 (zD d h.s0 s1 h.new h.js).bind λ(xs,rn)=>bif Dn h s1 xs rn then some xs else none
abbrev KE:=Ex->KP
def p_(d:Nat):St->St
 | []=>[]
 |(.t e n,v)::s=>bif Nat.ble d e then p_ d s else(.t e n,v)::p_ d s
 |x::s=>x::p_ d s
def gd(s:St)(cs:List Ce):List (Nat×Bool)->St
 | []=>s
 |(j,all)::js=>
  match cs[j]? with
  |some (Ce.o id _)=>match s.get (.o id)with
   | .ob _ x=>gd (s.set (.o id) (bif all then .fz .z x else .ob false x)) cs js
   |_=>gd s cs js
  |_=>gd s cs js
def iD(d:Nat)(s:St):Js->St
 | []=>s
 |(n,bx,.rows js)::l=>
  let cs:=nK (s.get (wE d s n bx))
  iD d (gd s cs js) l
 |_::l=>iD d s l
def gq(s:St)(ct:Ct)(cs:List Ce):List (Nat×Bool)->St×Ct
 | []=>(s,ct)
 |(j,_)::js=>
  match cs[j]? with
  |some (Ce.o id [])=>match s.get (.o id)with
   | .ob true x=>bif Nat.beq (id%2) 0 then gq ((s.set (.o id) (.fz (.w (mb ct.i) x (.k (.int .i64 0))) x)).set (.o (mb ct.i)) (.tk x x)) ⟨ct.a,mb ct.i+1⟩ cs js else gq s ct cs js
   |_=>gq s ct cs js
  |_=>gq s ct cs js
def iS(d:Nat)(s:St)(ct:Ct):Js->St×Ct
 | []=>(s,ct)
 |(n,bx,.rows js)::l=>
  let r:=gq s ct (nK (s.get (wE d s n bx))) js
  iS d r.1 r.2 l
 |_::l=>iS d s ct l
def I8(d:Nat)(h:Head)(lv tag:Nat):KP:=λQO s' fK ig=>
 match fB d h s' with
 |some xs=>some (.go (QO-lv-1) xs)
 |none=>some (.pI tag [h.st,s'])
def wI(d:Nat)(h:Head)(lv tag:Nat)(K:KE):KE:=λe=>
 match e with
 | .normal=>I8 d h lv tag
 |e=>K e
def zF(id:Nat)(K:KE):KE:=λe=>
 match e with
 | .exit i=>bif Nat.beq i id then K .normal else K (.exit i)
 |e=>K e
def Sv(bY id:Nat)(ops:Array Oper)(draw:Bool)(k:KP):List Tr->KP:=λtr lv s ct fs=>
 bif draw then
  bif wC [] tr (lr [] ops.toList)&&uG 0 ops.toList then k lv s ct fs else some (.pI (bY*100000000+100000+id) [])
 else k lv s ct fs
def sK(n i:Nat):Array Bool:=(List.replicate i true++List.replicate (n-i) false).toArray
def Dp(ops:Array Oper):Bool:=
 match ops.toList with
 | []=>false
 |o::os=>(o::os).all (λx=>match x.op with| .select ..=>false|_=>true)&&o.guard.isNone&&(match o.op with| .move _=>true|_=>false)&&o.after.toList.all (λe=>!Region.binds .any e)&&
   os.all λy=>y.after.toList.any (λe=>Region.binds .any e&&Nat.beq e.on 0)||o.apart ops y
def zG(ops:Array Oper)(c:Nat)(h:Bool):Bool:=
 Nat.blt c ops.size&&((List.range' c (ops.size-c)).all λj=>(List.range j).all λu=>(h&&Nat.beq u 0)||Nat.testBit ((lr [] ops.toList).getD j 0) u)&&(!h||(Dp ops&&Nat.blt 0 c))
def Sw(cx:Cx)(bY id:Nat):Option (Nat×Bool):=match cx.pk bY 6 id with|some ((c,h,_)::_)=>some (c,h)|_=>none
def zH(cx:Cx)(cC:mm)(bY id d:Nat)(ops:Array Oper)(draw:Bool)(k:KP)(lv:Nat)(s:St)(ct:Ct)(fs:iQ):Option PL:=
 match(bif draw then Sw cx bY id else none)with
 |none=>zx cx cC bY id d ops draw (Sv bY id ops draw k) ops.toList 0 [] lv s ct fs
 |some (c,h)=>
  zx cx cC bY id d ops true (λtr lv s ct fs=>bif wC [] tr (lr [] ops.toList)&&(uG 0 ops.toList&&zG ops c h)then zx cx cC bY id d ops false (λ_=>k) (ops.toList.drop c) c [] lv s ct fs else some (.pI (bY*100000000+100000+id) []))
   (ops.toList.take c) 0 [] lv s ct fs
def zI(tag:Nat)(v:SV)(cx cy:iQ->Option PL)(s:St)(fs:iQ):Option PL:=
 match pn fs v with
 | .is b=>bif b then cx fs else cy fs
 | .ask n=>(cx ((n,true)::fs)).bind λp=>(cy ((n,false)::fs)).bind λq=>some (.ite n p q)
 | .nil| .no=>some (.pI tag [s])
def Dq(cx:Cx)(bY d id:Nat)(s:St):St:=match cx.pk bY 4 id with|none=>s|some js=>iD d s js
def zJ(cx:Cx)(bY d id:Nat)(s:St)(ct:Ct):St×Ct:=match cx.pk bY 5 id with|none=>(s,ct)|some js=>iS d s ct js
def comp(cx:Cx)(cC:mm)(bY d:Nat):Code->Nat->Nat->St->Ct->iQ->KE->Option PL
 | .skip,_,lv,s,ct,fs,K=>K .normal lv s ct fs
 | .label _,_,lv,s,ct,fs,K=>K .normal lv s ct fs
 | .seq a b,_,lv,s,ct,fs,K=>
  comp cx cC bY d a 0 lv s ct fs λe=>
   match e with
   | .normal=>λlv s ct fs=>comp cx cC bY d b 0 lv s ct fs K
   |e=>K e
 | .region id ops draw,_,lv,s0,ct0,fs,K=>
  let r5:=zJ cx bY d id (Dq cx bY d id s0) ct0
  let s:=r5.1
  let ct:=r5.2
  match cx.pk bY 1 id with
  |none=>zH cx cC bY id d ops draw (K .normal) lv s ct fs
  |some js=>
   let h:=yx d s ct js
   (K .normal lv h.st h.ct fs).bind λk=>
    (zH cx cC bY id d ops draw (I8 d h lv (bY*100000000+200000+id)) (lv+1) s ct fs).bind λb=>some (.join k b)
 | .cond c x y,_,lv,s,ct,fs,K=>
  let key:=match c with| .tmp t=>t|_=>0
  match cx.pk bY 2 key with
  |none=>zI (bY*100000000+5000000+key) (bC d s.get c) (λfs=>comp cx cC bY d x 0 lv s ct fs K) (λfs=>comp cx cC bY d y 0 lv s ct fs K) s fs
  |some js=>
   let h:=yx d s ct js
   (K .normal lv h.st h.ct fs).bind λk=>
    (zI (bY*100000000+5000000+key) (bC d s.get c) (λfs=>comp cx cC bY d x 0 (lv+1) s ct fs (wI d h lv (bY*100000000+300000+key) K))
     (λfs=>comp cx cC bY d y 0 (lv+1) s ct fs (wI d h lv (bY*100000000+300000+key) K)) s fs).bind λb=>some (.join k b)
 | .block id body,_,lv,s,ct,fs,K=>
  match cx.pk bY 3 id with
  |none=>comp cx cC bY d body id lv s ct fs (zF id K)
  |some js=>
   let h:=yx d s ct js
   (K .normal lv h.st h.ct fs).bind λk=>
    (comp cx cC bY d body id (lv+1) s ct fs (zF id (wI d h lv (bY*100000000+400000+id) K))).bind λb=>some (.join k b)
 | .loop body,sL,lv,s,ct,fs,K=>
  match cx.pk bY 0 sL with
  |none=>some (.pI (bY*100000000+500000+sL) [s])
  |some js=>
   let h:=yx d s ct js
   match fB d h s with
   |none=>some (.pI (bY*100000000+600000+sL) [h.st,s])
   |some xs=>(comp cx cC bY d body 0 (lv+1) h.st h.ct fs (wI d h lv (bY*100000000+700000+sL) K)).bind λb=>some (.loop xs b)
 | .exit id,_,lv,s,ct,fs,K=>K (.exit id) lv s ct fs
 | .ret,_,lv,s,ct,fs,K=>K .ret lv s ct fs
 |_,_,_,_,_,_,_=>some (.pI (bY*100000000+6000000) [])
def results(cx:Cx)(d:Nat)(s:St):List ResultVar->Option (List SV)
 | []=>some []
 | .tmp t::rs=>(results cx d s rs).bind λvs=>some (s.get (.t d t)::vs)
 | .cell a t::rs=>(cx.ty t).bind λti=>
  match s.get (.t d a)with
  | .pt bx off=>match s.get (.x bx)with
   | .v _ cs=>bif Nat.ble (off+ti.sz) cs.length then(results cx d s rs).bind λvs=>some (.v ti.ag ((cs.drop off).take ti.sz)::vs)else none
   |_=>none
  |_=>none
def Dr(d:Nat)(s:St):Nat->List SV->St
 |_,[]=>s
 |i,v::vs=>Dr d (s.set (.t d i) v) (i+1) vs
def zK(cx:Cx):Nat->mm
 |0=>λ_ _ _ _ _ _ _ _=>none
 |n+1=>λd g vs lv s ct fs k=>
  (cx.fn g).bind λfn=>fn.body.bind λc=>
   bif Nat.ble vs.length fn.ntmps&&tS fn.ntmps c then
    comp cx (zK cx n) g d c 0 lv (Dr d (p_ d s) 0 vs) ct fs λe lv s ct fs=>
     match e with
     | .exit _=>none
     |_=>(results cx d s fn.results.toList).bind λrs=>k rs lv (p_ d s) ct fs
   else none
def zL:List Ce->List Ck->List (Nat×Bool)
 | .o id _::cs,.p::ks=>(id,true)::zL cs ks
 | .o id _::cs,.o false::ks=>(id,false)::zL cs ks
 |_::cs,_::ks=>zL cs ks
 |_,_=>[]
def zM:List SV->List (Bool×List Ck)->List (Nat×Bool)
 |v::vs,r::rs=>zL (nK v) r.2++zM vs rs
 |_,_=>[]
def wJ(s:St):Nat->List PS->List (Nat×Bool)
 |_,[]=>[]
 |i,.v _ _::ps=>wJ s (i+1) ps
 |i,.x _::ps=>(sM (nK (s.get (.x i)))).map (λid=>(id,true))++wJ s (i+1) ps
 where
 sM:List Ce->List Nat
  | []=>[]
  | .o id _::cs=>id::sM cs
  |_::cs=>sM cs
def Wk.plain(k:Wk):Ce->Option Lf
 | .p x=>some x
 | .n=>some .e
 | .o id []=>match k.get (.o id)with
  | .fz _ x=>some x
  |_=>none
 |_=>none
def Wk.ov(k:Wk):List Ce->Option (List Lf)
 | []=>some []
 |c::cs=>(k.plain c).bind λx=>(Wk.ov k cs).bind λxs=>some (x::xs)
def ll(k:Wk):List Ce->List Ck->Option (Wk×List Lf×List Nat)
 | [],[]=>some (k,[],[])
 | .o id []::cs,.o dp::ks=>
  match k.get (.o id)with
  | .ob sk x=>bif sk==dp&& !Nat.beq (id%4) 2 then(ll k cs ks).bind λ(k,xs,ids)=>some (k,x::xs,id::ids)else none
  |_=>none
 | .n::cs,.o _::ks=>(ll k cs ks).bind λ(k,xs,ids)=>some (k,.e::xs,ids)
 | .p x::cs,.s::ks=>
  (ll k cs ks).bind λ(k,xs,ids)=>
   let(k,y):=k.em .iP [x]
   some (k,y::xs,ids)
 |c::cs,.p::ks=>(k.plain c).bind λx=>(ll k cs ks).bind λ(k,xs,ids)=>some (k,x::xs,ids)
 |_,_=>none
def kZ(k:Wk):List SV->List (Bool×List Ck)->Option (Wk×List Lf×List Nat)
 | [],[]=>some (k,[],[])
 | .v ag cs::vs,(tR,ks)::rs=>bif ag==tR then
   (kZ k vs rs).bind λ(k,ys,jds)=>(ll k cs ks).bind λ(k,xs,ids)=>some (k,xs++ys,ids++jds)
  else none
 |_,_=>none
def uM(k:Wk):Nat->List PS->Option (List Lf)
 |_,[]=>some []
 |i,.v _ _::ps=>uM k (i+1) ps
 |i,.x n::ps=>
  match k.get (.x i)with
  | .v _ cs=>bif Nat.beq cs.length n then(k.ov cs).bind λxs=>(uM k (i+1) ps).bind λys=>some (xs++ys)else none
  |_=>none
def sn:Nat->Nat->List PS->Nat×St
 |a,_,[]=>(a,[])
 |a,i,.v ag n::ps=>
  let r:=sn (a+n) (i+1) ps
  (r.1,(.t 0 i,.v ag (yw a n))::r.2)
 |a,i,.x n::ps=>
  let r:=sn (a+n) (i+1) ps
  (r.1,(.t 0 i,.pt i 0)::(.x i,.v true (yw a n))::r.2)
def Ds(cx:Cx)(fn:Func)(sg:mR):KP:=λlv s ct fs=>
 (results cx 0 s fn.results.toList).bind λvs=>
  let s1:=B8 s (zM vs sg.rs++wJ s 0 sg.ps)
  match kZ ⟨s1,[],ct,[]⟩ vs sg.rs with
  |none=>some (.pI 90 [s1,vs.map λv=>(.x 0,v)])
  |some (k,xs,ids)=>
   match uM k 0 sg.ps with
   |none=>some (.pI 91 [s1])
   |some ys=>
    bif C' ids then
     bif Nat.beq k.ct.a (ct.a+oZ k.is)&&zu k.ct.a k.is then some (wrap k.is (.ret (xs++ys)))else none
    else some (.pI 92 [])
def zN(sg:mR):Bool:=!(ou sg&&sg.rs.any λr=>r.2.any λ | .o true=>true|_=>false)
def zO(cx:Cx)(n bY:Nat)(fn:Func)(sg:mR):Option PL:=
 fn.body.bind λc=>
  let r:=sn 0 0 sg.ps
  bif tS fn.ntmps c&&Nat.ble sg.ps.length fn.ntmps&&zN sg then
   comp cx (zK cx n) bY 0 c 0 0 r.2 ⟨r.1,sg.ps.length+1⟩ [] λe=>
    match e with
    | .exit _=>λ_ _ _ _=>none
    |_=>Ds cx fn sg
  else none
theorem Lf.beq_eq{x y:Lf}(h:x.beq y=true):x=y:=by
 cases x with
 |k v=>
  cases y with
  |k u=>
   cases v<;>cases u<;>simp_all[Lf.beq]
   exact ByteArray.ext h
  |a m=>simp[Lf.beq]at h
  |e=>simp[Lf.beq]at h
 |a n=>
  cases y with
  |a m=>simp[Lf.beq]at h;rw[h]
  |k u=>simp[Lf.beq]at h
  |e=>simp[Lf.beq]at h
 |e=>cases y<;>simp[Lf.beq]at h;rfl
inductive Lb where
 |f
 |x (b:Nat)
 |o (id:Nat) (p:List (Nat×Nat))
def Lb.id:Lb->Nat
 | .f=>0
 | .x b=>b
 | .o i _=>i
structure Gh where
 ω:Nat->Option Lb
 β:Nat->Nat
 H:Nat->List (Nat×Nat)->Value
 hs:∀i p,∃a n c,H i p=.slice a n c
def qt:Lb->Bool
 | .o i p=>Nat.beq (i%4) 2||(Nat.beq (i%2) 0&& !p.isEmpty)
 |_=>false
def qf(ω:Nat->Option Lb):Nat->Option Lb:=λb=>match ω b with
 |some l=>bif qt l then none else some l
 |none=>none
theorem uN{ω:Nat->Option Lb}{b:Nat}(h:ω b=none):qf ω b=none:=by simp[qf,h]
theorem wK{ω:Nat->Option Lb}{b:Nat}{l:Lb}(h:ω b=some l)(hq:qt l=false):qf ω b=some l:=by simp[qf,h,hq]
theorem Dt{ω:Nat->Option Lb}{b:Nat}{l:Lb}(h:ω b=some l)(hq:qt l=true):qf ω b=none:=by simp[qf,h,hq]
theorem I9{ω:Nat->Option Lb}{b:Nat}(h:qf ω b=none):ω b=none∨∃l,ω b=some l∧qt l=true:=by
 unfold qf at h
 split at h
 ·rename_i l hl
  cases hq:qt l with
  |true=>exact .inr ⟨l,hl,hq⟩
  |false=>simp[hq]at h
 ·rename_i hl;exact .inl hl
theorem B_{ω:Nat->Option Lb}{b:Nat}{l:Lb}(h:ω b=some l)(hq:qt l=false):qf ω b≠none:=by rw[wK h hq];simp
theorem B'{ω sN:Nat->Option Lb}{b:Nat}(h:qf ω b=none)(hn:ω b=none->sN b=none)(hl:∀l,ω b=some l->qt l=true->sN b=none∨∃l',sN b=some l'∧qt l'=true):qf sN b=none:=by
 rcases I9 h with h0|⟨l,h1,h2⟩
 ·exact uN (hn h0)
 ·rcases hl l h1 h2 with h3|⟨l',h3,h4⟩
  ·exact uN h3
  ·exact Dt h3 h4
def Gh.q(G:Gh):Nat->Option Lb:=qf G.ω
theorem Du{G:Gh}{b:Nat}{l:Lb}(h:G.q b=some l):G.ω b=some l:=by
 unfold Gh.q qf at h
 split at h
 ·rename_i l' hl
  cases hq:qt l' with
  |true=>simp[hq]at h
  |false=>simp[hq]at h;rw[hl,h]
 ·cases h
theorem Gh.sO{G G':Gh}{b:Nat}(h:G'.ω b=G.ω b):G'.q b=G.q b:=by simp only[Gh.q,qf,h]
theorem zP{ρ:List T}{id:Nat}{p:List (Nat×Nat)}(h:p=[]∨id%2=1)(h2:id%4≠2):qt (.o id p)=false:=by
 have e1:Nat.beq (id%4) 2=false:=by
  cases hb:Nat.beq (id%4) 2 with
  |false=>rfl
  |true=>exact absurd (cO hb) h2
 rcases h with rfl|h
 ·simp[qt,e1]
 ·have e2:Nat.beq (id%2) 0=false:=by rw[h];rfl
  simp[qt,e1,e2]
theorem zQ{id:Nat}(h2:id%4≠2):qt (.o id [])=false:=zP (ρ:=[]) (.inl rfl) h2
theorem rp{i:Nat}{p:List (Nat×Nat)}(hi:i%2=0)(hp:p≠[]):qt (.o i p)=true:=by
 cases p with
 |nil=>exact absurd rfl hp
 |cons x p=>simp[qt,hi]
theorem Dv{i:Nat}{p:List (Nat×Nat)}(hi:i%4=2):qt (.o i p)=true:=by simp[qt,hi]
def cP(xs:List (List T))(i j:Nat):Option T:=xs[i]?.bind (·[j]?)
inductive dF (ω:Nat->Option Lb) (w:World):T->Value->Prop
 |c {v:Value} (h:iY v=true):dF ω w (.c v) v
 |nil {a:Option Addr} {cap:Nat}:dF ω w (.l []) (.slice a 0 cap)
 |l {xs:List (List T)} {b off wd cap:Nat} {cv:Nat->Nat->Value} (hw:∀r∈xs,r.length=wd) (hc:xs.length<=cap)
   (hb:ω b=none) (bI:b<w.heap.size)
   (h1:∀i j t,cP xs i j=some t->w.cell? ⟨b,off+(i*wd+j),none⟩=some (cv i j))
   (h2:∀i j t,cP xs i j=some t->dF ω w t (cv i j)):dF ω w (.l xs) (.slice (some ⟨b,off,none⟩) xs.length cap)
def qa(fr:Nat×Nat)(n:Nat):Prop:=fr=(0,0)∨n<=fr.1
inductive dx (G:Gh) (w:World) (id:Nat):Bool->List (Nat×Nat)->T->Prop
 |nil {dp:Bool} {p:List (Nat×Nat)} (hH:G.H id p=.slice none 0 0):dx G w id dp p (.l [])
 |l {dp:Bool} {p:List (Nat×Nat)} {xs:List (List T)} {b wd cap:Nat} {aN:Array Value} {elem:TypeId} {fr:Nat×Nat} {cv:Nat->Nat->Value}
   (hH:G.H id p=.slice (some ⟨b,0,none⟩) xs.length cap) (hc:xs.length<=cap∧(xs=[]->cap=0)) (fA:G.ω b=some (.o id p))
   (hh:w.heap[b]?=some (.cells aN elem fr)) (hs:aN.size=cap*wd∧qa fr aN.size) (hw:∀r∈xs,r.length=wd)
   (h1:∀i j t,cP xs i j=some t->aN[i*wd+j]?=some (cv i j))
   (hv:∀i j v,cP xs i j=some (.c v)->cv i j=v∧iY v=true)
   (hp:∀i j ys,cP xs i j=some (.l ys)->dp=false->dF G.q w (.l ys) (cv i j))
   (hq:∀i j ys,cP xs i j=some (.l ys)->dp=true->cv i j=G.H id (p++[(i,j)]))
   (ho:∀i j ys,cP xs i j=some (.l ys)->dp=true->dx G w id true (p++[(i,j)]) (.l ys)):dx G w id dp p (.l xs)
def Lf.eE(ρ:List T):Lf->Option T
 | .k v=>bif iY v then some (.c v)else none
 | .a n=>ρ[n]?
 | .e=>some (.l [])
theorem Lf.a_{ρ:List T}{x:Lf}{t:T}(h:x.eE ρ=some t):x.ev ρ=t:=by
 cases x with
 |k v=>simp only[Lf.eE]at h;cases hs:iY v<;>simp[hs]at h;simp[Lf.ev,h]
 |a n=>simp only[Lf.eE]at h;simp[Lf.ev,List.getD,h]
 |e=>simpa[Lf.eE,Lf.ev]using h
def k_(ρ:List T)(x:Lf):Option Nat:=
 match x.eE ρ with
 |some (.c (.int _ n))=>if 0<=n then some n.toNat else none
 |_=>none
def fm(ρ:List T):ma->Option (List (Nat×Nat))
 | []=>some []
 |(x,_,j)::q=>(k_ ρ x).bind λi=>(fm ρ q).bind λp=>some ((i,j)::p)
def jH(ρ:List T)(id:Nat)(q:ma):Option (List (Nat×Nat)):=
 match q with
 | []=>some []
 |x::q=>if id%2=1 then fm ρ (x::q)else none
theorem lu{ρ:List T}{id:Nat}:jH ρ id []=some []:=rfl
theorem zR{ρ:List T}{id:Nat}{q:ma}{p:List (Nat×Nat)}(h:jH ρ id q=some p):fm ρ q=some p:=by
 cases q with
 |nil=>exact h
 |cons x q=>
  simp only[jH]at h
  split at h
  ·exact h
  ·cases h
theorem zS{ρ:List T}{id:Nat}{q:ma}{p:List (Nat×Nat)}(h:jH ρ id q=some p):p=[]∨id%2=1:=by
 cases q with
 |nil=>simp only[jH,aH]at h;exact .inl h.symm
 |cons x q=>
  simp only[jH]at h
  split at h
  ·exact .inr (by assumption)
  ·cases h
theorem Sx{ρ:List T}{id:Nat}{q:ma}{p:List (Nat×Nat)}(h:fm ρ q=some p)(hi:id%2=1):jH ρ id q=some p:=by
 cases q with
 |nil=>exact h
 |cons x q=>simp only[jH,if_pos hi];exact h
def fb(G:Gh)(w:World)(ρ:List T):Ce->Value->Prop
 | .p x,c=>∃t,x.eE ρ=some t∧dF G.q w t c
 | .o id q,c=>∃p,jH ρ id q=some p∧c=G.H id p
 | .n,c=>c=.slice none 0 0
 | .d,c=>c.oneCell'=true
def aE(G:Gh)(w:World)(ρ:List T):List Ce->List Value->Prop
 | [],[]=>True
 |c::cs,v::vs=>fb G w ρ c v∧aE G w ρ cs vs
 |_,_=>False
def dW(G:Gh)(w:World)(ρ:List T)(ag:Bool)(cs:List Ce)(c:Value):Prop:=
 match ag with
 |true=>∃vs:List Value,c=.agg vs.toArray∧aE G w ρ cs vs
 |false=>∃e,cs=[e]∧fb G w ρ e c∧∀a,c≠.agg a
def fo(G:Gh)(w:World)(ρ:List T):List (Bool×List Ce)->List Value->Prop
 | [],[]=>True
 |c::cs,v::vs=>dW G w ρ c.1 c.2 v∧fo G w ρ cs vs
 |_,_=>False
def ca(G:Gh)(w:World)(ρ:List T):SV->Value->Prop
 | .un,_=>True
 | .v ag cs,c=>dW G w ρ ag cs c
 | .pt b off,c=>c=.pointer (some ⟨G.β b,off,none⟩)
 | .ep id q ix wd off,c=>∃p b n cap i,jH ρ id q=some p∧G.H id p=.slice (some ⟨b,0,none⟩) n cap∧k_ ρ ix=some i∧i<n∧
   c=.pointer (some ⟨b,i*wd+off,none⟩)
 | .fp s ix wd off,c=>∃xs i r b base,s.eE ρ=some (.l xs)∧k_ ρ ix=some i∧xs[i]?=some r∧c=.pointer (some ⟨b,base+off,none⟩)∧
   (r.length=wd->G.q b=none∧b<w.heap.size∧∀j t,r[j]?=some t->∃u,w.cell? ⟨b,base+j,none⟩=some u∧dF G.q w t u)
 | .tp vs,c=>∃us:List Value,c=.tuple us.toArray∧fo G w ρ vs us
 | .cl f bs,c=>c=.func (.func f) #[] (bs.map λb=>Value.pointer (some ⟨G.β b,0,none⟩)).toArray
 | .ob _ _,_=>False
 | .fz _ _,_=>False
 | .tk _ _,_=>False
 | .fl _,_=>False
 | .fr _,_=>False
def eX(G:Gh)(w:World)(ρ:List T)(b:Nat):SV->Prop
 | .v _ cs=>G.ω (G.β b)=some (.x b)∧∃aN elem,w.heap[G.β b]?=some (.cells aN elem (0,0))∧aE G w ρ cs aN.toList
 | .un=>True
 |_=>False
def nD(w:World)(H:List (Nat×Nat)->Value)(n:Nat)(v:Value)(zs:List (List T)):Prop:=
 ∀b off k c,v=.slice (some ⟨b,off,none⟩) k c->∃wd,(∀r∈zs,r.length=wd)∧∀i j ys,cP zs i j=some (.l ys)->w.cell? ⟨b,off+(i*wd+j),none⟩=some (H [(n+i,j)])
def tT(G:Gh)(w:World)(ρ:List T)(v:Value)(t:T):Pv->Prop
 | .z=>True
 | .w tk x lo=>tk%4=2∧∃F n zs,x.eE ρ=some (.l F)∧k_ ρ lo=some n∧t=.l zs∧(∀i r,zs[i]?=some r->F[n+i]?=some r)∧
   nD w (G.H tk) n v zs∧(n=0->∀b off k c,v=.slice (some ⟨b,off,none⟩) k c->off=0)
def cb(G:Gh)(w:World)(ρ:List T)(id:Nat):SV->Prop
 | .ob dp x=>∃t,x.eE ρ=some t∧dx G w id dp [] t
 | .fz pv x=>∃t,x.eE ρ=some t∧dF G.q w t (G.H id [])∧tT G w ρ (G.H id []) t pv
 | .tk x m=>id%4=2∧∃F u,x.eE ρ=some (.l F)∧m.eE ρ=some (.l u)∧u.length=F.length∧
   ∀i r,u[i]?=some r->r≠[]->F[i]?=some r∧∀j ys,r[j]?=some (.l ys)->dx G w id true [(i,j)] (.l ys)
 | .fl x=>id%4=2∧∃t,x.eE ρ=some t∧dx G w id true [] t
 | .fr x=>id%4=0∧∃ys,x.eE ρ=some (.l ys)∧dF G.q w (.l ys) (G.H id [])∧nD w (G.H id) 0 (G.H id []) ys∧
   ∀i j zs,cP ys i j=some (.l zs)->dx G w id true [(i,j)] (.l zs)
 | .un=>True
 |_=>False
structure cJ (I:Lb->Prop) (N:Nat->Prop) (G:Gh) (w:World) (G':Gh) (w':World):Prop where
 size:w.heap.size<=w'.heap.size
 free:∀b,b<w.heap.size->G.q b=none->G'.q b=none∧w'.heap[b]?=w.heap[b]?
 QP:∀b,b<w.heap.size->G.ω b=none->G'.ω b=none
 own:∀b l,G.ω b=some l->¬I l->G'.ω b=some l∧w'.heap[b]?=w.heap[b]?
 nm:∀i,¬N i->G'.β i=G.β i∧∀p,(p=[]∨i%4≠0∨∀r,¬I (.o i r))->G'.H i p=G.H i p
theorem Sy{w w':World}{b:Nat}(h:w'.heap[b]?=w.heap[b]?)(off:Nat):w'.cell? ⟨b,off,none⟩=w.cell? ⟨b,off,none⟩:=by
 simp only[World.cell?,h]
theorem dF.aF{ω sN:Nat->Option Lb}{w w':World}(hs:w.heap.size<=w'.heap.size)
  (hf:∀b,b<w.heap.size->ω b=none->sN b=none∧w'.heap[b]?=w.heap[b]?){t:T}{c:Value}(h:dF ω w t c):dF sN w' t c:=by
 induction h with
 |c h=>exact .c h
 |nil=>exact .nil
 |l hw hc hb bI h1 h2 ih=>
  obtain⟨lF,hh⟩:=hf _ bI hb
  exact .l hw hc lF (Nat.lt_of_lt_of_le bI hs) (λi j t ht=>by rw[Sy hh];exact h1 i j t ht) ih
theorem dx.aF{I:Lb->Prop}{N:Nat->Prop}{G G':Gh}{w w':World}(k:cJ I N G w G' w'){id:Nat}(hi:∀p,¬I (.o id p))(hn:¬N id){dp:Bool}{p:List (Nat×Nat)}{t:T}
  (h:dx G w id dp p t):dx G' w' id dp p t:=by
 have hH:G'.H id=G.H id:=funext λp=>(k.nm id hn).2 p (.inr (.inr hi))
 induction h with
 |nil h=>exact .nil (by rw[hH];exact h)
 |l h1 h2 h3 h4 h5 h6 h7 h8 h9 jI _ ih=>
  obtain⟨ho,hh⟩:=k.own _ _ h3 (hi _)
  exact .l (by rw[hH];exact h1) h2 ho (hh.trans h4) h5 h6 h7 h8 (λi j ys hy hd=>(h9 i j ys hy hd).aF k.size k.free)
   (λi j ys hy hd=>by rw[hH];exact jI i j ys hy hd) ih
def cT:List Ce->List Nat
 | []=>[]
 | .o id _::cs=>id::cT cs
 |_::cs=>cT cs
def qb:List (Bool×List Ce)->List Nat
 | []=>[]
 |v::vs=>cT v.2++qb vs
def cD:SV->List Nat
 | .v _ cs=>cT cs
 | .pt b _=>[b]
 | .ep id _ _ _ _=>[id]
 | .cl _ bs=>bs
 | .tp vs=>qb vs
 | .fz (.w tk _ _) _=>[tk]
 |_=>[]
theorem fb.aF{I:Lb->Prop}{N:Nat->Prop}{G G':Gh}{w w':World}(k:cJ I N G w G' w'){ρ:List T}{e:Ce}{c:Value}(hn:∀i∈cT [e],¬N i)
  (h:fb G w ρ e c):fb G' w' ρ e c:=by
 cases e with
 |p x=>obtain⟨t,h1,h2⟩:=h;exact⟨t,h1,h2.aF k.size k.free⟩
 |o id q=>obtain⟨p,h1,h2⟩:=h;exact⟨p,h1,by rw[(k.nm id (hn id (by simp[cT]))).2 p ((zS h1).imp_right λh=>.inl (by omega))];exact h2⟩
 |n=>exact h
 |d=>exact h
theorem uO(e:Ce)(cs:List Ce):cT (e::cs)=cT [e]++cT cs:=by
 cases e<;>simp[cT]
theorem aE.aF{I:Lb->Prop}{N:Nat->Prop}{G G':Gh}{w w':World}(k:cJ I N G w G' w'){ρ:List T}:∀{cs:List Ce} {vs:List Value},(∀i∈cT cs,¬N i)->
  aE G w ρ cs vs->aE G' w' ρ cs vs
 | [],[],_,_=>trivial
 | [],_::_,_,h=>h.elim
 |_::_,[],_,h=>h.elim
 |e::cs,v::vs,hn,h=>by
  rw[uO]at hn
  exact⟨h.1.aF k (λi hi=>hn i (List.mem_append_left _ hi)),aE.aF k (λi hi=>hn i (List.mem_append_right _ hi)) h.2⟩
theorem dW.aF{I:Lb->Prop}{N:Nat->Prop}{G G':Gh}{w w':World}(k:cJ I N G w G' w'){ρ:List T}{ag:Bool}{cs:List Ce}{c:Value}(hn:∀i∈cT cs,¬N i)
  (h:dW G w ρ ag cs c):dW G' w' ρ ag cs c:=by
 cases ag with
 |true=>obtain⟨vs,h1,h2⟩:=h;exact⟨vs,h1,h2.aF k hn⟩
 |false=>obtain⟨e,rfl,h2,h3⟩:=h;exact⟨e,rfl,h2.aF k hn,h3⟩
theorem fo.aF{I:Lb->Prop}{N:Nat->Prop}{G G':Gh}{w w':World}(k:cJ I N G w G' w'){ρ:List T}:∀{cs:List (Bool×List Ce)} {vs:List Value},(∀i∈qb cs,¬N i)->
  fo G w ρ cs vs->fo G' w' ρ cs vs
 | [],[],_,_=>trivial
 | [],_::_,_,h=>h.elim
 |_::_,[],_,h=>h.elim
 |e::cs,v::vs,hn,h=>⟨h.1.aF k (λi hi=>hn i (by simp[qb,hi])),fo.aF k (λi hi=>hn i (by simp[qb,hi])) h.2⟩
theorem ca.aF{I:Lb->Prop}{N:Nat->Prop}{G G':Gh}{w w':World}(k:cJ I N G w G' w'){ρ:List T}{v:SV}{c:Value}(hn:∀i∈cD v,¬N i)
  (h:ca G w ρ v c):ca G' w' ρ v c:=by
 cases v with
 |un=>trivial
 |v ag cs=>exact dW.aF k hn h
 |pt b off=>exact(by rw[ca,(k.nm b (hn b (by simp[cD]))).1];exact h)
 |ep id q ix wd off=>
  obtain⟨p,b,n,cap,i,h1,h2,h3⟩:=h
  exact⟨p,b,n,cap,i,h1,by rw[(k.nm id (hn id (by simp[cD]))).2 p ((zS h1).imp_right λh=>.inl (by omega))];exact h2,h3⟩
 |fp s ix wd off=>
  obtain⟨xs,i,r,b,base,h1,h2,h3,h4,h5⟩:=h
  refine⟨xs,i,r,b,base,h1,h2,h3,h4,λhr=>?_⟩
  obtain⟨h6,h7,h8⟩:=h5 hr
  obtain⟨h9,jI⟩:=k.free _ h7 h6
  refine⟨h9,Nat.lt_of_lt_of_le h7 k.size,λj t ht=>?_⟩
  obtain⟨u,hu,hd⟩:=h8 j t ht
  exact⟨u,by rw[Sy jI];exact hu,hd.aF k.size k.free⟩
 |tp vs=>obtain⟨us,h1,h2⟩:=h;exact⟨us,h1,h2.aF k hn⟩
 |cl f bs=>
  simp only[ca]at h⊢
  rw[h]
  congr 2
  exact List.map_congr_left λb hb=>by rw[(k.nm b (hn b (by simpa[cD]using hb))).1]
 |ob dp x=>exact h
 |fz pv x=>exact h
 |tk x m=>exact h
 |fl x=>exact h
 |fr x=>exact h
theorem eX.aF{I:Lb->Prop}{N:Nat->Prop}{G G':Gh}{w w':World}(k:cJ I N G w G' w'){ρ:List T}{b:Nat}{v:SV}(hi:¬I (.x b))(hb:¬N b)(hn:∀i∈cD v,¬N i)
  (h:eX G w ρ b v):eX G' w' ρ b v:=by
 cases v with
 |v ag cs=>
  obtain⟨h1,aN,elem,h2,h3⟩:=h
  obtain⟨h4,h5⟩:=k.own _ _ h1 hi
  have zU:=(k.nm b hb).1
  exact⟨by rw[zU];exact h4,aN,elem,by rw[zU];exact h5.trans h2,h3.aF k hn⟩
 |un=>trivial
 |_=>exact h
theorem nD.aF{ω:Nat->Option Lb}{w w':World}{H H':List (Nat×Nat)->Value}{n:Nat}{v:Value}{zs:List (List T)}(h:nD w H n v zs)(hd:dF ω w (.l zs) v)
  (hf:∀b,b<w.heap.size->ω b=none->w'.heap[b]?=w.heap[b]?)(hH:∀p,p≠[]->H' p=H p):nD w' H' n v zs:=by
 intro b off k c hv
 obtain⟨wd,h1,h2⟩:=h b off k c hv
 refine⟨wd,h1,λi j ys aS=>?_⟩
 rw[hH _ (by simp),<-h2 i j ys aS]
 subst hv
 generalize hv:Value.slice (some (⟨b,off,none⟩:Addr)) k c=v at hd
 cases hd with
 |nil=>simp[cP]at aS
 |l g1 g2 g3 g4 g5 g6=>cases hv;exact Sy (hf _ g4 g3) _
theorem tT.aF{I:Lb->Prop}{N:Nat->Prop}{G G':Gh}{w w':World}(k:cJ I N G w G' w'){ρ:List T}{pv:Pv}{v:Value}{t:T}(hd:dF G.q w t v)(hn:∀x i,i∈cD (.fz pv x)->¬N i)
  (h:tT G w ρ v t pv):tT G' w' ρ v t pv:=by
 cases pv with
 |z=>trivial
 |w tk x lo=>
  obtain⟨h0,F,n,zs,h1,h2,rfl,h3,h4,h5⟩:=h
  refine⟨h0,F,n,zs,h1,h2,rfl,h3,h4.aF hd (λb hb h=>(k.free b hb h).2) λp _=>?_,h5⟩
  exact(k.nm tk (hn .e tk (by simp[cD]))).2 p (.inr (.inl (by omega)))
theorem cb.aF{I:Lb->Prop}{N:Nat->Prop}{G G':Gh}{w w':World}(k:cJ I N G w G' w'){ρ:List T}{id:Nat}{v:SV}(hi:∀p,¬I (.o id p))(hb:¬N id)(hn:∀i∈cD v,¬N i)
  (h:cb G w ρ id v):cb G' w' ρ id v:=by
 cases v with
 |ob dp x=>obtain⟨t,h1,h2⟩:=h;exact⟨t,h1,h2.aF k hi hb⟩
 |fz pv x=>
  obtain⟨t,h1,h2,h3⟩:=h
  have e:=(k.nm id hb).2 [] (.inl rfl)
  exact⟨t,h1,by rw[e];exact h2.aF k.size k.free,by rw[e];exact h3.aF k h2 (λ_ i hi=>hn i (by cases pv<;>exact hi))⟩
 |tk x m=>
  obtain⟨h0,F,u,h1,h2,h3,h4⟩:=h
  exact⟨h0,F,u,h1,h2,h3,λi r hr cW=>⟨(h4 i r hr cW).1,λj ys hy=>((h4 i r hr cW).2 j ys hy).aF k hi hb⟩⟩
 |fl x=>obtain⟨h0,t,h1,h2⟩:=h;exact⟨h0,t,h1,h2.aF k hi hb⟩
 |fr x=>
  obtain⟨h0,ys,h1,h2,h3,h4⟩:=h
  have e:=λp=>(k.nm id hb).2 p (.inr (.inr hi))
  refine⟨h0,ys,h1,by rw[e];exact h2.aF k.size k.free,by rw[e];exact h3.aF h2 (λb hb h=>(k.free b hb h).2) λp _=>e p,λi j zs hz=>(h4 i j zs hz).aF k hi hb⟩
 |un=>trivial
 |_=>exact h
theorem cJ.refl(G:Gh)(w:World):cJ (λ_=>False) (λ_=>False) G w G w:=
 ⟨Nat.le_refl _,λ_ _ h=>⟨h,rfl⟩,λ_ _ h=>h,λ_ _ h _=>⟨h,rfl⟩,λ_ _=>⟨rfl,λ_ _=>rfl⟩⟩
theorem cJ.mono{I I':Lb->Prop}{N N':Nat->Prop}{G G':Gh}{w w':World}(k:cJ I N G w G' w')(hI:∀l,I l->I' l)(hN:∀i,N i->N' i):cJ I' N' G w G' w':=
 ⟨k.size,k.free,k.QP,λb l hb hl=>k.own b l hb λh=>hl (hI l h),λi hi=>⟨(k.nm i λh=>hi (hN i h)).1,λp hp=>(k.nm i λh=>hi (hN i h)).2 p (hp.imp_right λh=>h.imp_right λh r hr=>h r (hI _ hr))⟩⟩
theorem cJ.trans{I:Lb->Prop}{N:Nat->Prop}{G G' G'':Gh}{w w' Sz:World}(k:cJ I N G w G' w')(k':cJ I N G' w' G'' Sz):cJ I N G w G'' Sz:=by
 refine⟨Nat.le_trans k.size k'.size,λb hb h0=>?_,λb hb h0=>k'.QP b (Nat.lt_of_lt_of_le hb k.size) (k.QP b hb h0),λb l hb hl=>?_,λi hi=>?_⟩
 ·obtain⟨h1,h2⟩:=k.free b hb h0
  obtain⟨h3,h4⟩:=k'.free b (Nat.lt_of_lt_of_le hb k.size) h1
  exact⟨h3,h4.trans h2⟩
 ·obtain⟨h1,h2⟩:=k.own b l hb hl
  obtain⟨h3,h4⟩:=k'.own b l h1 hl
  exact⟨h3,h4.trans h2⟩
 ·exact⟨(k'.nm i hi).1.trans (k.nm i hi).1,λp hp=>((k'.nm i hi).2 p hp).trans ((k.nm i hi).2 p hp)⟩
theorem St.rq(s:St)(r:aK):s.get r=(s.look r).getD .un:=by
 induction s with
 |nil=>rfl
 |cons x s ih=>
  obtain⟨r',v⟩:=x
  cases h:r'.beq r<;>simp[St.get,St.look,h,ih]
theorem St.aD(s W:St)(r:aK):(s.dV W).get r=(W.look r).getD (s.get r):=by
 induction W with
 |nil=>rfl
 |cons x W ih=>
  obtain⟨r',v⟩:=x
  cases h:r'.beq r with
  |true=>
   have:=aK.beq_iff.1 h
   subst this
   simp[St.dV,St.bm,St.look,h]
  |false=>
   have cW:r'≠r:=λe=>by simp[aK.beq_iff.2 e]at h
   simp[St.dV,St.dl _ _ cW,St.look,h,ih]
theorem St.aJ(s:St)(r:aK)(v:SV):(s.set r v).look r=some v:=by
 induction s with
 |nil=>simp[St.set,St.look,(aK.beq_iff).2 rfl]
 |cons x s ih=>
  obtain⟨r',v'⟩:=x
  cases h:r'.beq r with
  |true=>simp[St.set,St.look,h,(aK.beq_iff).2 rfl]
  |false=>simp[St.set,St.look,h,ih]
theorem St.bP(s:St){r r':aK}(v:SV)(h:r≠r'):(s.set r v).look r'=s.look r':=by
 have hb:r.beq r'=false:=by
  cases hh:r.beq r' with
  |false=>rfl
  |true=>exact absurd (aK.beq_iff.1 hh) h
 induction s with
 |nil=>simp[St.set,St.look,hb]
 |cons x s ih=>
  obtain⟨r2,v2⟩:=x
  cases h2:r2.beq r with
  |true=>
   have:=aK.beq_iff.1 h2
   subst this
   simp[St.set,St.look,h2,hb]
  |false=>
   cases h3:r2.beq r' with
   |true=>simp[St.set,St.look,h2,h3]
   |false=>simp[St.set,St.look,h2,h3,ih]
theorem St.wL(s:St)(R:List aK){r:aK}(h:r∈R):(s.only R).get r=s.get r:=by
 induction R with
 |nil=>cases h
 |cons x R ih=>
  simp only[St.only,St.get]
  cases hb:x.beq r with
  |true=>have:=aK.beq_iff.1 hb;subst this;rfl
  |false=>
   refine ih ?_
   cases h with
   |head=>simp[aK.beq_iff.2 rfl]at hb
   |tail _ h=>exact h
theorem St.qc(s:St)(R:List aK){r:aK}(h:r∉R):(s.only R).get r=.un:=by
 induction R with
 |nil=>rfl
 |cons x R ih=>
  simp only[St.only,St.get]
  have hb:x.beq r=false:=by
   cases hb:x.beq r with
   |false=>rfl
   |true=>exact absurd (aK.beq_iff.1 hb▸List.mem_cons_self) h
  rw[hb]
  exact ih λhm=>h (List.mem_cons_of_mem _ hm)
structure dE where
 w0:World
 mJ:Nat->Option Lb
 bt:Nat->Option Nat
def I_:List (Nat×List Value):=[]
def zV(ω:Nat->Option Lb)(w:World):Prop:=∀x∈I_,x.1<w.heap.size∧ω x.1=none∧∃e z,w.heap[x.1]?=some (.cells x.2.toArray e z)
structure sP (B:dE) (G:Gh) (w:World):Prop where
 os:w.os=B.w0.os
 tape:w.tape=B.w0.tape
 output:w.output=B.w0.output
 size:B.w0.heap.size<=w.heap.size
 free:∀b,b<B.w0.heap.size->B.mJ b=none->G.ω b=none∧w.heap[b]?=B.w0.heap[b]?
 yz:∀b,B.mJ b=some .f->G.ω b=some .f∧w.heap[b]?=B.w0.heap[b]?
 gl:zV B.mJ B.w0
theorem sP.SA{B:dE}{G:Gh}{w:World}(h:sP B G w):zV G.ω w:=λx hx=>by
 obtain⟨h1,h2,e,z,h3⟩:=h.gl x hx
 obtain⟨h4,h5⟩:=h.free x.1 h1 h2
 exact⟨Nat.lt_of_lt_of_le h1 h.size,h4,e,z,h5.trans h3⟩
def nE(up:Nat->Nat->Value)(d:Nat)(a:Act)(e n:Nat):Value:=if e=d then a.tmps.getD n undef else up e n
structure Rel (M:Nat->Prop) (B:dE) (d:Nat) (up:Nat->Nat->Value) (s:St) (ρ:List T) (G:Gh) (a:Act) (w:World):Prop where
 tm:∀e n,e<=d->ca G w ρ (s.get (.t e n)) (nE up d a e n)
 bx:∀b,eX G w ρ b (s.get (.x b))
 ob:∀i,cb G w ρ i (s.get (.o i))
 eY:∀r,∀i∈cD (s.get r),M i
 key:∀i,(s.get (.x i)≠.un∨s.get (.o i)≠.un)->M i
 fE:∀b l,G.ω b=some l->M l.id∧b<w.heap.size
 dn:a.defers=[]
 base:sP B G w
 bt:∀i b,B.bt i=some b->M i∧G.β i=b
theorem Dw{up:Nat->Nat->Value}{d:Nat}{a:Act}{dst:Option Nat}{v:Value}{e n:Nat}(h:¬(e=d∧dst=some n)):
  nE up d (a.put dst v) e n=nE up d a e n:=by
 unfold nE
 split
 ·rename_i he
  cases dst with
  |none=>rfl
  |some m=>
   have cW:m≠n:=λhm=>h ⟨he,by rw[hm]⟩
   simp[Act.put,Array.getD_eq_getD_getElem?,Array.getElem?_setIfInBounds_ne cW]
 ·rfl
theorem Hb{up:Nat->Nat->Value}{d:Nat}{a:Act}{v:Value}{n:Nat}(h:n<a.tmps.size):nE up d (a.put (some n) v) d n=v:=by
 simp[nE,Act.put,Array.getD_eq_getD_getElem?,h]
theorem Rel.mono{M M':Nat->Prop}{B:dE}{d:Nat}{up:Nat->Nat->Value}{s:St}{ρ:List T}{G:Gh}{a:Act}{w:World}(h:Rel M B d up s ρ G a w)
  (hM:∀i,M i->M' i):Rel M' B d up s ρ G a w:=
 ⟨h.tm,h.bx,h.ob,λr i hi=>hM i (h.eY r i hi),λi hi=>hM i (h.key i hi),λb l hl=>⟨hM _ (h.fE b l hl).1,(h.fE b l hl).2⟩,h.dn,h.base,λi b hb=>⟨hM i (h.bt i b hb).1,(h.bt i b hb).2⟩⟩
def mU(W:St):Lb->Prop
 | .f=>False
 | .x b=>W.look (.x b)≠none
 | .o i _=>W.look (.o i)≠none
theorem Rel.glue{M M':Nat->Prop}{B:dE}{d:Nat}{up:Nat->Nat->Value}{s s':St}{ρ:List T}{G:Gh}{a:Act}{w:World}(h:Rel M B d up s ρ G a w)
  {N:Nat->Prop}{G':Gh}{w':World}{W:St}(k:cJ (mU W) N G w G' w'){dst:Option Nat}{v:Value}
  (hN:∀i,N i->¬M i)(hM:∀i,M i->M' i)
  (hd:∀n,dst=some n->W.look (.t d n)≠none)
  (hr:Rel M' B d up (s'.dV W) ρ G' (a.put dst v) w'):Rel M' B d up (s.dV W) ρ G' (a.put dst v) w':=by
 have hw:∀r u,W.look r=some u->(s'.dV W).get r=u:=λr u hu=>by rw[St.aD,hu];rfl
 refine⟨?_,?_,?_,?_,?_,hr.fE,hr.dn,hr.base,hr.bt⟩
 ·intro e n he
  rw[St.aD]
  cases hl:W.look (.t e n)with
  |some u=>have:=hr.tm e n he;rw[hw _ _ hl]at this;exact this
  |none=>
   rw[Dw λ⟨h1,h2⟩=>hd n h2 (h1▸hl)]
   exact(h.tm e n he).aF k λi hi hn=>hN i hn (h.eY _ i hi)
 ·intro b
  rw[St.aD]
  cases hl:W.look (.x b)with
  |some u=>have:=hr.bx b;rw[hw _ _ hl]at this;exact this
  |none=>
   by_cases hu:s.get (.x b)=.un
   ·simp only[Option.getD_none,hu];trivial
   ·exact(h.bx b).aF k (λhk=>hk hl) (λhn=>hN b hn (h.key b (.inl hu))) λi hi hn=>hN i hn (h.eY _ i hi)
 ·intro i
  rw[St.aD]
  cases hl:W.look (.o i)with
  |some u=>have:=hr.ob i;rw[hw _ _ hl]at this;exact this
  |none=>
   by_cases hu:s.get (.o i)=.un
   ·simp only[Option.getD_none,hu];trivial
   ·exact(h.ob i).aF k (λp hk=>hk hl) (λhn=>hN i hn (h.key i (.inr hu))) λj hj hn=>hN j hn (h.eY _ j hj)
 ·intro r i hi
  rw[St.aD]at hi
  cases hl:W.look r with
  |some u=>rw[hl]at hi;refine hr.eY r i ?_;rw[hw _ _ hl];exact hi
  |none=>rw[hl]at hi;exact hM i (h.eY r i hi)
 ·intro i hi
  rw[St.aD,St.aD]at hi
  rcases hi with hi|hi
  ·cases hl:W.look (.x i)with
   |some u=>rw[hl]at hi;exact hr.key i (.inl (by rw[hw _ _ hl];exact hi))
   |none=>rw[hl]at hi;exact hM i (h.key i (.inl hi))
  ·cases hl:W.look (.o i)with
   |some u=>rw[hl]at hi;exact hr.key i (.inr (by rw[hw _ _ hl];exact hi))
   |none=>rw[hl]at hi;exact hM i (h.key i (.inr hi))
theorem Rel.zW{M:Nat->Prop}{B:dE}{d:Nat}{up:Nat->Nat->Value}{s:St}{ρ:List T}{G:Gh}{a:Act}{w:World}(h:Rel M B d up s ρ G a w)
  {n:Nat}{x:SV}{v:Value}(hn:n<a.tmps.size)(hr:ca G w ρ x v)(hm:∀i∈cD x,M i):
  Rel M B d up (s.set (.t d n) x) ρ G (a.put (some n) v) w:=by
 have hg:∀r,r≠.t d n->(s.set (.t d n) x).get r=s.get r:=λr hr=>St.dl _ _ (Ne.symm hr)
 refine⟨λe m he=>?_,λb=>?_,λi=>?_,λr i hi=>?_,λi hi=>?_,h.fE,h.dn,h.base,h.bt⟩
 ·by_cases ij:(aK.t e m)=.t d n
  ·cases ij;rw[St.bm,Hb hn];exact hr
  ·rw[hg _ ij,Dw λ⟨h1,h2⟩=>ij (by cases h1;cases h2;rfl)];exact h.tm e m he
 ·rw[hg _ (by simp)];exact h.bx b
 ·rw[hg _ (by simp)];exact h.ob i
 ·by_cases ij:r=.t d n
  ·subst ij;rw[St.bm]at hi;exact hm i hi
  ·rw[hg _ ij]at hi;exact h.eY r i hi
 ·rw[hg _ (by simp),hg _ (by simp)]at hi;exact h.key i hi
def aO(S:Nat->ai)(ρ:List T):Nat->List zl->Prop
 |_,[]=>True
 |e,.pr p xs::is=>∃n t,e=n+1∧p.ev (xs.map (Lf.ev ρ))=some t∧ρ[n]?=some t∧aO S ρ n is
 |e,.cl g xs m::is=>∃n ts,e=n+m∧S g (xs.map (Lf.ev ρ))=some ts∧(∀i,i<m->ρ[n+i]?=some (ts.getD i T.bp))∧aO S ρ n is
def Wk.aO(S:Nat->ai)(ρ:List T)(k:Wk):Prop:=Go.Proofs.YtbhplkilhknciaaC.aO S ρ k.ct.a k.is
structure Wk.dL (k k':Wk):Prop where
 r:k'.r=k.r
 w:k'.w=k.w
 i:k'.ct.i=k.ct.i
theorem Wk.dL.refl(k:Wk):k.dL k:=⟨rfl,rfl,rfl⟩
theorem Wk.dL.trans{a b c:Wk}(h:a.dL b)(h':b.dL c):a.dL c:=⟨h'.r.trans h.r,h'.w.trans h.w,h'.i.trans h.i⟩
theorem Wk.dL.get{k k':Wk}(h:k.dL k')(r:aK):k'.get r=k.get r:=by simp[Wk.get,h.r,h.w]
section
variable {S:Nat->ai} {ρ:List T}
theorem Wk.aT(k:Wk)(p:Prim)(xs:List Lf):k.dL (k.em p xs).1:=⟨rfl,rfl,rfl⟩
theorem Wk.be{k:Wk}{p:Prim}{xs:List Lf}(h:(k.em p xs).1.aO S ρ):
  k.aO S ρ∧∃t,p.ev (xs.map (Lf.ev ρ))=some t∧(k.em p xs).2.eE ρ=some t:=by
 obtain⟨n,t,h1,h2,h3,h4⟩:=h
 have:n=k.ct.a:=by simp[Wk.em]at h1;omega
 subst this
 exact⟨h4,t,h2,h3⟩
def gf:List (Nat×Nat)->T->Option T
 | [],t=>some t
 |(i,j)::p,.l xs=>(cP xs i j).bind (gf p)
 |_,_=>none
theorem Hc{x:Lf}{i:Nat}(h:k_ ρ x=some i):∃k,(x.ev ρ)=.c (.int k i):=by
 unfold k_ at h
 split at h
 ·rename_i k n hx
  split at h
  ·rename_i h0
   cases h
   exact⟨k,by rw[Lf.a_ hx];congr 2;exact(Int.toNat_of_nonneg h0).symm⟩
  ·cases h
 ·cases h
theorem Ja{xs:List (List T)}{k:IntKind}{i:Nat}:sE (.l xs) (.c (.int k (i:Int)))=xs[i]?:=by
 simp[sE,T.rows,T.int]
theorem zX{x ix:Lf}{w j i:Nat}{xs:List (List T)}{t:T}(hx:x.eE ρ=some (.l xs))(hi:k_ ρ ix=some i)
  (h:Prim.ev (.nC w j) [x.ev ρ,ix.ev ρ]=some t):∃ys,t=.l ys∧cP xs i j=some (.l ys)∧∃r,xs[i]?=some r∧r.length=w:=by
 obtain⟨k,hk⟩:=Hc hi
 rw[Lf.a_ hx,hk]at h
 simp only[Prim.ev,Ja]at h
 cases hr:xs[i]? with
 |none=>simp[hr]at h
 |some r=>
  simp only[hr,Option.bind_some]at h
  split at h
  ·rename_i hl
   cases hj:r[j]? with
   |none=>simp[hj]at h
   |some u=>
    cases u with
    |c v=>simp[hj,T.rows]at h
    |l ys=>
     simp[hj,T.rows]at h
     exact⟨ys,h.symm,by simp[cP,hr,hj],r,rfl,hl⟩
  ·cases h
theorem Wk.dK:∀(q:ma) (k:Wk) (x:Lf),k.dL (k.down x q).1
 | [],k,x=>.refl k
 |(ix,w,j)::q,k,x=>by
  simp only[Wk.down]
  exact(Wk.aT k _ _).trans (Wk.dK q _ _)
theorem Wk.jV:∀(q:ma) (k:Wk) (x:Lf),(k.down x q).1.aO S ρ->k.aO S ρ
 | [],_,_,h=>h
 |(ix,w,j)::q,k,x,h=>(Wk.be (Wk.jV q _ _ h)).1
theorem Wk.fL:∀(q:ma) (k:Wk) (x:Lf) {t:T} {p:List (Nat×Nat)},(k.down x q).1.aO S ρ->x.eE ρ=some t->fm ρ q=some p->
  (q=[]∨∃xs,t=.l xs)->∃u,gf p t=some u∧(k.down x q).2.eE ρ=some u∧(q=[]∨∃ys,u=.l ys)
 | [],k,x,t,p,h,hx,hp,_=>by
  simp only[fm]at hp
  cases hp
  exact⟨t,rfl,hx,.inl rfl⟩
 |(ix,w,j)::q,k,x,t,p,h,hx,hp,ht=>by
  simp only[Wk.down]at h⊢
  obtain⟨xs,rfl⟩:=ht.resolve_left (by simp)
  simp only[fm]at hp
  cases hi:k_ ρ ix with
  |none=>simp[hi]at hp
  |some i=>
   cases hq:fm ρ q with
   |none=>simp[hi,hq]at hp
   |some p'=>
    simp[hi,hq]at hp
    subst hp
    obtain⟨_,u,hu,SB⟩:=Wk.be (Wk.jV q _ _ h)
    obtain⟨ys,rfl,aS,_⟩:=zX hx hi hu
    obtain⟨v,hv,qS,hl⟩:=Wk.fL q _ _ h SB hq (.inr ⟨ys,rfl⟩)
    refine⟨v,by simp[gf,aS,hv],qS,.inr ?_⟩
    rcases hl with rfl|hl
    ·simp only[fm]at hq
     cases hq
     simp[gf]at hv
     exact⟨ys,hv.symm⟩
    ·exact hl
def er(ω:Nat->Option Lb):Nat->Option Lb:=λb=>match ω b with
 |some (.x i)=>some (.x i)
 |some .f=>some .f
 |_=>none
theorem SC{ω:Nat->Option Lb}{b:Nat}(h:ω b=none):er ω b=none:=by simp[er,h]
theorem Jb{G:Gh}{b:Nat}(h:G.q b=none):er G.ω b=none:=by
 rcases I9 h with h0|⟨l,h1,h2⟩
 ·exact SC h0
 ·cases l with
  |o i p=>simp[er,h1]
  |_=>simp[qt]at h2
theorem dF.er{G:Gh}{w:World}{t:T}{c:Value}(h:dF G.q w t c):dF (er G.ω) w t c:=
 by
 induction h with
 |c h=>exact .c h
 |nil=>exact .nil
 |l hw hc hb bI h1 h2 ih=>exact .l hw hc (Jb hb) bI h1 ih
theorem sq{w:World}{b:Nat}{aN:Array Value}{elem:TypeId}{fz:Nat×Nat}(h:w.heap[b]?=some (.cells aN elem fz))(off:Nat):
  w.cell? ⟨b,off,none⟩=aN[off]?:=by
 simp[World.cell?,h]
theorem Ca{w:World}{b:Nat}{o:Obj}(h:w.heap[b]?=some o):b<w.heap.size:=(Array.getElem?_eq_some_iff.1 h).1
theorem qd{xs:List (List T)}{i j:Nat}{t:T}(h:cP xs i j=some t):∃r,xs[i]?=some r∧r∈xs∧r[j]?=some t∧i<xs.length∧j<r.length:=by
 unfold cP at h
 cases hr:xs[i]? with
 |none=>simp[hr]at h
 |some r=>
  simp[hr]at h
  exact⟨r,rfl,List.mem_of_getElem? hr,h,(List.getElem?_eq_some_iff.1 hr).1,(List.getElem?_eq_some_iff.1 h).1⟩
theorem dx.den{G:Gh}{w:World}{id:Nat}{dp:Bool}{p:List (Nat×Nat)}{t:T}(h:dx G w id dp p t):dF (er G.ω) w t (G.H id p):=by
 induction h with
 |nil h=>rw[h];exact .nil
 | @l dp p xs b wd cap aN elem fr cv h1 h2 h3 h4 h5 h6 h7 h8 h9 jI _ ih=>
  rw[h1]
  refine .l (cv:=cv) h6 h2.1 (by simp[er,h3]) (Ca h4) (λi j t ht=>?_) λi j t ht=>?_
  ·rw[sq h4,Nat.zero_add];exact h7 i j t ht
  ·cases t with
   |c v=>obtain⟨hv,hs⟩:=h8 i j v ht;rw[hv];exact .c hs
   |l ys=>
    cases hd:dp with
    |false=>exact(h9 i j ys ht hd).er
    |true=>rw[jI i j ys ht hd];exact ih i j ys ht hd
theorem dx.Jc{G:Gh}{w:World}{id:Nat}{dp:Bool}{p:List (Nat×Nat)}{t:T}(h:dx G w id dp p t)(hi:id%4=2∨(id%2=0∧p≠[]))(eV:dp=true):dF G.q w t (G.H id p):=by
 induction h with
 |nil h=>rw[h];exact .nil
 | @l dp p xs b wd cap aN elem fr cv h1 h2 h3 h4 h5 h6 h7 h8 h9 jI ru ih=>
  rw[h1]
  refine .l (cv:=cv) h6 h2.1 (Dt h3 (hi.elim Dv λh=>rp h.1 h.2)) (Ca h4) (λi j t ht=>?_) λi j t ht=>?_
  ·rw[sq h4,Nat.zero_add];exact h7 i j t ht
  ·cases t with
   |c v=>obtain⟨hv,hs⟩:=h8 i j v ht;rw[hv];exact .c hs
   |l ys=>rw[jI i j ys ht eV];exact ih i j ys ht eV (hi.imp_right λh=>⟨h.1,by simp⟩) rfl
theorem dx.nC{G:Gh}{w:World}{id:Nat}:∀(q:List (Nat×Nat)) {p:List (Nat×Nat)} {t u:T},dx G w id true p t->gf q t=some u->(∃ys,u=.l ys)->
  dx G w id true (p++q) u
 | [],p,t,u,h,hd,_=>by simp only[gf]at hd;cases hd;simpa using h
 |(i,j)::q,p,t,u,h,hd,hu=>by
  cases h with
  |nil=>simp[gf,cP]at hd
  | @l _ _ xs b wd cap aN elem fr cv h1 h2 h3 h4 h5 h6 h7 h8 h9 jI ru=>
   simp only[gf]at hd
   cases ha:cP xs i j with
   |none=>simp[ha]at hd
   |some v=>
    simp only[ha,Option.bind_some]at hd
    cases v with
    |c v=>
     cases q with
     |nil=>simp[gf]at hd;obtain⟨ys,rfl⟩:=hu;cases hd
     |cons a q=>simp[gf]at hd
    |l ys=>
     have:=dx.nC q (ru i j ys ha rfl) hd hu
     simpa using this
theorem Wk.cX{k k':Wk}{c:Ce}{x:Lf}(h:k.val c=some (k',x)):k.dL k':=by
 cases c with
 |p y=>simp[Wk.val]at h;obtain⟨rfl,_⟩:=h;exact .refl _
 |n=>simp[Wk.val]at h;obtain⟨rfl,_⟩:=h;exact .refl _
 |d=>simp[Wk.val]at h
 |o id q=>
  simp only[Wk.val]at h
  split at h
  ·simp only[aH]at h
   have e1:=congrArg Prod.fst h
   simp only at e1
   subst e1
   exact Wk.dK q k _
  ·split at h
   ·simp at h;obtain⟨rfl,_⟩:=h;exact .refl _
   ·cases h
  ·split at h
   ·simp at h;obtain⟨rfl,_⟩:=h;exact .refl _
   ·cases h
  ·split at h
   ·simp at h;obtain⟨rfl,_⟩:=h;exact .refl _
   ·cases h
  ·cases h
theorem Wk.lc{k k':Wk}{c:Ce}{x:Lf}(h:k.val c=some (k',x))(hd:k'.aO S ρ):k.aO S ρ:=by
 cases c with
 |p y=>simp[Wk.val]at h;obtain⟨rfl,_⟩:=h;exact hd
 |n=>simp[Wk.val]at h;obtain⟨rfl,_⟩:=h;exact hd
 |d=>simp[Wk.val]at h
 |o id q=>
  simp only[Wk.val]at h
  split at h
  ·simp only[aH]at h
   have e1:=congrArg Prod.fst h
   simp only at e1
   subst e1
   exact Wk.jV q _ _ hd
  ·split at h
   ·simp at h;obtain⟨rfl,_⟩:=h;exact hd
   ·cases h
  ·split at h
   ·simp at h;obtain⟨rfl,_⟩:=h;exact hd
   ·cases h
  ·split at h
   ·simp at h;obtain⟨rfl,_⟩:=h;exact hd
   ·cases h
  ·cases h
theorem Wk.jW{k k':Wk}{c:Ce}{x:Lf}{G:Gh}{w:World}{v:Value}(h:k.val c=some (k',x))(hd:k'.aO S ρ)
  (hr:fb G w ρ c v)(ho:∀id,id∈cT [c]->cb G w ρ id (k.get (.o id))):∃t,x.eE ρ=some t∧dF (er G.ω) w t v:=by
 cases c with
 |p y=>simp[Wk.val]at h;obtain⟨_,rfl⟩:=h;obtain⟨t,h1,h2⟩:=hr;exact⟨t,h1,h2.er⟩
 |n=>simp[Wk.val]at h;obtain⟨_,rfl⟩:=h;cases hr;exact⟨_,rfl,.nil⟩
 |d=>simp[Wk.val]at h
 |o id q=>
  have c_:=ho id (by simp[cT])
  obtain⟨p,hp,rfl⟩:=hr
  simp only[Wk.val]at h
  split at h
  ·rename_i y hk
   simp only[hk,cb]at c_
   obtain⟨t,ht,aW⟩:=c_
   simp only[aH]at h
   have e1:=congrArg Prod.fst h
   have e2:=congrArg Prod.snd h
   simp only at e1 e2
   subst e1 e2
   have hl:∃ys,t=.l ys:=by cases aW<;>exact⟨_,rfl⟩
   obtain⟨u,hu,hxu,gx⟩:=Wk.fL q k y hd ht (zR hp) (.inr hl)
   refine⟨u,hxu,?_⟩
   have zY:∃ys,u=.l ys:=by
    rcases gx with rfl|h'
    ·simp only[lu]at hp;cases hp;simp[gf]at hu;subst hu;exact hl
    ·exact h'
   have:=(dx.nC p aW hu zY).den
   simpa using this
  ·rename_i y hk
   split at h
   ·simp at h
    obtain⟨_,rfl⟩:=h
    simp only[hk,cb]at c_
    obtain⟨t,ht,aW⟩:=c_
    simp only[lu]at hp;cases hp
    exact⟨t,ht,aW.den⟩
   ·cases h
  ·rename_i y hk
   split at h
   ·simp at h
    obtain⟨_,rfl⟩:=h
    simp only[hk,cb]at c_
    obtain⟨t,ht,aW,_⟩:=c_
    simp only[lu]at hp;cases hp
    exact⟨t,ht,aW.er⟩
   ·cases h
  ·rename_i y hk
   split at h
   ·simp at h
    obtain⟨_,rfl⟩:=h
    simp only[hk,cb]at c_
    obtain⟨_,t,ht,aW⟩:=c_
    simp only[lu]at hp;cases hp
    exact⟨t,ht,aW.den⟩
   ·cases h
  ·cases h
end
section
variable {M:Nat->Prop} {B:dE} {d:Nat} {up:Nat->Nat->Value} {s:St} {ρ:List T} {G:Gh} {a:Act} {w:World}
theorem Rel.forget(h:Rel M B d up s ρ G a w){s':St}(hs:∀r,s'.get r=s.get r∨s'.get r=.un):Rel M B d up s' ρ G a w:=by
 refine⟨λe n he=>?_,λb=>?_,λi=>?_,λr i hi=>?_,λi hi=>?_,h.fE,h.dn,h.base,h.bt⟩
 ·rcases hs (.t e n)with hr|hr
  ·rw[hr];exact h.tm e n he
  ·rw[hr];trivial
 ·rcases hs (.x b)with hr|hr
  ·rw[hr];exact h.bx b
  ·rw[hr];trivial
 ·rcases hs (.o i)with hr|hr
  ·rw[hr];exact h.ob i
  ·rw[hr];trivial
 ·rcases hs r with hr|hr
  ·rw[hr]at hi;exact h.eY r i hi
  ·rw[hr]at hi;simp[cD]at hi
 ·refine h.key i ?_
  rcases hi with hi|hi
  ·rcases hs (.x i)with hr|hr
   ·exact .inl (hr▸hi)
   ·exact absurd hr hi
  ·rcases hs (.o i)with hr|hr
   ·exact .inr (hr▸hi)
   ·exact absurd hr hi
theorem Rel.congr(h:Rel M B d up s ρ G a w){s':St}(hs:∀r,s'.get r=s.get r):Rel M B d up s' ρ G a w:=h.forget λr=>.inl (hs r)
def Gh.free(G:Gh)(id:Nat)(all:Bool):Gh:=
 {G with ω:=λb=>match G.ω b with
   |some (.o i p)=>if i=id∧(all=true∨p≠[])then none else some (.o i p)
   |l=>l}
theorem Gh.fM{G:Gh}{id b:Nat}{all:Bool}(h:G.ω b=none):(G.free id all).ω b=none:=by simp[Gh.free,h]
theorem Gh.oz{G:Gh}{id b i:Nat}{p:List (Nat×Nat)}{all:Bool}(h:G.ω b=some (.o i p))(hi:i=id)(ha:all=true∨p≠[]):(G.free id all).ω b=none:=by
 simp only[Gh.free,h]
 rw[if_pos ⟨hi,ha⟩]
theorem Gh.oA{G:Gh}{id b:Nat}{all:Bool}(h:G.q b=none):(G.free id all).q b=none:=by
 refine B' h Gh.fM λl hl hq=>?_
 cases l with
 |o i p=>
  simp only[Gh.free,hl]
  split
  ·exact .inl rfl
  ·exact .inr ⟨_,rfl,hq⟩
 |_=>simp[qt]at hq
theorem Gh.ek(G:Gh)(id:Nat)(all:Bool)(w:World):cJ (λl=>∃p,l=.o id p) (λ_=>False) G w (G.free id all) w:=by
 refine⟨Nat.le_refl _,λb _ hb=>⟨Gh.oA hb,rfl⟩,λb _ hb=>Gh.fM hb,λb l hb hl=>⟨?_,rfl⟩,λ_ _=>⟨rfl,λ_ _=>rfl⟩⟩
 cases l with
 |f=>simp[Gh.free,hb]
 |x i=>simp[Gh.free,hb]
 |o i p=>
  have:i≠id:=λe=>hl ⟨p,by rw[e]⟩
  simp[Gh.free,hb,this]
theorem dx.oB{id:Nat}{p:List (Nat×Nat)}{t:T}{dp:Bool}(h:dx G w id dp p t)(hp:p≠[])(eV:dp=true):dF (G.free id false).q w t (G.H id p):=by
 induction h with
 |nil h=>rw[h];exact .nil
 | @l dp p xs b wd cap aN elem fr cv h1 h2 h3 h4 h5 h6 h7 h8 h9 jI ru ih=>
  rw[h1]
  refine .l (cv:=cv) h6 h2.1 (uN (Gh.oz h3 rfl (.inr hp))) (Ca h4) (λi j t ht=>?_) λi j t ht=>?_
  ·rw[sq h4,Nat.zero_add];exact h7 i j t ht
  ·cases t with
   |c v=>obtain⟨hv,hs⟩:=h8 i j v ht;rw[hv];exact .c hs
   |l ys=>rw[jI i j ys ht eV];exact ih i j ys ht eV (by simp) rfl
theorem dx.tU{id:Nat}{p:List (Nat×Nat)}{t:T}{dp:Bool}(h:dx G w id dp p t):dF (G.free id true).q w t (G.H id p):=by
 induction h with
 |nil h=>rw[h];exact .nil
 | @l dp p xs b wd cap aN elem fr cv h1 h2 h3 h4 h5 h6 h7 h8 h9 jI ru ih=>
  rw[h1]
  refine .l (cv:=cv) h6 h2.1 (uN (Gh.oz h3 rfl (.inl rfl))) (Ca h4) (λi j t ht=>?_) λi j t ht=>?_
  ·rw[sq h4,Nat.zero_add];exact h7 i j t ht
  ·cases t with
   |c v=>obtain⟨hv,hs⟩:=h8 i j v ht;rw[hv];exact .c hs
   |l ys=>
    cases hd:dp with
    |false=>exact(h9 i j ys ht hd).aF (Nat.le_refl _) λb _ hb=>⟨Gh.oA hb,rfl⟩
    |true=>rw[jI i j ys ht hd];exact ih i j ys ht hd
theorem Rel.lj(h:Rel M B d up s ρ G a w){id:Nat}{dp:Bool}{x:Lf}(hx:s.get (.o id)=.ob dp x):
  Rel M B d up (s.set (.o id) (.fz .z x)) ρ (G.free id true) a w:=by
 have k:=G.ek id true w
 have hg:∀r,r≠.o id->(s.set (.o id) (.fz .z x)).get r=s.get r:=λr hr=>St.dl _ _ (Ne.symm hr)
 refine⟨λe n he=>?_,λb=>?_,λi=>?_,λr i hi=>?_,λi hi=>?_,λb l hb=>?_,h.dn,?_,h.bt⟩
 ·rw[hg _ (by simp)];exact(h.tm e n he).aF k λ_ _ hn=>hn
 ·rw[hg _ (by simp)]
  exact(h.bx b).aF k (λ⟨p,hp⟩=>by cases hp) (λhn=>hn) λ_ _ hn=>hn
 ·by_cases hi:i=id
  ·subst hi
   rw[St.bm]
   obtain⟨t,ht,ho⟩:=(by simpa only[hx]using h.ob i:cb G w ρ i (.ob dp x))
   exact⟨t,ht,ho.tU,trivial⟩
  ·rw[hg _ (by simpa using hi)];exact(h.ob i).aF k (λp ⟨q,hq⟩=>hi (by cases hq;rfl)) (λhn=>hn) λ_ _ hn=>hn
 ·by_cases hr:r=.o id
  ·subst hr;rw[St.bm]at hi;simp[cD]at hi
  ·rw[hg r hr]at hi;exact h.eY r i hi
 ·refine h.key i ?_
  rcases hi with hi|hi
  ·exact .inl (by rwa[hg _ (by simp)]at hi)
  ·by_cases qe:i=id
   ·subst qe;exact .inr (by rw[hx];simp)
   ·exact .inr (by rwa[hg _ (by simpa using qe)]at hi)
 ·refine h.fE b l ?_
  simp only[Gh.free]at hb
  split at hb
  ·split at hb
   ·cases hb
   ·rename_i hw _;rw[hw];exact hb
  ·exact hb
 ·refine⟨h.base.os,h.base.tape,h.base.output,h.base.size,λb hb h0=>?_,λb hb=>?_,h.base.gl⟩
  ·obtain⟨h1,h2⟩:=h.base.free b hb h0
   exact⟨Gh.fM h1,h2⟩
  ·obtain⟨h1,h2⟩:=h.base.yz b hb
   exact⟨by simp[Gh.free,h1],h2⟩
theorem Rel.flat(h:Rel M B d up s ρ G a w){id:Nat}{dp:Bool}{x:Lf}(hx:s.get (.o id)=.ob dp x):
  Rel M B d up (s.set (.o id) (.ob false x)) ρ (G.free id false) a w:=by
 have k:=G.ek id false w
 have hg:∀r,r≠.o id->(s.set (.o id) (.ob false x)).get r=s.get r:=λr hr=>St.dl _ _ (Ne.symm hr)
 refine⟨λe n he=>?_,λb=>?_,λi=>?_,λr i hi=>?_,λi hi=>?_,λb l hb=>?_,h.dn,?_,h.bt⟩
 ·rw[hg _ (by simp)];exact(h.tm e n he).aF k λ_ _ hn=>hn
 ·rw[hg _ (by simp)]
  exact(h.bx b).aF k (λ⟨p,hp⟩=>by cases hp) (λhn=>hn) λ_ _ hn=>hn
 ·by_cases hi:i=id
  ·subst hi
   rw[St.bm]
   obtain⟨t,ht,ho⟩:=(by simpa only[hx]using h.ob i:cb G w ρ i (.ob dp x))
   refine⟨t,ht,?_⟩
   cases ho with
   |nil h=>exact .nil h
   | @l _ _ xs b wd cap aN elem fr cv h1 h2 h3 h4 h5 h6 h7 h8 h9 jI ru=>
    refine .l (cv:=cv) h1 h2 (by simp[Gh.free,h3]) h4 h5 h6 h7 h8 (λp j ys hy _=>?_) (λ_ _ _ _ hf=>by cases hf) (λ_ _ _ _ hf=>by cases hf)
    cases hd:dp with
    |false=>exact(h9 p j ys hy hd).aF (Nat.le_refl _) λb _ hb=>⟨Gh.oA hb,rfl⟩
    |true=>rw[jI p j ys hy hd];exact(ru p j ys hy hd).oB (by simp) rfl
  ·rw[hg _ (by simpa using hi)];exact(h.ob i).aF k (λp ⟨q,hq⟩=>hi (by cases hq;rfl)) (λhn=>hn) λ_ _ hn=>hn
 ·by_cases hr:r=.o id
  ·subst hr;rw[St.bm]at hi;simp[cD]at hi
  ·rw[hg r hr]at hi;exact h.eY r i hi
 ·refine h.key i ?_
  rcases hi with hi|hi
  ·exact .inl (by rwa[hg _ (by simp)]at hi)
  ·by_cases qe:i=id
   ·subst qe;exact .inr (by rw[hx];simp)
   ·exact .inr (by rwa[hg _ (by simpa using qe)]at hi)
 ·refine h.fE b l ?_
  simp only[Gh.free]at hb
  split at hb
  ·split at hb
   ·cases hb
   ·rename_i hw _;rw[hw];exact hb
  ·exact hb
 ·refine⟨h.base.os,h.base.tape,h.base.output,h.base.size,λb hb h0=>?_,λb hb=>?_,h.base.gl⟩
  ·obtain⟨h1,h2⟩:=h.base.free b hb h0
   exact⟨Gh.fM h1,h2⟩
  ·obtain⟨h1,h2⟩:=h.base.yz b hb
   exact⟨by simp[Gh.free,h1],h2⟩
end
def sQ:List Ce->List Value->Bool
 | [],[]=>true
 | .p (.k (.int k n))::cs,.int k' n'::vs=>decide (k=k')&&decide (n=n')&&sQ cs vs
 | .p (.k (.bool b))::cs,.bool b'::vs=>decide (b=b')&&sQ cs vs
 | .p (.k (.string x))::cs,.string x'::vs=>decide (x=x')&&sQ cs vs
 | .n::cs,.slice none 0 0::vs=>sQ cs vs
 |_,_=>false
def He(P:Program):List (Nat×Nat)->List Field->Bool
 | [],[]=>true
 |o::os,f::fs=>Nat.beq f.offset o.1&&(match P.info? f.type with|some i=>!Nat.beq i.size 0&&Nat.beq i.size o.2|none=>false)&&He P os fs
 |_,_=>false
def qg(P:Program):Nat->List Ce->List Field->Bool
 |_,[],[]=>true
 |i,z::zs,f::fs=>Nat.beq f.offset i&&decide (f.name≠"_")&&(match P.underlying f.type with|some (.int _)=>Nat.beq (lk z) 1|some .bool=>Nat.beq (lk z) 4|some .string=>Nat.beq (lk z) 2|_=>false)&&qg P (i+1) zs fs
 |_,_,_=>false
def SD(P:Program)(t:Nat)(ti:TI):Bool:=
 match P.info? t,P.underlying t with
 |some i,some u=>
  Nat.beq i.size ti.sz&&Nat.beq i.bytes ti.bytes&&(match i.zero with|some z=>sQ ti.zero z.cells.toList|none=>false)&&Nat.beq ti.zero.length ti.sz&&
  (match u with
   | .struct fs=>ti.ag&&(Nat.beq ti.kd 0||(Nat.beq ti.kd 5&&Nat.beq fs.size ti.sz&& !P.stoodInHeld t&& !P.eqGuardType P.depth t&&qg P 0 ti.zero fs.toList))&&He P ti.fs fs.toList
   | .array ..=>false
   | .slice e=>!ti.ag&&Nat.beq ti.sz 1&&Nat.beq ti.kd 3&&Nat.beq e ti.el&&ti.fs.isEmpty
   | .int kk=>!ti.ag&&Nat.beq ti.sz 1&&Nat.beq ti.kd 1&&(match ti.zero with| [.p (.k (.int k' _))]=>decide (kk=k')|_=>false)&&ti.fs.isEmpty
   | .string=>!ti.ag&&Nat.beq ti.sz 1&&Nat.beq ti.kd 2&&ti.fs.isEmpty
   | .bool=>!ti.ag&&Nat.beq ti.sz 1&&Nat.beq ti.kd 4&&ti.fs.isEmpty
   |_=>!ti.ag&&Nat.beq ti.sz 1&&Nat.beq ti.kd 0&&ti.fs.isEmpty)
 |_,_=>false
def wM:List Ce->List Value->Prop
 | [],[]=>True
 | .p (.k v)::cs,v'::vs=>v=v'∧iY v=true∧wM cs vs
 | .n::cs,v::vs=>v=.slice none 0 0∧wM cs vs
 |_,_=>False
theorem SE:∀{cs:List Ce} {vs:List Value},sQ cs vs=true->wM cs vs:=by
 intro cs
 induction cs with
 |nil=>intro vs h;cases vs<;>simp_all[sQ,wM]
 |cons c cs ih=>
  intro vs h
  cases vs with
  |nil=>cases c<;>simp_all[sQ]
  |cons v vs=>
   cases c with
   |p x=>
    cases x with
    |k u=>
     cases u<;>cases v<;>simp_all[sQ,wM,iY]
    |a n=>simp[sQ]at h
    |e=>simp[sQ]at h
   |o id q=>simp[sQ]at h
   |n=>
    cases v with
    |slice a l c=>
     unfold sQ at h
     split at h<;>simp_all[wM]
    |_=>simp[sQ]at h
   |d=>simp[sQ]at h
structure rv (P:Program) (t:Nat) (ti:TI):Prop where
 info:∃i z,P.info? t=some i∧i.size=ti.sz∧i.bytes=ti.bytes∧i.zero=some z∧wM ti.zero z.cells.toList
 wO:ti.zero.length=ti.sz
 one:ti.ag=false->ti.sz=1
 ag:∃u,P.underlying t=some u∧(ti.ag=true↔∃fs,u=.struct fs)∧(∀n e,u≠.array n e)
 sl:ti.kd=3->P.underlying t=some (.slice ti.el)
 it:ti.kd=1->∃k,P.underlying t=some (.int k)
 st:ti.kd=2->P.underlying t=some .string
 ik:ti.kd=1->∀k n,ti.zero=[.p (.k (.int k n))]->P.underlying t=some (.int k)
 bo:ti.kd=4->P.underlying t=some .bool
 ni:ti.kd≠1->∀k,P.underlying t≠some (.int k)
 fs:∀(f:Nat) (o:Nat×Nat),ti.fs[f]?=some o->∃(fs:Array Field) (vM:Field) (i:TypeInfo),P.underlying t=some (.struct fs)∧fs[f]?=some vM∧vM.offset=o.1∧P.info? vM.type=some i∧i.size≠0∧i.size=o.2
 fl:∀fs,P.underlying t=some (.struct fs)->fs.size=ti.fs.length
 eq:ti.kd=5->∃fs:Array Field,P.underlying t=some (.struct fs)∧fs.size=ti.sz∧P.stoodInHeld t=false∧P.eqGuardType P.depth t=false∧qg P 0 ti.zero fs.toList=true
theorem Dx{P:Program}:∀{os:List (Nat×Nat)} {fs:List Field},He P os fs=true->fs.length=os.length∧∀(f:Nat) (o:Nat×Nat),os[f]?=some o->
  ∃(vM:Field) (i:TypeInfo),fs[f]?=some vM∧vM.offset=o.1∧P.info? vM.type=some i∧i.size≠0∧i.size=o.2
 | [],[],_=>⟨rfl,λf o h=>by simp at h⟩
 | [],_::_,h=>by simp[He]at h
 |o::os,[],h=>by simp[He]at h
 |o::os,fl::fs,h=>by
  simp only[He,bd]at h
  obtain⟨⟨h1,h2⟩,h3⟩:=h
  obtain⟨hl,hr⟩:=Dx h3
  refine⟨by simp[hl],λf o' hf=>?_⟩
  cases f with
  |zero=>
   simp at hf
   subst hf
   cases hi:P.info? fl.type with
   |none=>simp[hi]at h2
   |some i=>
    simp only[hi,bd]at h2
    exact⟨fl,i,rfl,cO h1,hi,λe=>by simp[e]at h2,cO h2.2⟩
  |succ f=>exact hr f o' (by simpa using hf)
theorem SF{P:Program}{t:Nat}{ti:TI}(h:SD P t ti=true):rv P t ti:=by
 unfold SD at h
 split at h
 ·rename_i i u hi hu
  simp only[bd]at h
  obtain⟨⟨⟨⟨h1,h2⟩,h3⟩,h4⟩,h5⟩:=h
  have z:∃z,i.zero=some z∧wM ti.zero z.cells.toList:=by
   split at h3
   ·rename_i z hz;exact⟨z,hz,SE h3⟩
   ·cases h3
  obtain⟨z,hz,sR⟩:=z
  refine⟨⟨i,z,hi,cO h1,cO h2,hz,sR⟩,cO h4,?_,⟨u,hu,?_,?_⟩,?_,?_,?_,?_,?_,?_,?_,?_,?_⟩
  ·intro ha;split at h5<;>simp_all
  ·split at h5<;>simp_all
  ·intro n e cW;subst cW;simp at h5
  ·intro hk;rw[hu];split at h5<;>simp_all
  ·intro hk;rw[hu];split at h5<;>simp_all
  ·intro hk;rw[hu];split at h5<;>simp_all
  ·intro hk k n hz
   rw[hu]
   rw[hz,hk]at h5
   split at h5
   ·simp only[bd,Bool.or_eq_true]at h5
    obtain⟨⟨_,h6⟩,_⟩:=h5
    rcases h6 with h6|⟨⟨⟨⟨h6,_⟩,_⟩,_⟩,_⟩<;>exact absurd h6 (by decide)
   ·cases h5
   ·simp only[bd]at h5
    exact absurd h5.1.1.2 (by decide)
   ·simp only[bd,decide_eq_true_eq]at h5
    rw[h5.1.2]
   all_goals
    simp only[bd]at h5
    exact absurd h5.1.2 (by decide)
  ·intro hk;rw[hu];split at h5<;>simp_all
  ·intro hk k cW;rw[hu]at cW;cases cW;simp at h5;exact hk h5.1.1.2
  ·intro f o hf
   rw[hu]
   split at h5
   ·rename_i fs
    simp only[bd]at h5
    obtain⟨vM,i',h6,h7⟩:=(Dx h5.2).2 f o hf
    exact⟨fs,vM,i',rfl,by simpa using h6,h7⟩
   ·cases h5
   all_goals
    simp only[bd,List.isEmpty_iff]at h5
    rw[h5.2]at hf
    simp at hf
  ·intro fs yA
   rw[hu]at yA
   cases yA
   simp only[bd]at h5
   have:=(Dx h5.2).1
   simpa using this
  ·intro hk
   rw[hu]
   split at h5
   ·rename_i fs
    simp only[bd,Bool.or_eq_true,Bool.not_eq_true']at h5
    obtain⟨⟨_,h6⟩,_⟩:=h5
    rcases h6 with h6|⟨⟨⟨⟨_,h7⟩,h8⟩,h9⟩,jI⟩
    ·have:=cO h6;omega
    ·exact⟨fs,rfl,cO h7,h8,h9,jI⟩
   ·cases h5
   all_goals
    simp[hk]at h5
 ·cases h
section
variable {M:Nat->Prop} {B:dE} {d:Nat} {up:Nat->Nat->Value} {ρ:List T} {G:Gh} {a:Act} {w:World} {S:Nat->ai}
structure cG (M:Nat->Prop) (B:dE) (d:Nat) (up:Nat->Nat->Value) (ρ:List T) (G:Gh) (a:Act) (w:World) (k:Wk) (G1:Gh):Prop where
 rel:Rel M B d up (k.r.dV k.w) ρ G1 a w
 aF:cJ (mU k.w) (λ_=>False) G w G1 w
theorem Wk.aD(k:Wk)(r:aK):k.get r=(k.r.dV k.w).get r:=by
 rw[St.aD]
 unfold Wk.get
 cases k.w.look r<;>rfl
theorem Cb{W:St}{r:aK}{v:SV}{l:Lb}(h:mU W l):mU (W.set r v) l:=by
 cases l with
 |f=>exact h
 |x b=>
  show(W.set r v).look (.x b)≠none
  by_cases hr:r=.x b
  ·subst hr;rw[St.aJ];simp
  ·rw[St.bP _ _ hr];exact h
 |o i p=>
  show(W.set r v).look (.o i)≠none
  by_cases hr:r=.o i
  ·subst hr;rw[St.aJ];simp
  ·rw[St.bP _ _ hr];exact h
theorem Cc(s W:St)(r:aK)(v:SV)(r':aK):(s.dV (W.set r v)).get r'=((s.dV W).set r v).get r':=by
 rw[St.aD]
 by_cases h:r=r'
 ·subst h;rw[St.aJ,St.bm];rfl
 ·rw[St.bP _ _ h,St.dl _ _ h,St.aD]
theorem cG.start{s:St}(h:Rel M B d up s ρ G a w)(R:List aK)(ct:Ct):cG M B d up ρ G a w ⟨s.only R,[],ct,[]⟩ G:=by
 refine⟨h.forget λr=>?_,(cJ.refl G w).mono (λ_ h=>h.elim) λ_ h=>h⟩
 by_cases hr:r∈R
 ·exact .inl (St.wL s R hr)
 ·exact .inr (St.qc s R hr)
theorem cG.same{k k':Wk}{G1:Gh}(h:cG M B d up ρ G a w k G1)(hs:k.dL k'):cG M B d up ρ G a w k' G1:=by
 obtain⟨h1,h2,h3⟩:=hs
 exact⟨by rw[h1,h2];exact h.rel,by rw[h2];exact h.aF⟩
theorem cG.obj{k:Wk}{G1:Gh}(h:cG M B d up ρ G a w k G1)(id:Nat):cb G1 w ρ id (k.get (.o id)):=by
 rw[Wk.aD];exact h.rel.ob id
theorem cG.lj{k k':Wk}{G1:Gh}(h:cG M B d up ρ G a w k G1){id:Nat}(hk:k.lj id=some k'):
  ∃G2,cG M B d up ρ G a w k' G2∧G2.β=G1.β∧G2.H=G1.H∧k'.r=k.r∧k'.ct=k.ct∧k'.is=k.is:=by
 unfold Wk.lj at hk
 split at hk
 ·rename_i dp x hx
  cases hk
  rw[Wk.aD]at hx
  refine⟨_,⟨(h.rel.lj hx).congr (Cc _ _ _ _),(h.aF.mono (λl hl=>Cb hl) λ_ hn=>hn).trans ((G1.ek id true w).mono ?_ λ_ hn=>hn)⟩,rfl,rfl,rfl,rfl,rfl⟩
  rintro l ⟨p,rfl⟩
  show(k.w.set _ _).look (.o id)≠none
  rw[St.aJ];simp
 ·cases hk;exact⟨G1,h,rfl,rfl,rfl,rfl,rfl⟩
 ·cases hk
theorem cG.flat{k k':Wk}{G1:Gh}(h:cG M B d up ρ G a w k G1){id:Nat}(hk:k.flat id=some k'):
  ∃G2,cG M B d up ρ G a w k' G2∧G2.β=G1.β∧G2.H=G1.H∧k'.r=k.r∧k'.ct=k.ct∧k'.is=k.is:=by
 unfold Wk.flat at hk
 split at hk
 ·rename_i dp x hx
  cases hk
  rw[Wk.aD]at hx
  refine⟨_,⟨(h.rel.flat hx).congr (Cc _ _ _ _),(h.aF.mono (λl hl=>Cb hl) λ_ hn=>hn).trans ((G1.ek id false w).mono ?_ λ_ hn=>hn)⟩,rfl,rfl,rfl,rfl,rfl⟩
  rintro l ⟨p,rfl⟩
  show(k.w.set _ _).look (.o id)≠none
  rw[St.aJ];simp
 ·cases hk;exact⟨G1,h,rfl,rfl,rfl,rfl,rfl⟩
 ·cases hk
def bf(P:Program)(M:Nat->Prop)(B:dE)(d:Nat)(up:Nat->Nat->Value)(ρ:List T)(a:Act)(w:World)(s:St)(o:Oper)(W:St)(Q:Exit->Act->World->Prop):Prop:=
 o.wp P a w (λa' w'=>∃G',Rel M B d up (s.dV W) ρ G' a' w'∧a'.tmps.size=a.tmps.size) Q
theorem vN(a:Act)(dst:Option Nat)(v:Value):(a.put dst v).tmps.size=a.tmps.size:=by
 cases dst<;>simp[Act.put]
theorem SG{P:Program}{s:St}{k:Wk}{G1:Gh}(h:Rel M B d up s ρ G a w)(hk:cG M B d up ρ G a w k G1){o:Oper}{n:Nat}(ho:o.dst=some n)(hn:n<a.tmps.size)
  {v:Value}(hx:(execOp a.eval o).run P w=.ok (.value v) w){x:SV}(hv:ca G1 w ρ x v)(hm:∀i∈cD x,M i)(Q:Exit->Act->World->Prop):
  bf P M B d up ρ a w s o (k.w.set (.t d n) x) Q:=by
 simp only[bf,Oper.wp,hx,Oper.upon,ho]
 refine⟨G1,h.glue (s':=k.r) (hk.aF.mono (λl hl=>Cb hl) λ_ hf=>hf) (λ_ hf=>hf.elim) (λ_ hm=>hm) ?_ ?_,vN _ _ _⟩
 ·intro m vO;cases vO;rw[St.aJ];simp
 ·exact(hk.rel.zW hn hv hm).congr (Cc _ _ _ _)
theorem SH{P:Program}{s:St}{k:Wk}{G1:Gh}(h:Rel M B d up s ρ G a w)(hk:cG M B d up ρ G a w k G1){o:Oper}(ho:o.dst=none)
  {v:Value}(hx:(execOp a.eval o).run P w=.ok (.value v) w)(Q:Exit->Act->World->Prop):
  bf P M B d up ρ a w s o k.w Q:=by
 simp only[bf,Oper.wp,hx,Oper.upon,ho]
 exact⟨G1,h.glue (s':=k.r) (dst:=none) (hk.aF.mono (λl hl=>hl) λ_ hf=>hf) (λ_ hf=>hf.elim) (λ_ hm=>hm) (λ_ hf=>by cases hf) hk.rel,rfl⟩
theorem SI{v:Value}:ca G w ρ (ww v) v:=by
 unfold ww
 split
 ·exact⟨_,rfl,rfl,λ_ h=>by cases h⟩
 ·rename_i cW
  cases hs:iY v with
  |false=>trivial
  |true=>
   refine⟨_,rfl,⟨.c v,by simp[Lf.eE,hs],.c hs⟩,λx h=>?_⟩
   subst h;simp[iY]at hs
theorem SJ{v:Value}:cD (ww v)=[]:=by
 unfold ww
 split
 ·rfl
 ·cases iY v<;>rfl
theorem yB{s:St}(h:Rel M B d up s ρ G a w)(x:Operand):ca G w ρ (bC d s.get x) (a.eval x)∧∀i∈cD (bC d s.get x),M i:=by
 cases x with
 |tmp t=>
  refine⟨?_,h.eY _⟩
  have:=h.tm d t (Nat.le_refl _)
  simpa[nE,Act.eval,bC]using this
 |const v=>exact⟨SI,λi hi=>by simp[bC,SJ]at hi⟩
 |global g=>exact⟨trivial,λi hi=>by simp[bC,cD]at hi⟩
 |func f=>exact⟨rfl,λi hi=>by simp[bC,cD]at hi⟩
theorem cG.f_{k:Wk}{G1:Gh}(h:cG M B d up ρ G a w k G1)(x:Operand):ca G1 w ρ (bC d k.get x) (a.eval x)∧∀i∈cD (bC d k.get x),M i:=by
 have e:bC d k.get x=bC d (k.r.dV k.w).get x:=by
  cases x with
  |tmp t=>exact Wk.aD _ _
  |_=>rfl
 rw[e];exact yB h.rel x
theorem Wk.eK{k k':Wk}{x:SV}{y:Lf}{G1:Gh}{v:Value}(hk:cG M B d up ρ G a w k G1)(h:k.one x=some (k',y))(hd:k'.aO S ρ)(hr:ca G1 w ρ x v):
  k.aO S ρ∧k.dL k'∧∃t,y.eE ρ=some t∧dF (er G1.ω) w t v:=by
 unfold Wk.one at h
 split at h
 ·obtain⟨e,he,hc,_⟩:=hr
  cases he
  exact⟨Wk.lc h hd,Wk.cX h,Wk.jW h hd hc λid _=>hk.obj id⟩
 ·cases h
theorem dF.scalar{ω:Nat->Option Lb}{v u:Value}(h:dF ω w (.c v) u):u=v∧iY v=true:=by
 cases h with
 |c h=>exact⟨rfl,h⟩
theorem dF.rows{ω:Nat->Option Lb}{xs:List (List T)}{u:Value}(h:dF ω w (.l xs) u):∃b c,u=.slice b xs.length c∧(xs≠[]->xs.length<=c):=by
 cases h with
 |nil=>exact⟨_,_,rfl,λh=>absurd rfl h⟩
 |l _ hc=>exact⟨_,_,rfl,λ_=>hc⟩
end
section
variable {M:Nat->Prop} {B:dE} {d:Nat} {up:Nat->Nat->Value} {ρ:List T} {G:Gh} {a:Act} {w:World} {S:Nat->ai} {P:Program}
def bn(d:Nat)(o:Oper)(k:Wk)(v:SV):Wk:=match o.dst with|some n=>k.set (.t d n) v|none=>k
theorem qh{s:St}{k:Wk}{G1:Gh}(h:Rel M B d up s ρ G a w)(hk:cG M B d up ρ G a w k G1){o:Oper}(hn:∀n,o.dst=some n->n<a.tmps.size)
  {v:Value}(hx:(execOp a.eval o).run P w=.ok (.value v) w){x:SV}(hv:ca G1 w ρ x v)(hm:∀i∈cD x,M i)(Q:Exit->Act->World->Prop):
  bf P M B d up ρ a w s o (bn d o k x).w Q:=by
 unfold bn
 cases ho:o.dst with
 |none=>exact SH h hk ho hx Q
 |some n=>exact SG h hk ho (hn n ho) hx hv hm Q
theorem Jd{G1:Gh}{y:Lf}{t:T}{v:Value}(hy:y.eE ρ=some t)(hd:dF G1.q w t v)(ha:∀x,v≠.agg x):ca G1 w ρ (.v false [.p y]) v:=
 ⟨_,rfl,⟨t,hy,hd⟩,ha⟩
theorem QQ{G1:Gh}{y:Lf}{v:Value}(hy:y.eE ρ=some (.c v))(hs:iY v=true):ca G1 w ρ (.v false [.p y]) v:=
 Jd hy (.c hs) λx hx=>by subst hx;simp[iY]at hs
theorem SK{op:BinOp}{t:TypeId}{x y:Operand}{u v r:Value}(h:fh op u v=some r):
  ((do eqGuard op t x y u v;binOp op t u v:Sem Value)).run P w=.ok r w∧iY r=true:=by
 cases u<;>cases v<;>simp only[fh]at h<;>try cases h
 ·rename_i k n k' m
  have hg:(eqGuard op t x y (.int k n) (.int k' m)).run P w=.ok () w:=by
   unfold eqGuard;split<;>rfl
  rw[Sem.run_bind,hg]
  cases op<;>simp only at h<;>(repeat' (split at h))<;>(try cases h)<;>
   simp_all[binOp,Op.intArith,Op.intDiv,Op.intCmp,Op.intBits,Op.shift,iY]<;>(intro ahq;omega)
 ·rename_i s t'
  have hg:(eqGuard op t x y (.string s) (.string t')).run P w=.ok () w:=by
   unfold eqGuard;split<;>rfl
  rw[Sem.run_bind,hg]
  cases op<;>simp only at h<;>(try cases h)
  ·split at h
   ·rename_i hs
    cases h
    refine⟨?_,rfl⟩
    have:¬((s.size+t'.size:Nat):Int)>IntKind.i64.max:=by
     have:IntKind.i64.max=9223372036854775807:=by rfl
     simp only[tQ]at hs
     omega
    simp only[Result.andThen_ok,binOp,Op.stringOp,if_neg this,Sem.run_pure]
   ·cases h
  ·exact⟨rfl,rfl⟩
  ·exact⟨rfl,rfl⟩
theorem SL{op:BinOp}{t:TypeId}{x y:Operand}{u v r:Value}(ht:P.underlying t=some .bool)(h:C6 op u v=some r):
  ((do eqGuard op t x y u v;binOp op t u v:Sem Value)).run P w=.ok r w∧iY r=true:=by
 cases u<;>cases v<;>simp only[C6]at h<;>try cases h
 rename_i p q
 have hg:(eqGuard op t x y (.bool p) (.bool q)).run P w=.ok () w:=by
  unfold eqGuard;split<;>rfl
 have he:(Op.equal t (.bool p) (.bool q)).run P w=.ok (p==q) w:=by
  have key:∀n,(Op.equalIn (n+1) t (.bool p) (.bool q)).run P w=.ok (p==q) w:=λn=>by
   simp only[Op.equalIn,Sem.run_bind,run_underlying ht,Result.andThen_ok,Sem.run_pure]
  exact key 9999
 rw[Sem.run_bind,hg]
 cases op<;>simp only at h<;>(try cases h)
 ·simp[binOp,he,iY]
 ·simp[binOp,he,iY]
theorem SM{op:UnOp}{u r:Value}(h:QM op u=some r):(Op.unary op u).run P w=.ok r w∧iY r=true:=by
 cases u<;>simp only[QM]at h<;>try cases h
 ·cases op<;>simp only at h<;>(try cases h)
  exact⟨rfl,rfl⟩
 ·cases op<;>simp only at h<;>(try cases h)
  exact⟨rfl,rfl⟩
theorem Je{k k1 k2:Wk}{G1:Gh}{c e:Ce}{x y:Lf}{u v:Value}{p:Prim}(hk:cG M B d up ρ G a w k G1)
  (h1:k.val c=some (k1,x))(h2:k1.val e=some (k2,y))(hd:(k2.em p [x,y]).1.aO S ρ)(hc:fb G1 w ρ c u)(he:fb G1 w ρ e v):
  k.aO S ρ∧cG M B d up ρ G a w (k2.em p [x,y]).1 G1∧(k2.em p [x,y]).1.ct.i=k.ct.i∧∃t t' r,dF (er G1.ω) w t u∧dF (er G1.ω) w t' v∧p.ev [t,t']=some r∧(k2.em p [x,y]).2.eE ρ=some r:=by
 obtain⟨n4,r,hr,me⟩:=Wk.be hd
 have Cd:=hk.same (Wk.cX h1)
 have dG:=Cd.same (Wk.cX h2)
 have gy:=Wk.lc h2 n4
 obtain⟨t,ht,lz⟩:=Wk.jW h1 gy hc λid _=>hk.obj id
 obtain⟨t',iN,lG⟩:=Wk.jW h2 n4 he λid _=>Cd.obj id
 refine⟨Wk.lc h1 gy,dG.same (Wk.aT _ _ _),?_,t,t',r,lz,lG,?_,me⟩
 ·rw[(Wk.aT k2 p [x,y]).i,(Wk.cX h2).i,(Wk.cX h1).i]
 ·simpa[Lf.a_ ht,Lf.a_ iN]using hr
structure dg (P:Program) (cx:Cx):Prop where
 ty:∀t ti,cx.ty t=some ti->rv P t ti
variable {cx:Cx} {bY dS oi:Nat} {s:St} {R:List aK} {ct:Ct} {k':Wk} {o:Oper} {Q:Exit->Act->World->Prop}
theorem Jf(h:Rel M B d up s ρ G a w)(hn:∀n,o.dst=some n->n<a.tmps.size){x:Operand}(ho:o.op=.move x∨o.op=.assign x)
  (hk:gv cx bY dS d o oi ⟨s.only R,[],ct,[]⟩=some k'):bf P M B d up ρ a w s o k'.w Q∧k'.ct.i=ct.i:=by
 have hw:=cG.start h R ct
 have hx:(execOp a.eval o).run P w=.ok (.value (a.eval x)) w:=by
  unfold execOp;rcases ho with ho|ho<;>rw[ho]<;>rfl
 have dG:some (bn d o ⟨s.only R,[],ct,[]⟩ (bC d (Wk.get ⟨s.only R,[],ct,[]⟩) x))=some k':=by
  rw[<-hk];unfold gv bn;rcases ho with ho|ho<;>rw[ho]<;>rfl
 cases dG
 obtain⟨h1,h2⟩:=hw.f_ x
 refine⟨qh h hw hn hx h1 h2 Q,?_⟩
 unfold bn;cases o.dst<;>rfl
theorem bZ{k:Wk}{v:SV}:(bn d o k v).aO S ρ↔k.aO S ρ:=by
 unfold bn;cases o.dst<;>rfl
theorem lH{k:Wk}{v:SV}:(bn d o k v).ct=k.ct:=by
 unfold bn;cases o.dst<;>rfl
theorem SN(cQ:dg P cx)(h:Rel M B d up s ρ G a w)(hn:∀n,o.dst=some n->n<a.tmps.size){op:BinOp}{t yt:TypeId}{x y:Operand}(ho:o.op=.binOp op t x y yt)
  {c e:Ce}(uP:bC d (Wk.get ⟨s.only R,[],ct,[]⟩) x=.v false [c])(zZ:bC d (Wk.get ⟨s.only R,[],ct,[]⟩) y=.v false [e])
  (hk:gv cx bY dS d o oi ⟨s.only R,[],ct,[]⟩=some k')(hd:k'.aO S ρ):bf P M B d up ρ a w s o k'.w Q∧k'.ct.i=ct.i:=by
 have hw:=cG.start h R ct
 simp only[gv,ho,uP,zZ,bU]at hk
 obtain⟨ti,eh,⟨k1,x1⟩,h1,⟨k2,y1⟩,h2,hk⟩:=hk
 have tV:=(hw.f_ x).1
 have Dy:=(hw.f_ y).1
 rw[uP]at tV
 rw[zZ]at Dy
 obtain⟨_,vP,hc,_⟩:=tV
 obtain⟨_,SO,he,_⟩:=Dy
 cases vP
 cases SO
 simp only at hk
 have hT:=cQ.ty _ _ eh
 have fin:∀(p:Prim) (r:Value),(bn d o (k2.em p [x1,y1]).1 (.v false [.p (k2.em p [x1,y1]).2]))=k'->(execOp a.eval o).run P w=.ok (.value r) w->iY r=true->
   (k2.em p [x1,y1]).2.eE ρ=some (.c r)->cG M B d up ρ G a w (k2.em p [x1,y1]).1 G->(k2.em p [x1,y1]).1.ct.i=ct.i->bf P M B d up ρ a w s o k'.w Q∧k'.ct.i=ct.i:=by
  intro p r hp hr hs hv pJ hi
  subst hp
  refine⟨qh h pJ hn hr (QQ hv hs) (λi hi=>by simp[cD,cT]at hi) Q,?_⟩
  rw[lH];exact hi
 have hex:∀r,((do eqGuard op t x y (a.eval x) (a.eval y);binOp op t (a.eval x) (a.eval y):Sem Value)).run P w=.ok r w->(execOp a.eval o).run P w=.ok (.value r) w:=by
  intro r hr
  unfold execOp
  rw[ho]
  show Sem.run P (do let v <-(do eqGuard op t x y (a.eval x) (a.eval y);binOp op t (a.eval x) (a.eval y):Sem Value);pure (Next.value v)) w=_
  rw[Sem.run_bind,hr];rfl
 cases h4:Nat.beq ti.kd 4 with
 |true=>
  simp only[h4,cond_true,aH]at hk
  have sS:(k2.em (.bb op) [x1,y1]).1.aO S ρ:=by
   have:(bn d o (k2.em (.bb op) [x1,y1]).1 (.v false [.p (k2.em (.bb op) [x1,y1]).2])).aO S ρ:=by rw[show bn d o _ _=k' from hk];exact hd
   exact bZ.1 this
  obtain⟨_,pJ,hi,t1,t2,r,gy,n4,hp,hv⟩:=Je hw h1 h2 sS hc he
  cases t1 with
  |l _=>simp[Prim.ev,T.val]at hp
  |c u=>
   cases t2 with
   |l _=>simp[Prim.ev,T.val]at hp
   |c v=>
    obtain⟨e1,_⟩:=gy.scalar
    obtain⟨e2,_⟩:=n4.scalar
    simp only[Prim.ev,T.val,Option.bind_some,bU,aH]at hp
    obtain⟨r',hb,rfl⟩:=hp
    obtain⟨hr,hs⟩:=SL (P:=P) (w:=w) (t:=t) (x:=x) (y:=y) (hT.bo (cO h4)) hb
    exact fin _ r' hk (hex r' (by rw[e1,e2];exact hr)) hs hv pJ hi
 |false=>
  simp only[h4,cond_false]at hk
  cases h5:(Nat.beq ti.kd 1||Nat.beq ti.kd 2)with
  |false=>simp[h5]at hk
  |true=>
   simp only[h5,cond_true,aH]at hk
   have sS:(k2.em (.bin op) [x1,y1]).1.aO S ρ:=by
    have:(bn d o (k2.em (.bin op) [x1,y1]).1 (.v false [.p (k2.em (.bin op) [x1,y1]).2])).aO S ρ:=by rw[show bn d o _ _=k' from hk];exact hd
    exact bZ.1 this
   obtain⟨_,pJ,hi,t1,t2,r,gy,n4,hp,hv⟩:=Je hw h1 h2 sS hc he
   cases t1 with
   |l _=>simp[Prim.ev,T.val]at hp
   |c u=>
    cases t2 with
    |l _=>simp[Prim.ev,T.val]at hp
    |c v=>
     obtain⟨e1,_⟩:=gy.scalar
     obtain⟨e2,_⟩:=n4.scalar
     simp only[Prim.ev,T.val,Option.bind_some,bU,aH]at hp
     obtain⟨r',hb,rfl⟩:=hp
     obtain⟨hr,hs⟩:=SK (P:=P) (w:=w) (t:=t) (x:=x) (y:=y) hb
     exact fin _ r' hk (hex r' (by rw[e1,e2];exact hr)) hs hv pJ hi
end
section
variable {M:Nat->Prop} {B:dE} {d:Nat} {up:Nat->Nat->Value} {ρ:List T} {G:Gh} {a:Act} {w:World} {S:Nat->ai} {P:Program}
variable {cx:Cx} {bY dS oi:Nat} {s:St} {R:List aK} {ct:Ct} {k':Wk} {o:Oper} {Q:Exit->Act->World->Prop}
theorem wP(h:Rel M B d up s ρ G a w)(hn:∀n,o.dst=some n->n<a.tmps.size){k k1:Wk}{G1:Gh}(hk:cG M B d up ρ G a w k G1){x:SV}{v:Value}{y:Lf}{p:Prim}
  (h1:k.one x=some (k1,y))(hr:ca G1 w ρ x v)(hd:(bn d o (k1.em p [y]).1 (.v false [.p (k1.em p [y]).2])).aO S ρ)
  (hx:∀t r,dF (er G1.ω) w t v->p.ev [t]=some r->∃u,r=.c u∧iY u=true∧(execOp a.eval o).run P w=.ok (.value u) w):
  bf P M B d up ρ a w s o (bn d o (k1.em p [y]).1 (.v false [.p (k1.em p [y]).2])).w Q∧(bn d o (k1.em p [y]).1 (.v false [.p (k1.em p [y]).2])).ct.i=k.ct.i:=by
 have sS:=bZ.1 hd
 obtain⟨gy,r,nF,hv⟩:=Wk.be sS
 obtain⟨_,hs,t,ht,lz⟩:=Wk.eK hk h1 gy hr
 obtain⟨u,rfl,SP,da⟩:=hx t r lz (by simpa[Lf.a_ ht]using nF)
 refine⟨qh h ((hk.same hs).same (Wk.aT _ _ _)) hn da (QQ hv SP) (λi hi=>by simp[cD,cT]at hi) Q,?_⟩
 rw[lH,(Wk.aT k1 p [y]).i,hs.i]
theorem Jg(h:Rel M B d up s ρ G a w)(hn:∀n,o.dst=some n->n<a.tmps.size){k k1 k2:Wk}{G1:Gh}(hk:cG M B d up ρ G a w k G1){x x':SV}{v v':Value}{y y':Lf}{p:Prim}
  (h1:k.one x=some (k1,y))(h2:k1.one x'=some (k2,y'))(hr:ca G1 w ρ x v)(ij:ca G1 w ρ x' v')(hd:(bn d o (k2.em p [y,y']).1 (.v false [.p (k2.em p [y,y']).2])).aO S ρ)
  (hx:∀t t' r,dF (er G1.ω) w t v->dF (er G1.ω) w t' v'->p.ev [t,t']=some r->∃u,r=.c u∧iY u=true∧(execOp a.eval o).run P w=.ok (.value u) w):
  bf P M B d up ρ a w s o (bn d o (k2.em p [y,y']).1 (.v false [.p (k2.em p [y,y']).2])).w Q∧(bn d o (k2.em p [y,y']).1 (.v false [.p (k2.em p [y,y']).2])).ct.i=k.ct.i:=by
 have sS:=bZ.1 hd
 obtain⟨n4,r,nF,hv⟩:=Wk.be sS
 have iZ:k.dL k1:=by
  unfold Wk.one at h1;split at h1
  ·exact Wk.cX h1
  ·cases h1
 obtain⟨gy,lm,t',iN,lG⟩:=Wk.eK (hk.same iZ) h2 n4 ij
 obtain⟨_,_,t,ht,lz⟩:=Wk.eK hk h1 gy hr
 obtain⟨u,rfl,SP,da⟩:=hx t t' r lz lG (by simpa[Lf.a_ ht,Lf.a_ iN]using nF)
 refine⟨qh h (((hk.same iZ).same lm).same (Wk.aT _ _ _)) hn da (QQ hv SP) (λi hi=>by simp[cD,cT]at hi) Q,?_⟩
 rw[lH,(Wk.aT k2 p [y,y']).i,lm.i,iZ.i]
theorem SQ(h:Rel M B d up s ρ G a w)(hn:∀n,o.dst=some n->n<a.tmps.size){op:UnOp}{t:TypeId}{x:Operand}(ho:o.op=.unOp op t x)
  (hk:gv cx bY dS d o oi ⟨s.only R,[],ct,[]⟩=some k')(hd:k'.aO S ρ):bf P M B d up ρ a w s o k'.w Q∧k'.ct.i=ct.i:=by
 have hw:=cG.start h R ct
 simp only[gv,ho,bU,aH]at hk
 obtain⟨⟨k1,y⟩,h1,hk⟩:=hk
 subst hk
 refine wP h hn hw h1 (hw.f_ x).1 hd λt r lz hr=>?_
 cases t with
 |l _=>simp[Prim.ev,T.val]at hr
 |c u=>
  obtain⟨e,_⟩:=lz.scalar
  simp only[Prim.ev,T.val,Option.bind_some,bU,aH]at hr
  obtain⟨r',hb,rfl⟩:=hr
  obtain⟨da,hs⟩:=SM (P:=P) (w:=w) hb
  refine⟨r',rfl,hs,?_⟩
  unfold execOp;rw[ho]
  show Sem.run P (do let v <-Op.unary op (a.eval x);pure (Next.value v)) w=_
  rw[e,Sem.run_bind,da];rfl
theorem SR(ns:List Int):∀s:ByteArray,ns.foldl (λr n=>r.push (UInt8.ofNat n.toNat)) s=⟨s.data++(ns.map λn=>UInt8.ofNat n.toNat).toArray⟩:=by
 induction ns with
 |nil=>intro s;simp
 |cons n ns ih=>intro s;rw[List.foldl_cons,ih];simp[ByteArray.push]
theorem SS(ns:List Int):ns.foldl (λr n=>r.push (UInt8.ofNat n.toNat)) ByteArray.empty=uA ns:=by
 rw[SR];unfold uA;congr 1;exact Array.empty_append
theorem Jh:∀{xs:List (List T)} {ns:List Int},B5 xs=some ns->ns.length=xs.length∧∀(j:Nat) (n:Int),ns[j]?=some n->xs[j]?=some [T.c (.int .u8 n)]
 | [],ns,h=>by
  simp only[B5,aH]at h
  subst h
  exact⟨rfl,λj n h=>by simp at h⟩
 |r::rs,ns,h=>by
  simp only[B5,bU,aH]at h
  obtain⟨n,h1,ns',h2,rfl⟩:=h
  obtain⟨g1,g2⟩:=Jh h2
  refine⟨by simp[g1],λj m hj=>?_⟩
  cases j with
  |zero=>
   simp only[List.getElem?_cons_zero,aH]at hj⊢
   subst hj
   unfold IY at h1
   split at h1
   ·cases h1;rfl
   ·cases h1
  |succ j=>simpa using g2 j m (by simpa using hj)
theorem SU{ω:Nat->Option Lb}{xs:List (List T)}{v:Value}{ns:List Int}(h:dF ω w (.l xs) v)(hb:B5 xs=some ns):(Conv.bytesToString v).run P w=.ok (.string (uA ns)) w:=by
 obtain⟨hlen,aS⟩:=Jh hb
 rw[<-SS]
 cases h with
 |nil=>
  have:ns=[]:=List.eq_nil_of_length_eq_zero hlen
  subst this
  rename_i a0 cap
  cases a0 with
  |none=>simp[Conv.bytesToString,Sem.run_pure]
  |some b=>exact run_bytesToString w b 0 cap [] (run_loadCells_list w b [] λj v hj=>by simp at hj)
 |l hw hc hn bI h1 h2=>
  rename_i b off wd cap cv
  refine run_bytesToString w _ _ _ ns ?_
  rw[<-hlen,<-List.length_map (f:=Value.int .u8)]
  refine run_loadCells_list w _ _ λj v hj=>?_
  rw[List.getElem?_map,Option.map_eq_some_iff]at hj
  obtain⟨n,hj,rfl⟩:=hj
  have hx:=aS j n hj
  have mf:wd=1:=by
   have:=hw _ (List.mem_of_getElem? hx)
   simpa using this.symm
  subst mf
  have h3:cP xs j 0=some (.c (.int .u8 n)):=by simp[cP,hx]
  have h5:=h1 j 0 _ h3
  rw[(h2 j 0 _ h3).scalar.1]at h5
  rw[Addr.add_lit,show off+j=off+(j*1+0) by omega]
  exact h5
theorem SW(cQ:dg P cx)(h:Rel M B d up s ρ G a w)(hn:∀n,o.dst=some n->n<a.tmps.size){t1 t2:TypeId}{x:Operand}(ho:o.op=.convert t1 t2 x)
  (hB:wz cx ⟨s.only R,[],ct,[]⟩ t1 t2 (bC d (Wk.get ⟨s.only R,[],ct,[]⟩) x)=none)(hk:gv cx bY dS d o oi ⟨s.only R,[],ct,[]⟩=some k')(hd:k'.aO S ρ):bf P M B d up ρ a w s o k'.w Q∧k'.ct.i=ct.i:=by
 have hw:=cG.start h R ct
 simp only[gv,ho,hB,bU]at hk
 obtain⟨si,Dz,ti,eh,⟨k1,y⟩,h1,hk⟩:=hk
 split at hk
 ·rename_i kk z hz
  cases hb:(Nat.beq ti.kd 1&&Nat.beq si.kd 1)with
  |false=>rw[hb]at hk;cases hk
  |true=>
   rw[hb]at hk
   simp only[cond_true,aH]at hk
   subst hk
   rw[bd]at hb
   have vQ:=(cQ.ty _ _ eh).ik (cO hb.1) kk z hz
   obtain⟨k0,Hf⟩:=(cQ.ty _ _ Dz).it (cO hb.2)
   refine wP h hn hw h1 (hw.f_ x).1 hd λt r lz hr=>?_
   cases t with
   |l _=>simp[Prim.ev]at hr
   |c u=>
    obtain⟨e,_⟩:=lz.scalar
    cases u<;>simp only[Prim.ev,aH]at hr<;>try cases hr
    rename_i k3 n lA
    refine⟨_,rfl,rfl,?_⟩
    unfold execOp;rw[ho]
    show Sem.run P (do let v <-convert t1 t2 (a.eval x);pure (Next.value v)) w=_
    rw[e,Sem.run_bind]
    have:(convert t1 t2 (.int k3 n)).run P w=.ok (.int kk (kk.wrap n)) w:=by
     unfold convert
     simp only[Sem.run_bind,run_underlying Hf,run_underlying vQ,Result.andThen_ok]
     rfl
    rw[this];rfl
 ·rename_i z hz
  cases hb:(Nat.beq ti.kd 2&&Nat.beq si.kd 3)with
  |false=>rw[hb]at hk;cases hk
  |true=>
   rw[hb]at hk
   simp only[cond_true,bU]at hk
   obtain⟨te,mK,hk⟩:=hk
   split at hk
   ·rename_i z2 qT
    cases mq:Nat.beq te.kd 1 with
    |false=>rw[mq]at hk;cases hk
    |true=>
     rw[mq]at hk
     simp only[cond_true,aH]at hk
     subst hk
     rw[bd]at hb
     have Hf:=(cQ.ty _ _ Dz).sl (cO hb.2)
     have vQ:=(cQ.ty _ _ eh).st (cO hb.1)
     have SX:=(cQ.ty _ _ mK).ik (cO mq) .u8 z2 qT
     refine wP h hn hw h1 (hw.f_ x).1 hd λt r lz hr=>?_
     cases t with
     |c u=>simp[Prim.ev]at hr
     |l xs=>
      simp only[Prim.ev,bU,aH]at hr
      obtain⟨ns,hns,rfl⟩:=hr
      refine⟨_,rfl,rfl,?_⟩
      unfold execOp;rw[ho]
      show Sem.run P (do let v <-convert t1 t2 (a.eval x);pure (Next.value v)) w=_
      rw[Sem.run_bind]
      obtain⟨b,c,e,_⟩:=lz.rows
      have:(convert t1 t2 (a.eval x)).run P w=.ok (.string (uA ns)) w:=by
       have h0:=SU (P:=P) lz hns
       rw[e]at h0⊢
       rw[run_convert_bytes_string w t1 t2 si.el b xs.length c Hf SX vQ]
       exact h0
      rw[this];rfl
   ·cases hk
 ·cases hk
theorem DA{x:Sem Value}{v:Value}(h:x.run P w=.ok v w):(do let v <-x;pure (Next.value v):Sem Next).run P w=.ok (.value v) w:=by
 rw[Sem.run_bind,h];rfl
theorem Hg{c:Call}{b:Builtin}(ho:o.op=.call c)(hc:c.callee=.builtin b){r:Result Next}
  (h:(builtin b c.argTypes o.type (c.args.map λ | .const _=>true|_=>false) (c.args.map a.eval)).run P w=r):(execOp a.eval o).run P w=r:=by
 unfold execOp
 rw[ho]
 show Sem.run P (do let d <-resolve a.eval c o.type;invoke d.target d.args) w=r
 simp only[resolve,hc]
 exact h
theorem SY(h:Rel M B d up s ρ G a w)(hn:∀n,o.dst=some n->n<a.tmps.size)(cQ:dg P cx){c:Call}{x:Operand}(ho:o.op=.call c)(hc:c.callee=.builtin .len)(dH:c.args.toList=[x])
  {ti:TI}(ht:(c.argTypes[0]?).bind cx.ty=some ti)(nL:ti.kd=3){k k1:Wk}{G1:Gh}{y:Lf}(hw:cG M B d up ρ G a w k G1)
  (h1:k.one (bC d k.get x)=some (k1,y))(hd:(bn d o (k1.em .len [y]).1 (.v false [.p (k1.em .len [y]).2])).aO S ρ):
  bf P M B d up ρ a w s o (bn d o (k1.em .len [y]).1 (.v false [.p (k1.em .len [y]).2])).w Q∧(bn d o (k1.em .len [y]).1 (.v false [.p (k1.em .len [y]).2])).ct.i=k.ct.i:=by
 refine wP h hn hw h1 (hw.f_ x).1 hd λt r lz hr=>?_
 have hA:c.args=#[x]:=Array.ext' dH
 cases yC:c.argTypes[0]? with
 |none=>simp[yC]at ht
 |some tt=>
  have hT:=cQ.ty tt ti (by simpa[yC]using ht)
  have hu:=hT.sl nL
  cases t with
  |l xs=>
   obtain⟨b,cap,e,_⟩:=lz.rows
   simp only[Prim.ev,aH]at hr
   subst hr
   refine⟨_,rfl,rfl,Hg ho hc ?_⟩
   rw[hA]
   refine DA ?_
   simp[e,Builtin.len_,yC,run_underlying hu,goInt]
  |c v=>simp[Prim.ev]at hr
theorem SZ(h:Rel M B d up s ρ G a w)(hn:∀n,o.dst=some n->n<a.tmps.size)(cQ:dg P cx){c:Call}{x:Operand}(ho:o.op=.call c)(hc:c.callee=.builtin .len)(dH:c.args.toList=[x])
  {ti:TI}(ht:(c.argTypes[0]?).bind cx.ty=some ti)(nL:ti.kd=2){k k1:Wk}{G1:Gh}{y:Lf}(hw:cG M B d up ρ G a w k G1)
  (h1:k.one (bC d k.get x)=some (k1,y))(hd:(bn d o (k1.em .lens [y]).1 (.v false [.p (k1.em .lens [y]).2])).aO S ρ):
  bf P M B d up ρ a w s o (bn d o (k1.em .lens [y]).1 (.v false [.p (k1.em .lens [y]).2])).w Q∧(bn d o (k1.em .lens [y]).1 (.v false [.p (k1.em .lens [y]).2])).ct.i=k.ct.i:=by
 refine wP h hn hw h1 (hw.f_ x).1 hd λt r lz hr=>?_
 have hA:c.args=#[x]:=Array.ext' dH
 cases yC:c.argTypes[0]? with
 |none=>simp[yC]at ht
 |some tt=>
  have hT:=cQ.ty tt ti (by simpa[yC]using ht)
  have hu:=hT.st nL
  cases t with
  |l xs=>simp[Prim.ev]at hr
  |c v=>
   obtain⟨e,hs⟩:=lz.scalar
   cases v with
   |string str=>
    simp only[Prim.ev,aH]at hr
    subst hr
    refine⟨_,rfl,rfl,Hg ho hc ?_⟩
    rw[hA]
    refine DA ?_
    simp[e,Builtin.len_,yC,run_underlying hu,goInt]
   |_=>simp[Prim.ev]at hr
theorem Ji(h:Rel M B d up s ρ G a w)(hn:∀n,o.dst=some n->n<a.tmps.size){c:Call}{x x':Operand}(ho:o.op=.call c)(dH:c.args.toList=[x,x'])
  {p:Prim}(hc:c.callee=.builtin .max∧p=.mx∨c.callee=.builtin .min∧p=.mn){k k1 k2:Wk}{G1:Gh}{y y':Lf}(hw:cG M B d up ρ G a w k G1)
  (h1:k.one (bC d k.get x)=some (k1,y))(h2:k1.one (bC d k.get x')=some (k2,y'))(hd:(bn d o (k2.em p [y,y']).1 (.v false [.p (k2.em p [y,y']).2])).aO S ρ):
  bf P M B d up ρ a w s o (bn d o (k2.em p [y,y']).1 (.v false [.p (k2.em p [y,y']).2])).w Q∧(bn d o (k2.em p [y,y']).1 (.v false [.p (k2.em p [y,y']).2])).ct.i=k.ct.i:=by
 refine Jg h hn hw h1 h2 (hw.f_ x).1 (hw.f_ x').1 hd λt t' r lz lG hr=>?_
 have hA:c.args=#[x,x']:=Array.ext' dH
 cases t with
 |l _=>rcases hc with⟨_,rfl⟩|⟨_,rfl⟩<;>simp[Prim.ev]at hr
 |c u=>
  cases t' with
  |l _=>rcases hc with⟨_,rfl⟩|⟨_,rfl⟩<;>cases u<;>simp[Prim.ev]at hr
  |c u'=>
   obtain⟨e,_⟩:=lz.scalar
   obtain⟨e',_⟩:=lG.scalar
   cases u<;>cases u'<;>rcases hc with⟨hc,rfl⟩|⟨hc,rfl⟩<;>simp only[Prim.ev,aH]at hr<;>try cases hr
   ·exact⟨_,rfl,rfl,Hg ho hc (by rw[hA];simp[builtin,Builtin.max_,Builtin.max2,e,e'])⟩
   ·exact⟨_,rfl,rfl,Hg ho hc (by rw[hA];simp[builtin,Builtin.min_,Builtin.min2,e,e'])⟩
theorem yD{x:Sem Value}{v:Value}(he:execOp a.eval o=(do let v <-x;pure (Next.value v)))(h:x.run P w=.ok v w):(execOp a.eval o).run P w=.ok (.value v) w:=by
 rw[he];exact DA h
theorem S0(h:Rel M B d up s ρ G a w)(hn:∀n,o.dst=some n->n<a.tmps.size){x x':Operand}{t:TypeId}(ho:o.op=.index t x x')(cQ:dg P cx){ti:TI}(ht:cx.ty t=some ti)(nL:ti.kd=2)
  {k k1 k2:Wk}{G1:Gh}{y y':Lf}(hw:cG M B d up ρ G a w k G1)
  (h1:k.one (bC d k.get x)=some (k1,y))(h2:k1.one (bC d k.get x')=some (k2,y'))(hd:(bn d o (k2.em .idx [y,y']).1 (.v false [.p (k2.em .idx [y,y']).2])).aO S ρ):
  bf P M B d up ρ a w s o (bn d o (k2.em .idx [y,y']).1 (.v false [.p (k2.em .idx [y,y']).2])).w Q∧(bn d o (k2.em .idx [y,y']).1 (.v false [.p (k2.em .idx [y,y']).2])).ct.i=k.ct.i:=by
 refine Jg h hn hw h1 h2 (hw.f_ x).1 (hw.f_ x').1 hd λt1 t2 r lz lG hr=>?_
 have hu:=(cQ.ty _ _ ht).st nL
 cases t1 with
 |l _=>cases t2<;>simp[Prim.ev]at hr
 |c u=>
  cases t2 with
  |l _=>cases u<;>simp[Prim.ev]at hr
  |c u'=>
   obtain⟨e,_⟩:=lz.scalar
   obtain⟨e',_⟩:=lG.scalar
   cases u with
   |string str=>
    cases u' with
    |int kk n=>
     simp only[Prim.ev]at hr
     split at hr
     ·rename_i h0
      split at hr
      ·rename_i bI
       simp only[aH]at hr
       subst hr
       refine⟨_,rfl,rfl,yD (x:=Instr.index t (a.eval x) (a.eval x')) (by unfold execOp;rw[ho]) ?_⟩
       have hg:str[n.toNat]?=some (str.get n.toNat bI):=by
        simp[getElem?_pos,bI];rfl
       simp[Instr.index,e,e',asIntOf,run_underlying hu,h0,hg]
      ·cases hr
     ·cases hr
    |_=>simp[Prim.ev]at hr
   |_=>cases u'<;>simp[Prim.ev]at hr
theorem S1(h:Rel M B d up s ρ G a w)(hn:∀n,o.dst=some n->n<a.tmps.size){x:Operand}(ho:o.op=.nilCheck x)
  (hk:gv cx bY dS d o oi ⟨s.only R,[],ct,[]⟩=some k'):bf P M B d up ρ a w s o k'.w Q∧k'.ct.i=ct.i:=by
 have hw:=cG.start h R ct
 obtain⟨hr,hm⟩:=hw.f_ x
 have key:∀(v:SV) (ad:Addr),bC d (Wk.get ⟨s.only R,[],ct,[]⟩) x=v->a.eval x=.pointer (some ad)->some (bn d o ⟨s.only R,[],ct,[]⟩ v)=some k'->bf P M B d up ρ a w s o k'.w Q∧k'.ct.i=ct.i:=by
  intro v ad hv he hk
  cases hk
  refine⟨qh h hw hn (v:=.pointer (some ad)) ?_ (by rw[<-he,<-hv];exact hr) (by rw[<-hv];exact hm) Q,by rw[lH]⟩
  unfold execOp
  rw[ho]
  show Sem.run P (match a.eval x with| .pointer none| .nilIface| .nilFunc=>runtimePanic .nilDeref| .func (.method name) first captured=>_|x=>pure (Next.value x)) w=_
  rw[he];rfl
 simp only[gv,ho]at hk
 split at hk
 ·rename_i bx off hv
  rw[hv]at hr
  exact key _ _ hv hr hk
 ·rename_i id q ix wd off hv
  rw[hv]at hr
  obtain⟨p,b,n,cap,i,_,_,_,_,he⟩:=hr
  exact key _ _ hv he hk
 ·rename_i s' ix wd off hv
  rw[hv]at hr
  obtain⟨xs,i,r,b,base,_,_,_,he,_⟩:=hr
  exact key _ _ hv he hk
 ·cases hk
theorem S2(h:Rel M B d up s ρ G a w)(hn:∀n,o.dst=some n->n<a.tmps.size){x:Operand}{i:Nat}(ho:o.op=.extract x i)
  (hk:gv cx bY dS d o oi ⟨s.only R,[],ct,[]⟩=some k'):bf P M B d up ρ a w s o k'.w Q∧k'.ct.i=ct.i:=by
 have hw:=cG.start h R ct
 obtain⟨hr,hm⟩:=hw.f_ x
 simp only[gv,ho]at hk
 split at hk
 ·rename_i vs hv
  rw[hv]at hr hm
  simp only[bU,aH]at hk
  obtain⟨u,hu,hk⟩:=hk
  have dG:bn d o ⟨s.only R,[],ct,[]⟩ (.v u.1 u.2)=k':=hk
  subst dG
  obtain⟨us,he,nM⟩:=hr
  have main:∀(vs:List (Bool×List Ce)) (us:List Value) (i:Nat) (u:Bool×List Ce),fo G w ρ vs us->vs[i]?=some u->
    ∃v,us[i]?=some v∧dW G w ρ u.1 u.2 v∧∀j∈cT u.2,j∈qb vs:=by
   intro vs
   induction vs with
   |nil=>intro us i u _ hi;simp at hi
   |cons y vs ih=>
    intro us i u hr hi
    cases us with
    |nil=>exact hr.elim
    |cons z us=>
     cases i with
     |zero=>simp at hi;subst hi;exact⟨z,rfl,hr.1,λj hj=>by simp[qb,hj]⟩
     |succ i=>
      obtain⟨v,h1,h2,h3⟩:=ih us i u hr.2 (by simpa using hi)
      exact⟨v,by simpa using h1,h2,λj hj=>by simp[qb,h3 j hj]⟩
  obtain⟨v,h1,h2,h3⟩:=main vs us i u nM hu
  refine⟨qh h hw hn (v:=v) (x:=.v u.1 u.2) (yD (x:=Instr.extract (a.eval x) i) (by unfold execOp;rw[ho]) ?_) h2 (λj hj=>hm j (h3 j hj)) Q,by rw[lH]⟩
  rw[he]
  simp[Instr.extract,h1]
 ·cases hk
theorem S3(cQ:dg P cx)(h:Rel M B d up s ρ G a w)(hn:∀n,o.dst=some n->n<a.tmps.size){x:Operand}{t f:Nat}(ho:o.op=.fieldAddr t x f)
  (hk:gv cx bY dS d o oi ⟨s.only R,[],ct,[]⟩=some k'):bf P M B d up ρ a w s o k'.w Q∧k'.ct.i=ct.i:=by
 have hw:=cG.start h R ct
 obtain⟨hr,hm⟩:=hw.f_ x
 simp only[gv,ho,bU,aH]at hk
 obtain⟨v,hv,hk⟩:=hk
 have dG:bn d o ⟨s.only R,[],ct,[]⟩ v=k':=hk
 subst dG
 have run:∀(ti:TI) (of:Nat×Nat) (b oo:Nat),cx.ty t=some ti->ti.fs[f]?=some of->a.eval x=.pointer (some ⟨b,oo,none⟩)->
   (execOp a.eval o).run P w=.ok (.value (.pointer (some ⟨b,oo+of.1,none⟩))) w:=by
  intro ti of b oo eh hf he
  obtain⟨fs,vM,i,h1,h2,h3,h4,h5,_⟩:=(cQ.ty _ _ eh).fs f of hf
  refine yD (x:=Instr.fieldAt t (a.eval x) f) (by unfold execOp;rw[ho]) ?_
  simp[Instr.fieldAt,run_underlying h1,h2,he,Instr.sureAddr,fieldPlace,sizeOf,typeInfo,h4,h5,h3,Addr.add_lit]
 unfold fieldAt at hv
 split at hv
 ·rename_i bx off dh
  rw[dh]at hr hm
  simp only[bU,aH]at hv
  obtain⟨ti,eh,of,hf,rfl⟩:=hv
  exact⟨qh h hw hn (x:=.pt bx (off+of.1)) (run ti of _ _ eh hf hr) rfl hm Q,by rw[lH]⟩
 ·rename_i id q ix wd off dh
  rw[dh]at hr hm
  simp only[bU,aH]at hv
  obtain⟨ti,eh,of,hf,rfl⟩:=hv
  obtain⟨p,b,n,cap,i,h1,h2,h3,h4,he⟩:=hr
  exact⟨qh h hw hn (x:=.ep id q ix wd (off+of.1)) (run ti of _ _ eh hf he) ⟨p,b,n,cap,i,h1,h2,h3,h4,by rw[Nat.add_assoc]⟩ hm Q,by rw[lH]⟩
 ·rename_i s' ix wd off dh
  rw[dh]at hr hm
  simp only[bU,aH]at hv
  obtain⟨ti,eh,of,hf,rfl⟩:=hv
  obtain⟨xs,i,r,b,base,h1,h2,h3,he,h5⟩:=hr
  exact⟨qh h hw hn (x:=.fp s' ix wd (off+of.1)) (run ti of _ _ eh hf he) ⟨xs,i,r,b,base,h1,h2,h3,by rw[Nat.add_assoc],h5⟩ hm Q,by rw[lH]⟩
 ·cases hv
theorem dF.one{ω:Nat->Option Lb}{t:T}{v:Value}(h:dF ω w t v):v.oneCell'=true:=by
 cases h with
 |c h=>cases v<;>simp_all[iY,Value.oneCell']
 |nil=>rfl
 |l=>rfl
theorem fb.one{e:Ce}{v:Value}(h:fb G w ρ e v):v.oneCell'=true:=by
 cases e with
 |p x=>obtain⟨t,_,h⟩:=h;exact h.one
 |o id q=>obtain⟨p,_,rfl⟩:=h;obtain⟨x,n,c,h⟩:=G.hs id p;rw[h];rfl
 |n=>cases h;rfl
 |d=>exact h
theorem S4{v:Value}(h:v.oneCell'=true):∀x,v≠.agg x:=λx e=>by subst e;cases h
theorem aE.length:∀{cs:List Ce} {vs:List Value},aE G w ρ cs vs->cs.length=vs.length
 | [],[],_=>rfl
 | [],_::_,h=>h.elim
 |_::_,[],h=>h.elim
 |_::cs,_::vs,h=>by simp[aE.length h.2]
theorem aE.drop:∀{cs:List Ce} {vs:List Value} (n:Nat),aE G w ρ cs vs->aE G w ρ (cs.drop n) (vs.drop n)
 |_,_,0,h=>h
 | [],[],n+1,_=>trivial
 | [],_::_,_,h=>h.elim
 |_::_,[],_,h=>h.elim
 |_::cs,_::vs,n+1,h=>aE.drop n h.2
theorem aE.take:∀{cs:List Ce} {vs:List Value} (n:Nat),aE G w ρ cs vs->aE G w ρ (cs.take n) (vs.take n)
 |_,_,0,h=>trivial
 | [],[],n+1,_=>trivial
 | [],_::_,_,h=>h.elim
 |_::_,[],_,h=>h.elim
 |_::cs,_::vs,n+1,h=>⟨h.1,aE.take n h.2⟩
theorem aE.one:∀{cs:List Ce} {vs:List Value},aE G w ρ cs vs->∀v∈vs,v.oneCell'=true
 | [],[],_,v,hv=>by cases hv
 | [],_::_,h,_,_=>h.elim
 |_::_,[],h,_,_=>h.elim
 |_::cs,_::vs,h,v,hv=>by
  cases hv with
  |head=>exact h.1.one
  |tail _ hv=>exact aE.one h.2 v hv
theorem DB(cs:List Ce)(n:Nat):∀i∈cT (cs.drop n),i∈cT cs:=by
 induction cs generalizing n with
 |nil=>intro i hi;simp at hi;exact hi
 |cons c cs ih=>
  intro i hi
  cases n with
  |zero=>exact hi
  |succ n=>rw[uO];exact List.mem_append_right _ (ih n i (by simpa using hi))
theorem DC(cs:List Ce)(n:Nat):∀i∈cT (cs.take n),i∈cT cs:=by
 induction cs generalizing n with
 |nil=>intro i hi;simp at hi;exact hi
 |cons c cs ih=>
  intro i hi
  cases n with
  |zero=>simp[cT]at hi
  |succ n=>
   rw[List.take_succ_cons,uO]at hi
   rw[uO]
   rcases List.mem_append.1 hi with hi|hi
   ·exact List.mem_append_left _ hi
   ·exact List.mem_append_right _ (ih n i hi)
theorem Jj{t:Nat}{ti:TI}(hT:rv P t ti){b off:Nat}{vs:List Value}(hl:vs.length=ti.sz)
  (hc:∀j v,vs[j]?=some v->w.cell? ⟨b,off+j,none⟩=some v):
  (Instr.loadAt t (.pointer (some ⟨b,off,none⟩))).run P w=.ok (if ti.ag then .agg vs.toArray else vs.getD 0 undef) w:=by
 obtain⟨i,z,hi,hs,_,_,_⟩:=hT.info
 obtain⟨u,hu,mL,ry⟩:=hT.ag
 have qi:(loadCells ⟨b,off,none⟩ vs.length).run P w=.ok vs.toArray w:=
  run_loadCells_list w _ vs λj v hj=>by rw[Addr.add_lit];exact hc j v hj
 cases hb:ti.ag with
 |true=>
  obtain⟨fs,rfl⟩:=mL.1 hb
  simp[Instr.loadAt,Instr.sureAddr,loadVar,isAgg,run_underlying hu,sizeOf,typeInfo,hi,hs,<-hl,qi]
 |false=>
  have h1:=hT.one hb
  obtain⟨v,rfl⟩:∃v,vs=[v]:=by
   cases vs with
   |nil=>simp at hl;omega
   |cons v vs=>cases vs with
    |nil=>exact⟨v,rfl⟩
    |cons _ _=>simp at hl;omega
  have Jk:=hc 0 v rfl
  have z5:(isAgg t).run P w=.ok false w:=by
   simp only[isAgg,Sem.run_bind,run_underlying hu,Result.andThen_ok]
   cases u with
   |struct fs=>have:=mL.2 ⟨fs,rfl⟩;rw[hb]at this;cases this
   |array n e=>exact absurd rfl (ry n e)
   |_=>rfl
  simp only[Nat.add_zero]at Jk
  simp[Instr.loadAt,Instr.sureAddr,loadVar,z5,Jk]
theorem Jl{ti:TI}{t:Nat}(hT:rv P t ti){G1:Gh}{cs:List Ce}{vs:List Value}(h:aE G1 w ρ cs vs)(hl:vs.length=ti.sz):
  ca G1 w ρ (.v ti.ag cs) (if ti.ag then .agg vs.toArray else vs.getD 0 undef):=by
 cases hb:ti.ag with
 |true=>exact⟨vs,rfl,h⟩
 |false=>
  have h1:=hT.one hb
  cases vs with
  |nil=>simp at hl;omega
  |cons v vs=>cases vs with
   |cons _ _=>simp at hl;omega
   |nil=>cases cs with
    |nil=>exact h.elim
    |cons c cs=>cases cs with
     |cons _ _=>exact h.2.elim
     |nil=>exact⟨c,rfl,h.1,S4 h.1.one⟩
theorem Jm{x ix:Lf}{xs:List (List T)}{i:Nat}(hx:x.eE ρ=some (.l xs))(hi:k_ ρ ix=some i):sE (x.ev ρ) (ix.ev ρ)=xs[i]?:=by
 obtain⟨k,hk⟩:=Hc hi
 rw[Lf.a_ hx,hk,Ja]
theorem Wk.oC:∀(n:Nat) (k:Wk) (sc:Bool) (x ix:Lf) (wd off:Nat),k.dL (k.row sc x ix wd off n).1
 |0,k,_,_,_,_,_=>.refl k
 |n+1,k,sc,x,ix,wd,off=>by
  simp only[Wk.row]
  exact(Wk.aT k _ _).trans (Wk.oC n _ sc x ix wd (off+1))
theorem Wk.qj:∀(n:Nat) (k:Wk) (sc:Bool) (x ix:Lf) (wd off:Nat),(k.row sc x ix wd off n).1.aO S ρ->k.aO S ρ
 |0,_,_,_,_,_,_,h=>h
 |n+1,k,sc,x,ix,wd,off,h=>by
  simp only[Wk.row]at h
  exact(Wk.be (Wk.qj n _ sc x ix wd (off+1) h)).1
theorem DD{x ix:Lf}{xs:List (List T)}{i wd off:Nat}{sc:Bool}{t:T}(hx:x.eE ρ=some (.l xs))(hi:k_ ρ ix=some i)
  (h:Prim.ev (bif sc then .de wd off else .cell wd off) [x.ev ρ,ix.ev ρ]=some t):
  ∃r,xs[i]?=some r∧r.length=wd∧r[off]?=some t∧(sc=true->cF t=true):=by
 cases sc with
 |false=>
  simp only[cond_false,Prim.ev,Jm hx hi]at h
  cases hr:xs[i]? with
  |none=>simp[hr]at h
  |some r=>
   simp only[hr,Option.bind_some]at h
   split at h
   ·rename_i hl;exact⟨r,rfl,hl,h,λhf=>by cases hf⟩
   ·cases h
 |true=>
  simp only[cond_true,Prim.ev,Jm hx hi]at h
  cases hr:xs[i]? with
  |none=>simp[hr]at h
  |some r=>
   simp only[hr,Option.bind_some]at h
   split at h
   ·rename_i hl
    cases ho:r[off]? with
    |none=>simp[ho]at h
    |some t'=>
     simp only[ho,Option.bind_some]at h
     split at h
     ·rename_i hs;cases h;exact⟨r,rfl,hl,ho,λ_=>hs⟩
     ·cases h
   ·cases h
theorem Wk.tW{G1:Gh}{x ix:Lf}{xs:List (List T)}{i wd:Nat}{sc:Bool}(hx:x.eE ρ=some (.l xs))(hi:k_ ρ ix=some i){b base:Nat}
  (fC:∀r,xs[i]?=some r->r.length=wd->∀j t,r[j]?=some t->(sc=true->cF t=true)->∃u,w.cell? ⟨b,base+j,none⟩=some u∧dF G1.q w t u):
  ∀(n:Nat) (k:Wk) (off:Nat),(k.row sc x ix wd off n).1.aO S ρ->
   ∃vs:List Value,vs.length=n∧(∀j v,vs[j]?=some v->w.cell? ⟨b,base+off+j,none⟩=some v)∧aE G1 w ρ (k.row sc x ix wd off n).2 vs∧cT (k.row sc x ix wd off n).2=[]
 |0,k,off,_=>⟨[],rfl,λj v hj=>by simp at hj,trivial,rfl⟩
 |n+1,k,off,hd=>by
  simp only[Wk.row]at hd⊢
  obtain⟨_,t,ht,hy⟩:=Wk.be (Wk.qj n _ sc x ix wd (off+1) hd)
  obtain⟨r,h1,h2,h3,h4⟩:=DD hx hi ht
  obtain⟨u,h5,h6⟩:=fC r h1 h2 off t h3 h4
  obtain⟨vs,g1,g2,g3,g4⟩:=Wk.tW hx hi fC n _ (off+1) hd
  refine⟨u::vs,by simp[g1],λj v hj=>?_,⟨⟨t,hy,h6⟩,g3⟩,by simp[cT,g4]⟩
  cases j with
  |zero=>simp at hj;subst hj;simpa using h5
  |succ j=>
   have:=g2 j v (by simpa using hj)
   rwa[show base+(off+1)+j=base+off+(j+1) by omega]at this
theorem Jn{ix:Lf}{wd off i:Nat}(hi:k_ ρ ix=some i):∀{q:ma} {p:List (Nat×Nat)},fm ρ q=some p->fm ρ (q++[(ix,wd,off)])=some (p++[(i,off)])
 | [],p,h=>by simp only[fm]at h;cases h;simp[fm,hi]
 |(z1,z2,z3)::q,p,h=>by
  simp only[fm]at h
  cases iZ:k_ ρ z1 with
  |none=>simp[iZ]at h
  |some i1=>
   cases lm:fm ρ q with
   |none=>simp[iZ,lm]at h
   |some p2=>
    simp[iZ,lm]at h
    subst h
    simp[fm,iZ,Jn hi lm]
theorem dx.row{G1:Gh}{id:Nat}{dp:Bool}{p:List (Nat×Nat)}{xs:List (List T)}{b n cap i wd:Nat}{r:List T}(h:dx G1 w id dp p (.l xs))
  (hH:G1.H id p=.slice (some ⟨b,0,none⟩) n cap)(hr:xs[i]?=some r)(hl:r.length=wd)(j:Nat)(t:T)(ht:r[j]?=some t):
  ∃v,w.cell? ⟨b,i*wd+j,none⟩=some v∧(∀u,t=.c u->v=u∧iY u=true)∧(∀ys,t=.l ys->dp=false->dF G1.q w t v)∧(∀ys,t=.l ys->dp=true->v=G1.H id (p++[(i,j)])):=by
 cases h with
 |nil h=>simp at hr
 | @l _ _ _ b' z6 qk aN elem fr cv g1 g2 g3 g4 g5 g6 g7 g8 g9 qU wQ=>
  rw[hH]at g1
  cases g1
  have hw:z6=wd:=by rw[<-hl,g6 r (List.mem_of_getElem? hr)]
  subst hw
  have aS:cP xs i j=some t:=by simp[cP,hr,ht]
  refine⟨cv i j,by rw[sq g4];exact g7 i j t aS,λu hu=>?_,λys hy hd=>?_,λys hy hd=>?_⟩
  ·subst hu;exact g8 i j u aS
  ·subst hy;exact g9 i j ys aS hd
  ·subst hy;exact qU i j ys aS hd
theorem DE{t:T}(h:cF t=true):∃v,t=.c v:=by
 cases t with
 |c v=>exact⟨v,rfl⟩
 |l _=>simp[cF]at h
theorem dF.row{ω:Nat->Option Lb}{xs:List (List T)}{b o n cap i wd:Nat}{r:List T}(h:dF ω w (.l xs) (.slice (some ⟨b,o,none⟩) n cap))
  (hr:xs[i]?=some r)(hl:r.length=wd):ω b=none∧b<w.heap.size∧∀(j:Nat) (t:T),r[j]?=some t->∃v,w.cell? ⟨b,o+i*wd+j,none⟩=some v∧dF ω w t v:=by
 generalize hv:Value.slice (some (⟨b,o,none⟩:Addr)) n cap=v at h
 cases h with
 |nil=>simp at hr
 | @l _ b' S5 z6 qk cv h1 h2 h3 h4 h5 h6=>
  cases hv
  have hw:z6=wd:=by rw[<-hl,h1 r (List.mem_of_getElem? hr)]
  subst hw
  refine⟨h3,h4,λj t ht=>?_⟩
  have aS:cP xs i j=some t:=by simp[cP,hr,ht]
  exact⟨cv i j,by rw[Nat.add_assoc];exact h5 i j t aS,h6 i j t aS⟩
theorem Wk.ld:∀(zs:List Ce) (k:Wk) (y ix:Lf) (id:Nat) (q:ma) (wd off:Nat),k.dL (k.nJ y ix id q wd off zs).1
 | [],k,_,_,_,_,_,_=>.refl k
 |z::zs,k,y,ix,id,q,wd,off=>by
  unfold Wk.nJ
  cases dU z with
  |true=>exact(Wk.aT k _ _).trans (Wk.ld zs _ y ix id q wd (off+1))
  |false=>exact(Wk.aT k _ _).trans (Wk.ld zs _ y ix id q wd (off+1))
theorem Wk.jX:∀(zs:List Ce) (k:Wk) (y ix:Lf) (id:Nat) (q:ma) (wd off:Nat),(k.nJ y ix id q wd off zs).1.aO S ρ->k.aO S ρ
 | [],_,_,_,_,_,_,_,h=>h
 |z::zs,k,y,ix,id,q,wd,off,h=>by
  unfold Wk.nJ at h
  cases hz:dU z with
  |true=>rw[hz]at h;exact(Wk.be (Wk.jX zs _ y ix id q wd (off+1) h)).1
  |false=>rw[hz]at h;exact(Wk.be (Wk.jX zs _ y ix id q wd (off+1) h)).1
theorem Wk.oD{G1:Gh}{y ix:Lf}{xs:List (List T)}{i wd id b base:Nat}{q:ma}{p:List (Nat×Nat)}(hx:y.eE ρ=some (.l xs))(hi:k_ ρ ix=some i)(hp:fm ρ q=some p)(sT:id%2=1)
  (fC:∀r,xs[i]?=some r->r.length=wd->∀j t,r[j]?=some t->∃u,w.cell? ⟨b,base+j,none⟩=some u∧(∀v,t=.c v->u=v∧iY v=true)∧∀ys,t=.l ys->u=G1.H id (p++[(i,j)])):
  ∀(zs:List Ce) (k:Wk) (off:Nat),(k.nJ y ix id q wd off zs).1.aO S ρ->
   ∃vs:List Value,vs.length=zs.length∧(∀j v,vs[j]?=some v->w.cell? ⟨b,base+off+j,none⟩=some v)∧aE G1 w ρ (k.nJ y ix id q wd off zs).2 vs∧∀j∈cT (k.nJ y ix id q wd off zs).2,j=id
 | [],k,off,_=>⟨[],rfl,λj v hj=>by simp at hj,trivial,λj hj=>by simp[Wk.nJ,cT]at hj⟩
 |z::zs,k,off,hd=>by
  unfold Wk.nJ at hd⊢
  cases hz:dU z with
  |true=>
   rw[hz]at hd
   simp only[cond_true]at hd⊢
   obtain⟨_,t,ht,_⟩:=Wk.be (Wk.jX zs _ _ _ _ _ _ (off+1) hd)
   obtain⟨ys,rfl,aS,r,h1,h2⟩:=zX hx hi ht
   have h3:r[off]?=some (.l ys):=by simpa[cP,h1]using aS
   obtain⟨u,h5,_,h6⟩:=fC r h1 h2 off _ h3
   obtain⟨vs,g1,g2,g3,g4⟩:=Wk.oD hx hi hp sT fC zs _ (off+1) hd
   refine⟨u::vs,by simp[g1],λj v hj=>?_,⟨⟨_,Sx (Jn hi hp) sT,h6 ys rfl⟩,g3⟩,λj hj=>?_⟩
   ·cases j with
    |zero=>simp at hj;subst hj;simpa using h5
    |succ j=>
     have:=g2 j v (by simpa using hj)
     rwa[show base+(off+1)+j=base+off+(j+1) by omega]at this
   ·simp only[cT,List.mem_cons]at hj
    rcases hj with hj|hj
    ·exact hj
    ·exact g4 j hj
  |false=>
   rw[hz]at hd
   simp only[cond_false]at hd⊢
   obtain⟨_,t,ht,hy⟩:=Wk.be (Wk.jX zs _ _ _ _ _ _ (off+1) hd)
   obtain⟨r,h1,h2,h3,h4⟩:=DD (sc:=true) hx hi ht
   obtain⟨c,rfl⟩:=DE (h4 rfl)
   obtain⟨u,h5,h6,_⟩:=fC r h1 h2 off _ h3
   obtain⟨rfl,hs⟩:=h6 c rfl
   obtain⟨vs,g1,g2,g3,g4⟩:=Wk.oD hx hi hp sT fC zs _ (off+1) hd
   refine⟨u::vs,by simp[g1],λj v hj=>?_,⟨⟨.c u,hy,.c hs⟩,g3⟩,λj hj=>g4 j (by simpa[cT]using hj)⟩
   cases j with
   |zero=>simp at hj;subst hj;simpa using h5
   |succ j=>
    have:=g2 j v (by simpa using hj)
    rwa[show base+(off+1)+j=base+off+(j+1) by omega]at this
theorem S6(cQ:dg P cx)(h:Rel M B d up s ρ G a w)(hn:∀n,o.dst=some n->n<a.tmps.size){x:Operand}{t:Nat}(ho:o.op=.load t x)
  (hk:∃k1 v,loadAt cx (cx.nest bY) ⟨s.only R,[],ct,[]⟩ t (bC d (Wk.get ⟨s.only R,[],ct,[]⟩) x)=some (k1,v)∧bn d o k1 v=k')(hd:k'.aO S ρ):bf P M B d up ρ a w s o k'.w Q∧k'.ct.i=ct.i:=by
 have hw:=cG.start h R ct
 obtain⟨hr,hm⟩:=hw.f_ x
 obtain⟨k1,v,hv,hk⟩:=hk
 have dG:bn d o k1 v=k':=hk
 subst dG
 have gy:=bZ.1 hd
 have exe:∀{val:Value} {b off:Nat},a.eval x=.pointer (some ⟨b,off,none⟩)->(Instr.loadAt t (.pointer (some ⟨b,off,none⟩))).run P w=.ok val w->(execOp a.eval o).run P w=.ok (.value val) w:=by
  intro val b off he hl
  refine yD (x:=Instr.loadAt t (a.eval x)) (by unfold execOp;rw[ho]) ?_
  rw[he];exact hl
 have pK:∀{k0:Wk} {G1:Gh} {ti:TI} {y ix:Lf} {xs:List (List T)} {i wd off b base:Nat} {sc:Bool},cx.ty t=some ti->cG M B d up ρ G a w k0 G1->k0.ct.i=ct.i->
   y.eE ρ=some (.l xs)->k_ ρ ix=some i->a.eval x=.pointer (some ⟨b,base+off,none⟩)->
   (∀r,xs[i]?=some r->r.length=wd->∀j t,r[j]?=some t->(sc=true->cF t=true)->∃u,w.cell? ⟨b,base+j,none⟩=some u∧dF G1.q w t u)->
   (k0.row sc y ix wd off ti.sz).1=k1->SV.v ti.ag (k0.row sc y ix wd off ti.sz).2=v->bf P M B d up ρ a w s o (bn d o k1 v).w Q∧(bn d o k1 v).ct.i=ct.i:=by
  intro k0 G1 ti y ix xs i wd off b base sc eh pJ iv hy hi he fC h1 h2
  subst h1 h2
  obtain⟨vs,g1,g2,g3,g4⟩:=Wk.tW (S:=S) hy hi fC ti.sz k0 off gy
  have hT:=cQ.ty _ _ eh
  refine⟨qh h (pJ.same (Wk.oC _ _ _ _ _ _ _)) hn (exe he (Jj hT g1 g2)) (Jl hT g3 g1) (λj hj=>by simp[cD,g4]at hj) Q,?_⟩
  rw[lH,(Wk.oC ti.sz k0 sc y ix wd off).i,iv]
 unfold loadAt at hv
 split at hv
 ·rename_i bx off dh
  rw[dh]at hr hm
  simp only[bU]at hv
  obtain⟨ti,eh,hv⟩:=hv
  split at hv
  ·rename_i ag cs sr
   cases hle:Nat.ble (off+ti.sz) cs.length with
   |false=>simp[hle]at hv
   |true=>
    simp only[hle,cond_true,aH,Prod.mk.injEq]at hv
    obtain⟨rfl,rfl⟩:=hv
    have hb:=hw.rel.bx bx
    rw[<-Wk.aD,sr]at hb
    obtain⟨_,aN,elem,hh,jy⟩:=hb
    have hT:=cQ.ty _ _ eh
    have S7:=(jy.drop off).take ti.sz
    have hlen:((aN.toList.drop off).take ti.sz).length=ti.sz:=by
     have:=jy.length
     have:=Nat.le_of_ble_eq_true hle
     simp only[List.length_take,List.length_drop]
     omega
    refine⟨qh h hw hn (exe hr (Jj hT hlen λj v hj=>?_)) (Jl hT S7 hlen) (λj hj=>?_) Q,by rw[lH]⟩
    ·rw[sq hh]
     rw[List.getElem?_take]at hj
     split at hj
     ·rw[List.getElem?_drop]at hj;simpa using hj
     ·cases hj
    ·have uQ:=DB cs off j (DC _ _ j hj)
     refine hw.rel.eY (.x bx) j ?_
     rw[<-Wk.aD,sr];exact uQ
  ·cases hv
 ·rename_i s' ix wd off dh
  rw[dh]at hr
  simp only[bU,aH,Prod.mk.injEq]at hv
  obtain⟨ti,eh,h1,h2⟩:=hv
  obtain⟨xs,i,r,b,base,e1,e2,e3,e4,e5⟩:=hr
  refine pK eh hw rfl e1 e2 e4 (λr' ij hl j t' ht _=>?_) h1 h2
  rw[e3]at ij
  cases ij
  exact(e5 hl).2.2 j t' ht
 ·rename_i id q ix wd off dh
  rw[dh]at hr
  simp only[bU]at hv
  obtain⟨ti,eh,hv⟩:=hv
  obtain⟨p,b,n,cap,i,e1,e2,e3,e4,e5⟩:=hr
  have c_:=hw.obj id
  split at hv
  ·rename_i y hy
   rw[hy]at c_
   obtain⟨tt,ht,aW⟩:=c_
   have mV:∃ys,tt=.l ys:=by cases aW<;>exact⟨_,rfl⟩
   cases pL:(cx.nest bY&&ti.zero.any dU&&Nat.beq ti.zero.length ti.sz&&Nat.beq (id%2) 1)with
   |true=>
    simp only[pL,cond_true,aH,Prod.mk.injEq]at hv
    obtain⟨h1,h2⟩:=hv
    subst h1 h2
    have sT:id%2=1:=by
     simp only[bd]at pL
     exact cO pL.2
    have ql:ti.zero.length=ti.sz:=by
     simp only[bd]at pL
     exact cO pL.1.2
    have uR:=Wk.jX _ _ _ _ _ _ _ _ gy
    obtain⟨z,hz,vR,S8⟩:=Wk.fL q _ y uR ht (zR e1) (.inr mV)
    have wR:∃ys,z=.l ys:=by
     rcases S8 with rfl|h'
     ·simp only[lu]at e1;cases e1;simp[gf]at hz;subst hz;exact mV
     ·exact h'
    obtain⟨zs,rfl⟩:=wR
    have i_:=dx.nC p aW hz ⟨zs,rfl⟩
    simp only[List.nil_append]at i_
    obtain⟨vs,g1,g2,g3,g4⟩:=Wk.oD (S:=S) (b:=b) (base:=i*wd) (wd:=wd) vR e3 (zR e1) sT (λr ij hl j t' iN=>by
     obtain⟨v',hc,ha,_,hb⟩:=i_.row e2 ij hl j t' iN
     exact⟨v',hc,ha,λys hy=>hb ys hy rfl⟩) ti.zero _ off gy
    have hT:=cQ.ty _ _ eh
    refine⟨qh h ((hw.same (Wk.dK q _ y)).same (Wk.ld _ _ _ _ _ _ _ _)) hn (exe e5 (Jj hT (by rw[g1,ql]) g2)) (Jl hT g3 (by rw[g1,ql])) (λj hj=>?_) Q,?_⟩
    ·have:=g4 j (by simpa[cD]using hj)
     subst this
     rw[dh]at hm
     exact hm j (by simp[cD])
    ·rw[lH,(Wk.ld _ _ _ _ _ _ _ _).i,(Wk.dK q _ y).i]
   |false=>
    simp only[pL,cond_false]at hv
    cases hz:ti.zero.any dU with
    |true=>
     simp only[hz,cond_true]at hv
     split at hv
     ·cases jY:Nat.beq (id%2) 0 with
      |true=>
       simp only[jY,cond_true,aH,Prod.mk.injEq]at hv
       obtain⟨h1,h2⟩:=hv
       have S9:=cO jY
       simp only[lu]at e1
       cases e1
       obtain⟨ys,rfl⟩:=mV
       refine pK eh hw rfl ht e3 e5 (λr ij hl j t' iN _=>?_) h1 h2
       obtain⟨v',hc,ha,_,hb⟩:=aW.row e2 ij hl j t' iN
       refine⟨v',hc,?_⟩
       cases t' with
       |c u=>obtain⟨rfl,hs⟩:=ha u rfl;exact .c hs
       |l zs=>
        rw[hb zs rfl rfl]
        have aS:cP ys i j=some (.l zs):=by simp[cP,ij,iN]
        have i_:=dx.nC [(i,j)] aW (by simp[gf,aS]) ⟨zs,rfl⟩
        exact i_.Jc (.inr ⟨S9,by simp⟩) rfl
      |false=>
      simp only[jY,cond_false]at hv
      simp only[bU,aH,Prod.mk.injEq]at hv
      obtain⟨k2,dG,h1,h2⟩:=hv
      obtain⟨G2,hw2,zU,hH,rz,mM,his⟩:=hw.flat dG
      simp only[lu]at e1
      cases e1
      have Jo:=hw2.obj id
      have Jp:k2.get (.o id)=.ob false y:=by
       unfold Wk.flat at dG
       rw[hy]at dG
       cases dG
       simp[Wk.get,Wk.set,St.aJ]
      rw[Jp]at Jo
      obtain⟨tt2,Jq,oE⟩:=Jo
      obtain⟨ys,rfl⟩:∃ys,tt2=.l ys:=by cases oE<;>exact⟨_,rfl⟩
      refine pK eh hw2 (by rw[mM]) Jq e3 e5 (λr ij hl j t' iN _=>?_) h1 h2
      obtain⟨v',hc,ha,hb,_⟩:=oE.row (by rw[hH];exact e2) ij hl j t' iN
      refine⟨v',hc,?_⟩
      cases t' with
      |c u=>obtain⟨rfl,hs⟩:=ha u rfl;exact .c hs
      |l zs=>exact hb zs rfl rfl
     ·cases hv
    |false=>
     simp only[hz,cond_false,aH,Prod.mk.injEq]at hv
     obtain⟨h1,h2⟩:=hv
     subst h1 h2
     have uR:=Wk.qj _ _ _ _ _ _ _ gy
     obtain⟨z,qT,vR,ql⟩:=Wk.fL q _ y uR ht (zR e1) (.inr mV)
     have wR:∃ys,z=.l ys:=by
      rcases ql with rfl|h'
      ·simp only[lu]at e1;cases e1;simp[gf]at qT;subst qT;exact mV
      ·exact h'
     obtain⟨zs,rfl⟩:=wR
     have i_:=dx.nC p aW qT ⟨zs,rfl⟩
     simp only[List.nil_append]at i_
     refine pK eh (hw.same (Wk.dK q _ y)) (by rw[(Wk.dK q _ y).i]) vR e3 e5 (λr ij hl j t' iN lA=>?_) rfl rfl
     obtain⟨v',hc,ha,_,_⟩:=i_.row e2 ij hl j t' iN
     obtain⟨u,rfl⟩:=DE (lA rfl)
     obtain⟨rfl,hs⟩:=ha u rfl
     exact⟨_,hc,.c hs⟩
  ·rename_i y hy
   rw[hy]at c_
   split at hv
   ·simp only[aH,Prod.mk.injEq]at hv
    obtain⟨h1,h2⟩:=hv
    obtain⟨tt,ht,aW⟩:=c_
    obtain⟨ys,rfl⟩:∃ys,tt=.l ys:=by cases aW<;>exact⟨_,rfl⟩
    simp only[lu]at e1
    cases e1
    refine pK eh hw rfl ht e3 e5 (λr ij hl j t' iN _=>?_) h1 h2
    obtain⟨v',hc,ha,hb,_⟩:=aW.row e2 ij hl j t' iN
    refine⟨v',hc,?_⟩
    cases t' with
    |c u=>obtain⟨rfl,hs⟩:=ha u rfl;exact .c hs
    |l zs=>exact hb zs rfl rfl
   ·cases hv
  ·rename_i y hy
   rw[hy]at c_
   split at hv
   ·simp only[aH,Prod.mk.injEq]at hv
    obtain⟨h1,h2⟩:=hv
    obtain⟨tt,ht,db,_⟩:=c_
    simp only[lu]at e1
    cases e1
    rw[e2]at db
    obtain⟨ys,rfl⟩:∃ys,tt=.l ys:=by
     cases tt with
     |c v=>have:=db.scalar;cases this.1▸this.2
     |l ys=>exact⟨ys,rfl⟩
    refine pK (b:=b) (base:=i*wd) eh hw rfl ht e3 e5 (λr ij hl j t' iN _=>?_) h1 h2
    obtain⟨v',hc,n9⟩:=(db.row ij hl).2.2 j t' iN
    exact⟨v',by simpa using hc,n9⟩
   ·cases hv
  ·cases hv
 ·cases hv
theorem S_{x i:T}{r:T}(h:Prim.ev .ic [x,i]=some r):∃xs kk n,x=.l xs∧i=.c (.int kk n)∧0<=n∧∃row,xs[n.toNat]?=some row:=by
 simp only[Prim.ev,sE,bU]at h
 obtain⟨row,⟨xs,hx,n,hn,hr⟩,_⟩:=h
 cases x with
 |c v=>simp[T.rows]at hx
 |l ys=>
  simp only[T.rows,aH]at hx
  subst hx
  cases i with
  |l _=>simp[T.int]at hn
  |c v=>
   cases v with
   |int kk m=>
    simp only[T.int,aH]at hn
    subst hn
    split at hr
    ·rename_i h0;exact⟨ys,kk,m,rfl,rfl,h0,row,hr⟩
    ·cases hr
   |_=>simp[T.int]at hn
theorem Jr{x:Lf}{kk:IntKind}{n:Int}(h:x.eE ρ=some (.c (.int kk n)))(h0:0<=n):k_ ρ x=some n.toNat:=by
 simp[k_,h,h0]
theorem S'{t:Nat}{ti te:TI}(hT:rv P t ti)(hE:rv P ti.el te)(hk:ti.kd=3){b off len cap:Nat}{kk:IntKind}{n:Int}(h0:0<=n)(hn:n<len):
  (Instr.indexAt t (.slice (some ⟨b,off,none⟩) len cap) (.int kk n)).run P w=.ok (.pointer (some ⟨b,off+n.toNat*te.sz,none⟩)) w:=by
 have hu:=hT.sl hk
 obtain⟨i,z,hi,hs,_,_,_⟩:=hE.info
 simp[Instr.indexAt,asIntOf,run_underlying hu,h0,hn,sizeOf,typeInfo,hi,hs,Addr.add_lit]
theorem DF{lo:Lf}{n:Nat}(h:B6 lo=true)(h2:k_ ρ lo=some n):n=0:=by
 unfold B6 at h
 split at h
 ·rename_i k m
  have hm:m=0:=of_decide_eq_true h
  subst hm
  simp[k_,Lf.eE,iY]at h2
  exact h2.symm
 ·cases h
theorem Ta(cQ:dg P cx)(h:Rel M B d up s ρ G a w)(hn:∀n,o.dst=some n->n<a.tmps.size){x y:Operand}{t:Nat}(ho:o.op=.indexAddr t x y)
  (hk:gv cx bY dS d o oi ⟨s.only R,[],ct,[]⟩=some k')(hd:k'.aO S ρ):bf P M B d up ρ a w s o k'.w Q∧k'.ct.i=ct.i:=by
 have hw:=cG.start h R ct
 obtain⟨hr,hm⟩:=hw.f_ x
 have Dy:=(hw.f_ y).1
 simp only[gv,ho,indexAt,bU,aH]at hk
 obtain⟨⟨k1,v⟩,⟨ti,eh,te,mK,hv⟩,hk⟩:=hk
 have dG:bn d o k1 v=k':=hk
 subst dG
 have gy:=bZ.1 hd
 have hT:=cQ.ty _ _ eh
 have hE:=cQ.ty _ _ mK
 cases o3:Nat.beq ti.kd 3 with
 |false=>simp[o3]at hv
 |true=>
  have nL:=cO o3
  simp only[o3,cond_true,bU]at hv
  obtain⟨⟨k2,ix⟩,h1,hv⟩:=hv
  have exe:∀{b off len cap:Nat} {kk:IntKind} {n:Int},a.eval x=.slice (some ⟨b,off,none⟩) len cap->a.eval y=.int kk n->0<=n->n<len->
    (execOp a.eval o).run P w=.ok (.value (.pointer (some ⟨b,off+n.toNat*te.sz,none⟩))) w:=by
   intro b off len cap kk n e1 e2 h0 bI
   refine yD (x:=Instr.indexAt t (a.eval x) (a.eval y)) (by unfold execOp;rw[ho]) ?_
   rw[e1,e2];exact S' hT hE nL h0 bI
  have iZ:Wk.dL ⟨s.only R,[],ct,[]⟩ k2:=by
   unfold Wk.one at h1;split at h1
   ·exact Wk.cX h1
   ·cases h1
  have Tb:∀{k3:Wk} {z:Lf},(k3.em .ic [z,ix]).1.aO S ρ->(k3.aO S ρ->k2.aO S ρ)->∃xs kk n row,k3.aO S ρ∧z.ev ρ=.l xs∧a.eval y=.int kk n∧0<=n∧xs[n.toNat]?=some row∧k_ ρ ix=some n.toNat:=by
   intro k3 z tX DG
   obtain⟨Cf,r,o4,_⟩:=Wk.be tX
   obtain⟨_,_,t1,ht1,lz⟩:=Wk.eK hw h1 (DG Cf) Dy
   simp only[List.map_cons,List.map_nil,Lf.a_ ht1]at o4
   obtain⟨xs,kk,n,hx,hi,h0,row,fC⟩:=S_ o4
   subst hi
   obtain⟨e,_⟩:=lz.scalar
   exact⟨xs,kk,n,row,Cf,hx,e,h0,fC,Jr ht1 h0⟩
  have wS:∀{xs:List (List T)} {n:Int} {row:List T},0<=n->xs[n.toNat]?=some row->n<xs.length:=by
   intro xs n row h0 fC
   have:=(List.getElem?_eq_some_iff.1 fC).1
   omega
  have plain:∀{z:Lf} {tt:T} {val:Value} {k3:Wk} ,k3=k2->z.eE ρ=some tt->dF G.q w tt val->a.eval x=val->k1=(k3.em .ic [z,ix]).1->v=.fp z ix te.sz 0->
    bf P M B d up ρ a w s o (bn d o k1 v).w Q∧(bn d o k1 v).ct.i=ct.i:=by
   intro z tt val k3 o3 hz db dM e1 e2
   subst o3 e1 e2
   obtain⟨xs,kk,n,row,_,hx,he,h0,fC,cM⟩:=Tb gy id
   rw[Lf.a_ hz]at hx
   subst hx
   have bI:=wS h0 fC
   obtain⟨ad,cap,qV,_⟩:=db.rows
   subst qV
   cases db with
   |nil=>simp at bI;omega
   | @l _ b off z6 qk cv g1 g2 g3 g4 g5 g6=>
    refine⟨qh h ((hw.same iZ).same (Wk.aT _ _ _)) hn (x:=.fp z ix te.sz 0) (exe dM he h0 bI) ?_ (λi hi=>by simp[cD]at hi) Q,?_⟩
    ·refine⟨xs,n.toNat,row,b,off+n.toNat*te.sz,hz,cM,fC,rfl,λhl=>?_⟩
     exact(dF.l g1 g2 g3 g4 g5 g6).row fC hl
    ·rw[lH,(Wk.aT _ _ _).i,iZ.i]
  have owned:∀{id:Nat} {q:ma} {p:List (Nat×Nat)} {z:Lf} {zs:List (List T)} {dp:Bool} {k3:Wk},k2.dL k3->(k3.aO S ρ->k2.aO S ρ)->jH ρ id q=some p->
    z.eE ρ=some (.l zs)->dx G w id dp p (.l zs)->a.eval x=G.H id p->M id->k1=(k3.em .ic [z,ix]).1->v=.ep id q ix te.sz 0->
    bf P M B d up ρ a w s o (bn d o k1 v).w Q∧(bn d o k1 v).ct.i=ct.i:=by
   intro id q p z zs dp k3 hsm DG hp hz aW dM hM e1 e2
   subst e1 e2
   obtain⟨xs,kk,n,row,_,hx,he,h0,fC,cM⟩:=Tb gy DG
   rw[Lf.a_ hz]at hx
   cases hx
   have bI:=wS h0 fC
   cases aW with
   |nil hH=>simp at bI;omega
   | @l _ _ _ b z6 qk aN elem fr cv g1 g2 g3 g4 g5 g6 g7 g8 g9 qU wQ=>
    refine⟨qh h ((((hw.same iZ).same hsm)).same (Wk.aT _ _ _)) hn (x:=.ep id q ix te.sz 0) (exe (by rw[dM,g1]) he h0 bI) ?_ (λi hi=>by simp[cD]at hi;rw[hi];exact hM) Q,?_⟩
    ·exact⟨p,b,_,_,n.toNat,hp,g1,cM,by omega,by simp⟩
    ·rw[lH,(Wk.aT _ _ _).i,hsm.i,iZ.i]
  split at hv
  ·rename_i z dh
   rw[dh]at hr
   obtain⟨e,he,n_,_⟩:=hr
   cases he
   obtain⟨tt,hz,db⟩:=n_
   simp only[aH,Prod.mk.injEq]at hv
   exact plain rfl hz db rfl hv.1.symm hv.2.symm
  ·rename_i id q dh
   rw[dh]at hr hm
   obtain⟨e,he,n_,_⟩:=hr
   cases he
   obtain⟨p,hp,dM⟩:=n_
   have hM:M id:=hm id (by simp[cD,cT])
   have c_:=(hw.same iZ).obj id
   split at hv
   ·rename_i q' z hz
    rw[hz]at c_
    obtain⟨tt,ht,aW⟩:=c_
    have mV:∃ys,tt=.l ys:=by cases aW<;>exact⟨_,rfl⟩
    simp only[aH,Prod.mk.injEq]at hv
    obtain⟨e1,e2⟩:=hv
    subst e1
    have uR:=(Wk.be gy).1
    obtain⟨u,hu,vR,ql⟩:=Wk.fL _ _ z uR ht (zR hp) (.inr mV)
    have wR:∃ys,u=.l ys:=by
     rcases ql with hq0|h'
     ·have hp:=zR hp;rw[hq0]at hp;simp only[fm]at hp;cases hp;simp[gf]at hu;subst hu;exact mV
     ·exact h'
    obtain⟨zs,rfl⟩:=wR
    have i_:=dx.nC p aW hu ⟨zs,rfl⟩
    simp only[List.nil_append]at i_
    exact owned (Wk.dK _ _ z) (Wk.jV _ _ _) hp vR i_ dM hM rfl e2.symm
   ·rename_i z hz
    rw[hz]at c_
    obtain⟨tt,ht,aW⟩:=c_
    obtain⟨ys,rfl⟩:∃ys,tt=.l ys:=by cases aW<;>exact⟨_,rfl⟩
    simp only[aH,Prod.mk.injEq]at hv
    simp only[lu]at hp
    cases hp
    exact owned (.refl _) (λh=>h) rfl ht aW dM hM hv.1.symm hv.2.symm
   ·rename_i tk x0 lo z hz
    rw[hz]at c_
    obtain⟨tt,ht,db,_,F,n0,zs,_,mW,rfl,_,rA,Hh⟩:=c_
    simp only[lu]at hp
    cases hp
    cases ql:B6 lo with
    |false=>
     simp only[ql,cond_false,aH,Prod.mk.injEq]at hv
     exact plain rfl ht db dM hv.1.symm hv.2.symm
    |true=>
     simp only[ql,cond_true,aH,Prod.mk.injEq]at hv
     have uS:n0=0:=DF ql mW
     obtain⟨e1,e2⟩:=hv
     subst e1 e2
     obtain⟨xs,kk,n,row,_,hx,he,h0,fC,cM⟩:=Tb gy (λh=>h)
     rw[Lf.a_ ht]at hx
     cases hx
     have bI:=wS h0 fC
     obtain⟨ad,cap,qV,_⟩:=db.rows
     rw[qV]at db
     generalize qS:Value.slice ad zs.length cap=vv at db
     cases db with
     |nil=>simp at bI;omega
     | @l _ b off z6 qk cv g1 g2 g3 g4 g5 g6=>
      cases qS
      have wT:=Hh uS b off _ _ qV
      subst wT
      refine⟨qh h ((hw.same iZ).same (Wk.aT _ _ _)) hn (x:=.ep id [] ix te.sz 0) (exe (by rw[dM,qV]) he h0 bI) ?_ (λi hi=>by simp[cD]at hi;rw[hi];exact hM) Q,?_⟩
      ·exact⟨[],b,_,_,n.toNat,rfl,qV,cM,by omega,by simp⟩
      ·rw[lH,(Wk.aT _ _ _).i,iZ.i]
   ·rename_i pv z _ hz
    rw[hz]at c_
    obtain⟨tt,ht,db,_⟩:=c_
    simp only[aH,Prod.mk.injEq]at hv
    simp only[lu]at hp
    cases hp
    exact plain rfl ht db dM hv.1.symm hv.2.symm
   ·cases hv
  ·cases hv
theorem aE.append:∀{cs es:List Ce} {vs us:List Value},aE G w ρ cs vs->aE G w ρ es us->aE G w ρ (cs++es) (vs++us)
 | [],_,[],_,_,h=>h
 | [],_,_::_,_,h,_=>h.elim
 |_::_,_,[],_,h,_=>h.elim
 |_::cs,_,_::vs,_,h,h'=>⟨h.1,aE.append h.2 h'⟩
theorem aE.fj{cs es:List Ce}{vs us:List Value}(off:Nat)(h:aE G w ρ cs vs)(h':aE G w ρ es us):
  aE G w ρ (fj cs off es) (vs.take off++us++vs.drop (off+us.length)):=by
 unfold Go.Proofs.YtbhplkilhknciaaC.fj
 rw[<-h'.length]
 exact((h.take off).append h').append (h.drop _)
theorem DH(cs es:List Ce):cT (cs++es)=cT cs++cT es:=by
 induction cs with
 |nil=>rfl
 |cons c cs ih=>rw[List.cons_append,uO,uO c cs,ih,List.append_assoc]
theorem Jt(cs es:List Ce)(off:Nat):∀i∈cT (fj cs off es),i∈cT cs∨i∈cT es:=by
 intro i hi
 unfold fj at hi
 rw[DH,DH]at hi
 simp only[List.mem_append]at hi
 rcases hi with(hi|hi)|hi
 ·exact .inl (DC _ _ i hi)
 ·exact .inr hi
 ·exact .inl (DB _ _ i hi)
def uT:List Value->Nat->Array Value->Array Value
 | [],_,c=>c
 |v::vs,off,c=>uT vs (off+1) (c.setIfInBounds off v)
theorem Ju(off:Nat):∀(vs:List Value) (j:Nat) (c:Array Value),
  (vs.zipIdx j).foldl (λcs p=>cs.setIfInBounds (off+p.2) p.1) c=uT vs (off+j) c
 | [],_,_=>rfl
 |v::vs,j,c=>by
  simp only[List.zipIdx_cons,List.foldl_cons,uT]
  rw[Ju off vs (j+1),Nat.add_assoc]
theorem Cg:∀(vs:List Value) (off:Nat) (c:Array Value),(uT vs off c).size=c.size
 | [],_,_=>rfl
 |v::vs,off,c=>by simp[uT,Cg vs]
theorem Hi:∀(vs:List Value) (off:Nat) (c:Array Value) (i:Nat),off+vs.length<=c.size->
  (uT vs off c)[i]?=if off<=i∧i<off+vs.length then vs[i-off]? else c[i]?
 | [],off,c,i,_=>by
  simp only[uT,List.length_nil]
  rw[if_neg (by omega)]
 |v::vs,off,c,i,h=>by
  simp only[List.length_cons]at h
  simp only[uT]
  rw[Hi vs (off+1) _ i (by simp;omega)]
  by_cases h1:i=off
  ·subst h1
   rw[if_neg (by omega),if_pos (by simp)]
   simp[show i<c.size by omega]
  ·by_cases h2:off+1<=i∧i<off+1+vs.length
   ·rw[if_pos h2,if_pos (by simp;omega)]
    rw[show i-off=(i-(off+1))+1 by omega]
    simp
   ·rw[if_neg h2,if_neg (by simp;omega)]
    rw[Array.getElem?_setIfInBounds_ne (by omega)]
theorem QR(vs:List Value)(off:Nat)(c:Array Value)(h:off+vs.length<=c.size):
  (uT vs off c).toList=c.toList.take off++vs++c.toList.drop (off+vs.length):=by
 apply List.ext_getElem?
 intro i
 rw[Array.getElem?_toList,Hi vs off c i h]
 have hl:(c.toList.take off).length=off:=by simp;omega
 by_cases h1:i<off
 ·rw[if_neg (by omega),List.append_assoc,List.getElem?_append_left (by omega),List.getElem?_take,if_pos h1,Array.getElem?_toList]
 ·rw[List.append_assoc,List.getElem?_append_right (by omega),hl]
  by_cases h2:i<off+vs.length
  ·rw[if_pos ⟨by omega,h2⟩,List.getElem?_append_left (by omega)]
  ·rw[if_neg (by omega),List.getElem?_append_right (by omega),List.getElem?_drop,Array.getElem?_toList]
   congr 1
   omega
theorem Jv{ag:Bool}{cs:List Ce}{v:Value}(h:dW G w ρ ag cs v):aE G w ρ cs v.cells.toList:=by
 cases ag with
 |true=>obtain⟨vs,rfl,h⟩:=h;exact h
 |false=>
  obtain⟨e,rfl,h,hn⟩:=h
  have:v.cells=#[v]:=by
   cases v<;>first|rfl|exact absurd rfl (hn _)
  rw[this]
  exact⟨h,trivial⟩
theorem Ch:∀{cs:List Ce} {vs:List Value},wM cs vs->aE G w ρ cs vs∧cT cs=[]
 | [],[],_=>⟨trivial,rfl⟩
 | [],_::_,h=>h.elim
 | .p (.k v)::cs,v'::vs,h=>by
  obtain⟨rfl,hs,h⟩:=h
  obtain⟨h1,h2⟩:=Ch h
  exact⟨⟨⟨.c v,by simp[Lf.eE,hs],.c hs⟩,h1⟩,by simp[cT,h2]⟩
 | .n::cs,v::vs,h=>by
  obtain⟨rfl,h⟩:=h
  obtain⟨h1,h2⟩:=Ch h
  exact⟨⟨rfl,h1⟩,by simp[cT,h2]⟩
 | .p (.k _)::_,[],h=>h.elim
 | .n::_,[],h=>h.elim
 | .p (.a _)::_,[],h=>h.elim
 | .p (.a _)::_,_::_,h=>h.elim
 | .p .e::_,[],h=>h.elim
 | .p .e::_,_::_,h=>h.elim
 | .o _ _::_,[],h=>h.elim
 | .o _ _::_,_::_,h=>h.elim
 | .d::_,[],h=>h.elim
 | .d::_,_::_,h=>h.elim
theorem DJ{G1:Gh}{k:Wk}(hw:cG M B d up ρ G a w k G1){fs:List (Nat×Nat)}{place:Nat->Option (Nat×Nat)}(yE:∀f o,fs[f]?=some o->place f=some o):
  ∀(ps:List (Nat×Operand)) (l:List (Nat×List Ce)) (zs cs:List Ce) (aN:Array Value),parts d k.get fs ps=some l->uE zs l=some cs->aE G1 w ρ zs aN.toList->
   (∀i∈cT zs,M i)->∃gI,Instr.fill place aN (ps.map λp=>(p.1,a.eval p.2))=some gI∧aE G1 w ρ cs gI.toList∧(∀i∈cT cs,M i)∧gI.size=aN.size
 | [],l,zs,cs,aN,hp,hc,hz,hi=>by
  simp only[parts,aH]at hp
  subst hp
  simp only[uE,aH]at hc
  subst hc
  exact⟨aN,rfl,hz,hi,rfl⟩
 |(f,x)::ps,l,zs,cs,aN,hp,hc,hz,hi=>by
  simp only[parts,bU]at hp
  obtain⟨of,hf,es,qW,hp⟩:=hp
  cases hle:Nat.beq es.length of.2 with
  |false=>simp[hle]at hp
  |true=>
   simp only[hle,cond_true,bU,aH]at hp
   obtain⟨l',gx,rfl⟩:=hp
   simp only[uE]at hc
   cases hb:Nat.ble (of.1+es.length) zs.length with
   |false=>simp[hb]at hc
   |true=>
    simp only[hb,cond_true]at hc
    obtain⟨hr,hm⟩:=hw.f_ x
    unfold cellsOf at qW
    split at qW
    ·rename_i ag es' dh
     cases qW
     rw[dh]at hr hm
     have jy:=Jv hr
     have hlen:=jy.length
     have ql:=hz.length
     have h1:=cO hle
     have h2:=Nat.le_of_ble_eq_true hb
     simp only[Array.length_toList]at hlen ql
     have jZ:of.1+(a.eval x).cells.toList.length<=aN.size:=by simp only[Array.length_toList];omega
     have z7:(((a.eval x).cells.zipIdx.foldl (λcs (c,j)=>cs.setIfInBounds (of.1+j) c) aN))=uT (a.eval x).cells.toList of.1 aN:=by
      rw[<-Array.foldl_toList,Array.toList_zipIdx]
      exact Ju of.1 _ 0 aN
     have qT:=aE.fj of.1 hz jy
     rw[<-QR _ _ _ jZ]at qT
     obtain⟨gI,g1,g2,g3,g4⟩:=DJ hw yE ps l' _ cs (uT (a.eval x).cells.toList of.1 aN) gx hc qT λi bw=>by
      rcases Jt _ _ _ i bw with h|h
      ·exact hi i h
      ·exact hm i h
     refine⟨gI,?_,g2,g3,by rw[g4,Cg]⟩
     simp only[List.map_cons,Instr.fill,yE f of hf]
     rw[if_neg]
     ·rw[z7];exact g1
     ·simp only[Array.length_toList]at jZ
      simp only[Bool.or_eq_true,decide_eq_true_eq]
      omega
    ·cases qW
theorem Jw:∀(l:List Field),(∀f∈l,∃i,P.info? f.type=some i)->
  (l.mapM λf=>(do pure (f.offset,<-sizeOf f.type):Sem (Nat×Nat))).run P w=.ok (l.map λf=>(f.offset,((P.info? f.type).map (·.size)).getD 0)) w
 | [],_=>rfl
 |f::l,h=>by
  obtain⟨i,hi⟩:=h f (by simp)
  have ih:=Jw l λg hg=>h g (by simp[hg])
  have h1:(do pure (f.offset,<-sizeOf f.type):Sem (Nat×Nat)).run P w=.ok (f.offset,i.size) w:=by
   simp[sizeOf,typeInfo,hi]
  rw[List.mapM_cons,Sem.run_bind,h1]
  simp only[Result.andThen_ok,Sem.run_bind,ih,Sem.run_pure,List.map_cons,hi,Option.map_some,Option.getD_some]
theorem Tc(cQ:dg P cx)(h:Rel M B d up s ρ G a w)(hn:∀n,o.dst=some n->n<a.tmps.size){t:Nat}{ps:Array (Nat×Operand)}(ho:o.op=.build t ps)
  (hk:gv cx bY dS d o oi ⟨s.only R,[],ct,[]⟩=some k'):bf P M B d up ρ a w s o k'.w Q∧k'.ct.i=ct.i:=by
 have hw:=cG.start h R ct
 simp only[gv,ho,bU]at hk
 obtain⟨ti,eh,hk⟩:=hk
 cases DK:ti.ag with
 |false=>simp[DK]at hk
 |true=>
 simp only[DK,cond_true,bU,aH]at hk
 obtain⟨l,hl,cs,jy,hk⟩:=hk
 have dG:bn d o ⟨s.only R,[],ct,[]⟩ (.v true cs)=k':=hk
 subst dG
 have hT:=cQ.ty _ _ eh
 obtain⟨i,z,hi,hs,_,hz,sR⟩:=hT.info
 obtain⟨u,hu,mL,_⟩:=hT.ag
 obtain⟨z8,qT⟩:=Ch (G:=G) (w:=w) (ρ:=ρ) sR
 obtain⟨fs,rfl⟩:=mL.1 DK
 have hlen:=hT.fl fs hu
 have wU:∀f∈fs.toList,∃i,P.info? f.type=some i:=by
  intro f hf
  obtain⟨n,QS⟩:=List.getElem?_of_mem hf
  have bI:n<ti.fs.length:=by rw[<-hlen,<-Array.length_toList];exact(List.getElem?_eq_some_iff.1 QS).1
  obtain⟨ig,vM,i',e1,e2,_,e4,_⟩:=hT.fs n ti.fs[n] (List.getElem?_eq_getElem bI)
  rw[hu]at e1
  cases e1
  rw[<-Array.getElem?_toList,QS]at e2
  cases e2
  exact⟨i',e4⟩
 have yE:∀(f:Nat) (o:Nat×Nat),ti.fs[f]?=some o->((fs.toList.map λf=>(f.offset,((P.info? f.type).map (·.size)).getD 0)).toArray)[f]?=some o:=by
  intro f o hf
  obtain⟨ig,vM,i',e1,e2,e3,e4,_,e6⟩:=hT.fs f o hf
  rw[hu]at e1
  cases e1
  simp only[List.getElem?_toArray,List.getElem?_map,Array.getElem?_toList,e2,Option.map_some,e4,Option.getD_some,e3,e6]
 obtain⟨gI,g1,g2,g3,g4⟩:=DJ (a:=a) hw (place:=λf=>((fs.toList.map λf=>(f.offset,((P.info? f.type).map (·.size)).getD 0)).toArray)[f]?) yE ps.toList l ti.zero cs z.cells hl jy z8 (λi hi=>by rw[qT]at hi;cases hi)
 refine⟨qh h hw hn (x:=.v true cs) (v:=.agg gI) (yD (x:=Instr.build t (ps.map λ(i,x)=>(i,a.eval x))) (by unfold execOp;rw[ho]) ?_) ⟨gI.toList,by simp,g2⟩ g3 Q,by rw[lH]⟩
 have Td:(fs.mapM λf=>(do pure (f.offset,<-sizeOf f.type):Sem (Nat×Nat))).run P w=.ok (fs.toList.map λf=>(f.offset,((P.info? f.type).map (·.size)).getD 0)).toArray w:=by
  rw[Array.mapM_eq_mapM_toList,Sem.run_map,Jw _ wU]
  rfl
 have z9:(ps.map λ(x:Nat×Operand)=>(x.1,a.eval x.2)).toList=ps.toList.map λp=>(p.1,a.eval p.2):=by simp
 simp only[Instr.build,Sem.run_bind,zeroValue,typeInfo,run_program,hi,Result.andThen_ok,Sem.run_pure,hz,run_underlying hu,Td,z9,g1]
end
section
variable {M M':Nat->Prop} {B:dE} {d:Nat} {up:Nat->Nat->Value} {s:St} {ρ:List T} {G:Gh} {a:Act} {w:World} {S:Nat->ai} {P:Program}
structure wV (M':Nat->Prop) (d:Nat) (up:Nat->Nat->Value) (ρ:List T) (G':Gh) (a':Act) (w':World) (W:St):Prop where
 tm:∀e n u,e<=d->W.look (.t e n)=some u->ca G' w' ρ u (nE up d a' e n)
 bx:∀b u,W.look (.x b)=some u->eX G' w' ρ b u
 ob:∀i u,W.look (.o i)=some u->cb G' w' ρ i u
 eY:∀r u,W.look r=some u->∀i∈cD u,M' i
 key:∀i,(W.look (.x i)≠none∨W.look (.o i)≠none)->M' i
 fE:∀b l,G'.ω b=some l->M' l.id∧b<w'.heap.size
structure iw (w w':World):Prop where
 os:w'.os=w.os
 tape:w'.tape=w.tape
 output:w'.output=w.output
theorem Rel.step(h:Rel M B d up s ρ G a w){N:Nat->Prop}{G':Gh}{w':World}{W:St}(k:cJ (mU W) N G w G' w'){dst:Option Nat}{v:Value}
  (hN:∀i,N i->¬M i)(hM:∀i,M i->M' i)(hd:∀n,dst=some n->W.look (.t d n)≠none)(so:iw w w')(st:wV M' d up ρ G' (a.put dst v) w' W):
  Rel M' B d up (s.dV W) ρ G' (a.put dst v) w':=by
 refine⟨?_,?_,?_,?_,?_,st.fE,?_,?_,λi b hb=>⟨hM i (h.bt i b hb).1,?_⟩⟩
 ·intro e n he
  rw[St.aD]
  cases hl:W.look (.t e n)with
  |some u=>exact st.tm e n u he hl
  |none=>
   rw[Dw λ⟨h1,h2⟩=>hd n h2 (h1▸hl)]
   exact(h.tm e n he).aF k λi hi hn=>hN i hn (h.eY _ i hi)
 ·intro b
  rw[St.aD]
  cases hl:W.look (.x b)with
  |some u=>exact st.bx b u hl
  |none=>
   by_cases hu:s.get (.x b)=.un
   ·simp only[Option.getD_none,hu];trivial
   ·exact(h.bx b).aF k (λhk=>hk hl) (λhn=>hN b hn (h.key b (.inl hu))) λi hi hn=>hN i hn (h.eY _ i hi)
 ·intro i
  rw[St.aD]
  cases hl:W.look (.o i)with
  |some u=>exact st.ob i u hl
  |none=>
   by_cases hu:s.get (.o i)=.un
   ·simp only[Option.getD_none,hu];trivial
   ·exact(h.ob i).aF k (λp hk=>hk hl) (λhn=>hN i hn (h.key i (.inr hu))) λj hj hn=>hN j hn (h.eY _ j hj)
 ·intro r i hi
  rw[St.aD]at hi
  cases hl:W.look r with
  |some u=>rw[hl]at hi;exact st.eY r u hl i hi
  |none=>rw[hl]at hi;exact hM i (h.eY r i hi)
 ·intro i hi
  rw[St.aD,St.aD]at hi
  rcases hi with hi|hi
  ·cases hl:W.look (.x i)with
   |some u=>exact st.key i (.inl (by rw[hl];simp))
   |none=>rw[hl]at hi;exact hM i (h.key i (.inl hi))
  ·cases hl:W.look (.o i)with
   |some u=>exact st.key i (.inr (by rw[hl];simp))
   |none=>rw[hl]at hi;exact hM i (h.key i (.inr hi))
 ·have:=h.dn;cases dst<;>exact this
 ·obtain⟨b1,b2,b3,b4,b5,b6,b7⟩:=h.base
  refine⟨so.os.trans b1,so.tape.trans b2,so.output.trans b3,Nat.le_trans b4 k.size,λb hb h0=>?_,λb hb=>?_,b7⟩
  ·obtain⟨h1,h2⟩:=b5 b hb h0
   obtain⟨_,h4⟩:=k.free b (Nat.lt_of_lt_of_le hb b4) (uN h1)
   exact⟨k.QP b (Nat.lt_of_lt_of_le hb b4) h1,h4.trans h2⟩
  ·obtain⟨h1,h2⟩:=b6 b hb
   obtain⟨h3,h4⟩:=k.own b .f h1 (λhf=>hf)
   exact⟨h3,h4.trans h2⟩
 ·obtain⟨h1,h2⟩:=h.bt i b hb
  rw[(k.nm i λhn=>hN i hn h1).1];exact h2
theorem Te{W W1 W2:St}(hW:∀r,W.look r=(W2.look r).or (W1.look r)):(∀l,mU W1 l->mU W l)∧(∀l,mU W2 l->mU W l):=by
 constructor
 ·intro l hl
  cases l with
  |f=>exact hl
  |x b=>show W.look _≠none;rw[hW];intro e;rw[Option.or_eq_none_iff]at e;exact hl e.2
  |o i p=>show W.look _≠none;rw[hW];intro e;rw[Option.or_eq_none_iff]at e;exact hl e.2
 ·intro l hl
  cases l with
  |f=>exact hl
  |x b=>show W.look _≠none;rw[hW];intro e;rw[Option.or_eq_none_iff]at e;exact hl e.1
  |o i p=>show W.look _≠none;rw[hW];intro e;rw[Option.or_eq_none_iff]at e;exact hl e.1
theorem Ci{k:Wk}{G1:Gh}(h:Rel M B d up s ρ G a w)(hk:cG M B d up ρ G a w k G1){dst:Option Nat}{v:Value}{w':World}{G2:Gh}{N:Nat->Prop}{W W2:St}
  (hW:∀r,W.look r=(W2.look r).or (k.w.look r))(aF:cJ (mU W2) N G1 w G2 w')(hN:∀i,N i->¬M i)(hM:∀i,M i->M' i)
  (hd:∀n,dst=some n->W2.look (.t d n)≠none)(so:iw w w')(st:wV M' d up ρ G2 (a.put dst v) w' W2):
  Rel M' B d up (s.dV W) ρ G2 (a.put dst v) w':=by
 have hg:∀r,(k.r.dV W).get r=((k.r.dV k.w).dV W2).get r:=by
  intro r
  rw[St.aD,St.aD,St.aD,hW]
  cases W2.look r<;>rfl
 obtain⟨k1,k2⟩:=Te hW
 refine h.glue (s':=k.r) ((hk.aF.mono k1 λ_ hf=>hf.elim).trans (aF.mono k2 λ_ hn=>hn)) hN hM (λn hn he=>?_) ((hk.rel.step aF hN hM hd so st).congr hg)
 rw[hW,Option.or_eq_none_iff]at he
 exact hd n hn he.1
variable {cx:Cx} {bY dS oi:Nat} {R:List aK} {ct:Ct} {k':Wk} {o:Oper} {Q:Exit->Act->World->Prop}
def Mn(M:Nat->Prop)(lo hi:Nat):Nat->Prop:=λi=>M i∨(lo<=i∧i<hi)
theorem Mn.left{M:Nat->Prop}{lo hi i:Nat}(h:M i):Mn M lo hi i:=.inl h
theorem Tf{k:Wk}{v:SV}(r:aK):(bn d o k v).w.look r=if o.dst.map (aK.t d)=some r then some v else k.w.look r:=by
 unfold bn
 cases o.dst with
 |none=>simp
 |some n=>
  simp only[Option.map_some,aH]
  split
  ·rename_i he;subst he;exact St.aJ _ _ _
  ·rename_i he;exact St.bP _ _ he
def dN(d:Nat)(o:Oper)(v:SV):St:=match o.dst with|some n=>[(.t d n,v)]|none=>[]
theorem DL{v:SV}(r:aK):(dN d o v).look r=if o.dst.map (aK.t d)=some r then some v else none:=by
 unfold dN
 cases o.dst with
 |none=>simp[St.look]
 |some n=>
  simp only[Option.map_some,aH,St.look]
  cases hb:(aK.t d n).beq r with
  |true=>simp[aK.beq_iff.1 hb]
  |false=>
   have:¬(aK.t d n=r):=λe=>by simp[aK.beq_iff.2 e]at hb
   simp[this]
theorem jz(A C:St)(r:aK):(A++C).look r=(A.look r).or (C.look r):=by
 induction A with
 |nil=>simp[St.look]
 |cons x A ih=>
  obtain⟨r',v⟩:=x
  simp only[List.cons_append,St.look]
  cases r'.beq r<;>simp[ih]
theorem rB(r r':aK)(v:SV):St.look [(r,v)] r'=if r=r' then some v else none:=by
 simp only[St.look]
 cases hb:r.beq r' with
 |true=>simp[aK.beq_iff.1 hb]
 |false=>
  have:¬(r=r'):=λe=>by simp[aK.beq_iff.2 e]at hb
  simp[this]
theorem DM{k k0:Wk}{v:SV}{W2:St}(hk:∀r,k.w.look r=(W2.look r).or (k0.w.look r))(r:aK):(bn d o k v).w.look r=((dN d o v++W2).look r).or (k0.w.look r):=by
 rw[Tf,jz,DL,hk]
 split<;>simp
theorem qm{k:Wk}{r:aK}{v:SV}(r':aK):(k.w.set r v).look r'=(St.look [(r,v)] r').or (k.w.look r'):=by
 rw[rB]
 by_cases h:r=r'
 ·subst h;rw[St.aJ];simp
 ·rw[St.bP _ _ h];simp[h]
theorem iW{x u:SV}{W:St}{r:aK}(h:(dN d o x++W).look r=some u):(∃n,o.dst=some n∧r=.t d n∧u=x)∨W.look r=some u:=by
 rw[jz,DL]at h
 split at h
 ·rename_i he
  cases hd:o.dst with
  |none=>simp[hd]at he
  |some n=>
   simp[hd]at he
   simp at h
   exact .inl ⟨n,rfl,he.symm,h.symm⟩
 ·simp at h
  exact .inr h
theorem gJ{r r':aK}{v u:SV}{W:St}(h:St.look ((r,v)::W) r'=some u):(r'=r∧u=v)∨W.look r'=some u:=by
 simp only[St.look]at h
 cases hb:r.beq r' with
 |true=>simp[hb]at h;exact .inl ⟨(aK.beq_iff.1 hb).symm,h.symm⟩
 |false=>simp[hb]at h;exact .inr h
theorem Cl{x:SV}{W:St}{n:Nat}(h:o.dst=some n):(dN d o x++W).look (.t d n)≠none:=by
 rw[jz,DL,h];simp
def Gh.box(G:Gh)(b i:Nat):Gh:=
 {G with ω:=λc=>if c=b then some (.x i)else G.ω c,β:=λj=>if j=i then b else G.β j}
theorem Jx{s:St}(h:Rel M B d up s ρ G a w){b:Nat}(hb:w.heap.size<=b):G.ω b=none:=by
 cases ho:G.ω b with
 |none=>rfl
 |some l=>have:=(h.fE b l ho).2;omega
theorem z_(w:World)(o:Obj):iw w (w.alloc o):=⟨rfl,rfl,rfl⟩
theorem Jy{k:Wk}{G1:Gh}(h:Rel M B d up s ρ G a w)(hk:cG M B d up ρ G a w k G1)(hn:∀n,o.dst=some n->n<a.tmps.size)(hM:¬M k.ct.i)
  {aN:Array Value}{t:TypeId}{ag:Bool}{cs:List Ce}(jy:aE G1 w ρ cs aN.toList)(z':∀i∈cT cs,M i)
  (hx:(execOp a.eval o).run P w=.ok (.value (.pointer (some ⟨w.heap.size,0,none⟩))) (w.alloc (.cells aN t))):
  bf P (Mn M k.ct.i (k.ct.i+1)) B d up ρ a w s o (bn d o {(k.set (.x k.ct.i) (.v ag cs))with ct:=⟨k.ct.a,k.ct.i+1⟩} (.pt k.ct.i 0)).w Q:=by
 have hf:=Jx hk.rel (Nat.le_refl w.heap.size)
 have hK:cJ (mU (dN d o (.pt k.ct.i 0)++[(.x k.ct.i,.v ag cs)])) (λi=>i=k.ct.i) G1 w (G1.box w.heap.size k.ct.i) (w.alloc (.cells aN t)):=by
  refine⟨by simp,λb hb h0=>?_,λb hb h0=>?_,λb l hb _=>?_,λi hi=>?_⟩
  ·have:b≠w.heap.size:=by omega
   exact⟨(Gh.sO (by simp[Gh.box,this])).trans h0,heap_alloc_old w _ b hb⟩
  ·have:b≠w.heap.size:=by omega
   simp[Gh.box,this,h0]
  ·have bI:=(hk.rel.fE b l hb).2
   have:b≠w.heap.size:=by omega
   exact⟨by simp[Gh.box,this,hb],heap_alloc_old w _ b bI⟩
  ·exact⟨by simp[Gh.box,hi],λ_ _=>rfl⟩
 have cW:∀i∈cT cs,¬(i=k.ct.i):=λi hi e=>hM (e▸z' i hi)
 simp only[bf,Oper.wp,hx,Oper.upon]
 refine⟨G1.box w.heap.size k.ct.i,Ci h hk (W2:=dN d o (.pt k.ct.i 0)++[(.x k.ct.i,.v ag cs)]) (DM (W2:=[(.x k.ct.i,.v ag cs)]) (k:={(k.set (.x k.ct.i) (.v ag cs))with ct:=⟨k.ct.a,k.ct.i+1⟩}) λr=>by exact qm (k:=k) (r:=.x k.ct.i) (v:=.v ag cs) r)
  hK (λi hi=>by subst hi;exact hM) (λi hi=>.inl hi) (λn n9=>Cl n9) (z_ _ _) ?_,vN _ _ _⟩
 have iT:Mn M k.ct.i (k.ct.i+1) k.ct.i:=.inr ⟨Nat.le_refl _,Nat.lt_succ_self _⟩
 refine⟨λe n u he hl=>?_,λb u hl=>?_,λi u hl=>?_,λr u hl i hi=>?_,λi hi=>?_,λb l hb=>?_⟩
 ·rcases iW hl with⟨n',fi,e1,rfl⟩|hl
  ·cases e1
   rw[fi,Hb (hn _ fi)]
   simp[ca,Gh.box]
  ·rcases gJ hl with⟨e1,_⟩|hl
   ·cases e1
   ·cases hl
 ·rcases iW hl with⟨n',fi,e1,rfl⟩|hl
  ·cases e1
  ·rcases gJ hl with⟨e1,rfl⟩|hl
   ·cases e1
    refine⟨by simp[Gh.box],aN,t,?_,jy.aF hK cW⟩
    simpa only[Gh.box,if_pos]using heap_alloc_new w (.cells aN t)
   ·cases hl
 ·rcases iW hl with⟨n',fi,e1,rfl⟩|hl
  ·cases e1
  ·rcases gJ hl with⟨e1,rfl⟩|hl
   ·cases e1
   ·cases hl
 ·rcases iW hl with⟨n',fi,e1,rfl⟩|hl
  ·simp[cD]at hi;subst hi;exact iT
  ·rcases gJ hl with⟨e1,rfl⟩|hl
   ·exact .inl (z' i hi)
   ·cases hl
 ·have:∀r:aK,(r=.x i∨r=.o i)->St.look (dN d o (.pt k.ct.i 0)++[(aK.x k.ct.i,SV.v ag cs)]) r≠none->i=k.ct.i:=by
   intro r hr hl
   obtain⟨u,hu⟩:=Option.ne_none_iff_exists'.1 hl
   rcases iW hu with⟨n',fi,e1,rfl⟩|hl
   ·rcases hr with rfl|rfl<;>cases e1
   ·rcases gJ hl with⟨e1,rfl⟩|hl
    ·rcases hr with rfl|rfl
     ·cases e1;rfl
     ·cases e1
    ·cases hl
  rcases hi with hi|hi
  ·rw[this _ (.inl rfl) hi];exact iT
  ·rw[this _ (.inr rfl) hi];exact iT
 ·simp only[Gh.box]at hb
  split at hb
  ·rename_i he
   cases hb
   exact⟨iT,by simp[he]⟩
  ·obtain⟨h1,h2⟩:=hk.rel.fE b l hb
   exact⟨.inl h1,by simp;omega⟩
theorem Tg(cQ:dg P cx)(h:Rel M B d up s ρ G a w)(hn:∀n,o.dst=some n->n<a.tmps.size){t:Nat}(ho:o.op=.alloc t)
  (hk:gv cx bY dS d o oi ⟨s.only R,[],ct,[]⟩=some k')(hM:∀i,ct.i<=i->i<k'.ct.i->¬M i):bf P (Mn M ct.i k'.ct.i) B d up ρ a w s o k'.w Q:=by
 have hw:=cG.start h R ct
 simp only[gv,ho,bU,aH]at hk
 obtain⟨ti,eh,hk⟩:=hk
 have dG:bn d o {(Wk.set ⟨s.only R,[],ct,[]⟩ (.x ct.i) (.v ti.ag ti.zero))with ct:=⟨ct.a,ct.i+1⟩} (.pt ct.i 0)=k':=hk
 have mM:k'.ct.i=ct.i+1:=by rw[<-dG,lH]
 have hT:=cQ.ty _ _ eh
 obtain⟨i,z,hi,hs,_,hz,sR⟩:=hT.info
 obtain⟨z8,qT⟩:=Ch (G:=G) (w:=w) (ρ:=ρ) sR
 rw[mM,<-dG]
 refine Jy (aN:=z.cells) (t:=t) h hw hn (hM _ (Nat.le_refl _) (by simp only[mM];omega)) z8 (λi hi=>by rw[qT]at hi;cases hi) ?_
 unfold execOp
 rw[ho]
 simp[Instr.alloc,zeroValue,typeInfo,hi,hz,newVar,newRow]
theorem Th(cQ:dg P cx)(h:Rel M B d up s ρ G a w)(hn:∀n,o.dst=some n->n<a.tmps.size){t:Nat}{x:Operand}(ho:o.op=.box t x)
  (hk:gv cx bY dS d o oi ⟨s.only R,[],ct,[]⟩=some k')(hM:∀i,ct.i<=i->i<k'.ct.i->¬M i):bf P (Mn M ct.i k'.ct.i) B d up ρ a w s o k'.w Q:=by
 have hw:=cG.start h R ct
 simp only[gv,ho,bU]at hk
 obtain⟨ti,eh,cs,jy,hk⟩:=hk
 cases hl:Nat.beq cs.length ti.sz with
 |false=>simp[hl]at hk
 |true=>
  simp only[hl,cond_true,aH]at hk
  have dG:bn d o {(Wk.set ⟨s.only R,[],ct,[]⟩ (.x ct.i) (.v ti.ag cs))with ct:=⟨ct.a,ct.i+1⟩} (.pt ct.i 0)=k':=hk
  have mM:k'.ct.i=ct.i+1:=by rw[<-dG,lH]
  obtain⟨hr,hm⟩:=hw.f_ x
  unfold cellsOf at jy
  split at jy
  ·rename_i ag es dh
   cases jy
   rw[dh]at hr hm
   rw[mM,<-dG]
   refine Jy (aN:=(a.eval x).cells) (t:=t) h hw hn (hM _ (Nat.le_refl _) (by simp only[mM];omega)) (Jv hr) hm ?_
   unfold execOp
   rw[ho]
   simp[Instr.box,newVar,newRow]
  ·cases jy
theorem Jz{k:Wk}{G1:Gh}(hk:cG M B d up ρ G a w k G1):∀(xs:List Operand) (bs:List Nat),
  (xs.mapM λx=>match bC d k.get x with| .pt b 0=>some b|_=>none)=some bs->xs.map a.eval=bs.map (λb=>Value.pointer (some ⟨G1.β b,0,none⟩))∧∀b∈bs,M b
 | [],bs,h=>by simp at h;subst h;exact⟨rfl,λ_ h=>by cases h⟩
 |x::xs,bs,h=>by
  simp only[List.mapM_cons,Option.pure_def,Option.bind_eq_bind,bU,aH]at h
  obtain⟨b,hb,uU,JA,rfl⟩:=h
  obtain⟨h1,h2⟩:=Jz hk xs uU JA
  obtain⟨hr,hm⟩:=hk.f_ x
  split at hb
  ·rename_i b' dh
   cases hb
   rw[dh]at hr hm
   refine⟨by simp only[List.map_cons,h1];rw[show a.eval x=_ from hr],λc hc=>?_⟩
   rcases List.mem_cons.1 hc with rfl|hc
   ·exact hm _ (by simp[cD])
   ·exact h2 c hc
  ·cases hb
theorem Ti(h:Rel M B d up s ρ G a w)(hn:∀n,o.dst=some n->n<a.tmps.size){fn:Fn}{first uF:Array Operand}(ho:o.op=.makeFunc fn first uF)
  (hk:gv cx bY dS d o oi ⟨s.only R,[],ct,[]⟩=some k'):bf P M B d up ρ a w s o k'.w Q∧k'.ct.i=ct.i:=by
 have hw:=cG.start h R ct
 cases fn with
 |func f=>
  simp only[gv,ho]at hk
  cases he:first.isEmpty with
  |false=>simp[he]at hk
  |true=>
   simp only[he,cond_true,bU,aH]at hk
   obtain⟨bs,JA,hk⟩:=hk
   have dG:bn d o ⟨s.only R,[],ct,[]⟩ (.cl f bs)=k':=hk
   subst dG
   obtain⟨h1,h2⟩:=Jz hw _ bs JA
   have DN:first=#[]:=by simpa using he
   refine⟨qh h hw hn (x:=.cl f bs) (v:=.func (.func f) #[] (uF.map a.eval)) (yD (x:=Instr.makeFunc (.func f) (first.map a.eval) (uF.map a.eval)) (by unfold execOp;rw[ho]) ?_) ?_ h2 Q,by rw[lH]⟩
   ·rw[DN];simp[Instr.makeFunc]
   ·show _=_
    congr 1
    apply Array.ext'
    simpa using h1
 |_=>simp[gv,ho]at hk
end
end Go.Proofs.YtbhplkilhknciaaC
